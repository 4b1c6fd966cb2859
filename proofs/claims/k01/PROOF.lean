import PyProof.Rows.All
import Wide.All
import OpenK.AllK
import Wide.FinOn
import HandS.ForMost
import HandS.TryOnly
import HandS.ExcOwn
import HandS.ExcCtx
import HandS.TupAny
import HandS.Deep
import HandS.SortInts
import HandS.Style
import HandS.Small
import HandS.StrMore
import HandS.FStr
import HandS.IsInst
import HandS.Wide
import PyProof.StrOps2
import PyProof.Rows.SeqMore
import HandS.Iter
import HandS.Zip
import PyProof.Draws
import PyProof.EnumMake
import PyProof.TupleIter
import HandS.Walk
import HandS.HotCalls
import HandS.NoneIn
import HandS.Replace
import HandS.List
import PyProof.ListNew
import PyProof.SeqWrite
import KE.KDictZip
import HandS.Codes
import HandS.ExcIs
import HandS.HeadHook1
import HandS.Dict
import HandS.Defaults
import HandS.HeadHook2
import HandS.HeadEnd
import HandS.Head0
import HandS.Head1
import HandS.Head2
import HandS.EndBits
import PySem.Challenge.RW_signway_k01_sets
set_option Elab.async false
set_option linter.all false
set_option maxRecDepth 100000
set_option maxHeartbeats 4000000
/-! Mini: a small language of values, trees of owned cells, expressions and statements, and its evaluator. Plain Lean. -/
namespace Mi

/-- frozen values -/
inductive D where
  | non | bl (b : Bool) | int (i : Int) | str (s : List Nat)
  | tup (ds : List D) | lst (ds : List D) | dct (ks vs : List D) | obj (c : Nat) (ns : List Nat) (vs : List D) | exc (c : Nat)
  deriving Inhabited, Repr

/-- values with owned cells -/
inductive C where
  | val (d : D) | lst (cs : List C) | tup (cs : List C) | dct (ks : List D) (cs : List C) | obj (c : Nat) (ns : List Nat) (cs : List C)
  deriving Inhabited, Repr

mutual
def C.frz : C → D
  | .val d => d
  | .lst cs => .lst (C.frzs cs)
  | .tup cs => .tup (C.frzs cs)
  | .dct ks cs => .dct ks (C.frzs cs)
  | .obj c ns cs => .obj c ns (C.frzs cs)
def C.frzs : List C → List D
  | [] => []
  | c :: cs => C.frz c :: C.frzs cs
end

mutual
/-- == of Python -/
def pyEq : D → D → Bool
  | .non, .non => true
  | .bl a, .bl b => a == b
  | .bl a, .int j => (if a then 1 else 0) == j
  | .int i, .bl b => i == (if b then 1 else 0)
  | .int i, .int j => i == j
  | .str a, .str b => a == b
  | .tup a, .tup b => pyEqs a b
  | .lst a, .lst b => pyEqs a b
  | _, _ => false
def pyEqs : List D → List D → Bool
  | [], [] => true
  | a :: as, b :: bs => pyEq a b && pyEqs as bs
  | _, _ => false
end
mutual
/-- no dict, no object within -/
def D.plain : D → Bool
  | .tup ds => D.plains ds
  | .lst ds => D.plains ds
  | .dct _ _ => false
  | .obj _ _ _ => false
  | .exc _ => false
  | _ => true
def D.plains : List D → Bool
  | [] => true
  | d :: ds => D.plain d && D.plains ds
end
mutual
def D.dep : D → Nat
  | .tup ds => D.deps ds + 1
  | .lst ds => D.deps ds + 1
  | _ => 0
def D.deps : List D → Nat
  | [] => 0
  | d :: ds => max (D.dep d) (D.deps ds)
end
/-- whether == may be asked -/
def eqOk (a b : D) : Bool := a.plain && b.plain && decide (min a.dep b.dep ≤ 60)

abbrev line : Nat := 16777216
abbrev Env := List (Option C)

inductive Res (α : Type) where
  | ok (a : α) (e : Env) | exc (k : Nat) (e : Env) | stuck
  deriving Inhabited
def Res.bind {α β : Type} : Res α → (α → Env → Res β) → Res β
  | .ok a e, f => f a e
  | .exc k e, _ => .exc k e
  | .stuck, _ => .stuck
/-- what a call gives: its value and what its inout parameters hold behind it -/
inductive CR where
  | ok (c : C) (outs : List C) | exc (k : Nat) | stuck
  deriving Inhabited, Repr

inductive Bop where | add | sub | mul | fdiv | mod | pow
  deriving DecidableEq, Repr
inductive Cop where | eq | ne | lt | le | gt | ge | is | isnot | isin | notin
  deriving DecidableEq, Repr
inductive Ty where | int | bool | str | tuple | list | cls (c : Nat)
  deriving DecidableEq, Repr
inductive Bi where | len | int | str | abs | max | min | sum | any | all | sorted | list | tuple | lenset | sortset | listrng | listzip
  deriving DecidableEq, Repr
inductive Mt where | index | lindex | join | get | count
  deriving DecidableEq, Repr
inductive It where | seq | rng | enum | zip | items
  deriving DecidableEq, Repr
inductive Tg where | nm (i : Nat) | tp (is : List Nat)
  deriving DecidableEq, Repr
inductive Mo where | append | extend | insert | clear
  deriving DecidableEq, Repr

inductive ME where
  | var (i : Nat) | mvar (i : Nat) | fvar (i : Nat) | io (i : Nat) | bw (a : ME) | frz (a : ME)
  | k (d : D) | g (n : Nat)
  | tup (es : List ME) | lst (es : List ME) | dct (md : Bool) (ks vs : List ME)
  | bin (o : Bop) (a b : ME) | neg (a : ME)
  | cmp (o : Cop) (a b : ME) | chn (o p : Cop) (a b c : ME) | chn3 (o p q : Cop) (a b c d : ME)
  | and (es : List ME) | or (es : List ME) | not (a : ME) | ite (c a b : ME)
  | sub (a b : ME) | slL (a lo : ME) | slH (a hi : ME) | slB (a lo hi : ME) | rev (a : ME)
  | attr (a : ME) (f : Nat)
  | call (f : Nat) (args : List ME) | mcall (c f : Nat) (args : List ME) | make (c f : Nat) (args : List ME)
  | bi (b : Bi) (args : List ME) | mt (m : Mt) (args : List ME)
  | comp (elt : ME) (tg : Tg) (it : It) (src : List ME) (cond : List ME)
  | isi (a : ME) (tys : List Ty)
  | pop (p : ME) (at_ : List ME) | setd (p k v : ME)
  | fmt (parts : List ME)
  | tmp (a : ME)
  /-- the list of slot i is only looked at while a runs -/
  | lk (i : Nat) (a : ME)
  deriving Inhabited, Repr

inductive MS where
  | asg (fz : Bool) (t : Tg) (e : ME)
  | ssub (p ix : ME) (e : ME)
  | sattr (p : ME) (f : Nat) (e : ME)
  | mut (p : ME) (o : Mo) (args : List ME)
  | ex (e : ME)
  | ret (e : ME)
  | ite (c : ME) (a b : List MS)
  | for_ (t : Tg) (it : It) (src : List ME) (b : List MS)
  | whl (c : ME) (b : List MS)
  | raise (c : Nat)
  | tri (b : List MS) (c : Nat) (i : Option Nat) (h : List MS)
  | tri2 (b : List MS) (c : Nat) (h : List MS) (d : Nat) (g : List MS)
  | pass | cont
  deriving Inhabited, Repr

/-- may what an expression tells be a cell of a slot -/
def bor : ME → Bool
  | .var _ => true
  | .sub a _ => bor a
  | .attr a _ => bor a
  | .ite _ a b => bor a || bor b
  | .and _ => true
  | .or _ => true
  | _ => false

mutual
/-- leaves the slots and their cells -/
def pur : ME → Bool
  | .var _ | .k _ | .g _ => true
  | .mvar _ | .fvar _ | .io _ => false
  | .tup es | .lst es | .and es | .or es | .call _ es | .mcall _ _ es | .make _ _ es | .bi _ es | .mt _ es | .fmt es => purs es
  | .dct _ a b => purs a && purs b
  | .bin _ a b | .cmp _ a b | .sub a b | .slL a b | .slH a b => pur a && pur b
  | .neg a | .not a | .rev a | .attr a _ | .isi a _ | .bw a | .frz a => pur a
  | .chn _ _ a b c | .ite a b c | .slB a b c => pur a && pur b && pur c
  | .comp e _ _ s c => pur e && purs s && purs c
  | .chn3 _ _ _ a b c d => pur a && pur b && pur c && pur d
  | .pop _ _ | .setd _ _ _ | .tmp _ | .lk _ _ => false
def purs : List ME → Bool
  | [] => true
  | e :: es => pur e && purs es
end

/-! ### small operations -/
def C.isVal : C → Bool
  | .val _ => true
  | _ => false
def allVal : List C → Option (List D)
  | [] => some []
  | .val d :: cs => (allVal cs).map (d :: ·)
  | _ :: _ => none
def mkTup (cs : List C) : C := match allVal cs with
  | some ds => .val (.tup ds)
  | none => .tup cs
/-- the items of a list, a tuple, a text -/
def C.asL : C → Option (List D)
  | .val (.lst ds) => some ds
  | .lst cs => allVal cs
  | _ => none
def C.asT : C → Option (List D)
  | .val (.tup ds) => some ds
  | .tup cs => allVal cs
  | _ => none
def chars (s : List Nat) : List D := s.map fun c => .str [c]
def C.items : C → Option (List D)
  | .val (.lst ds) => some ds
  | .lst cs => allVal cs
  | .val (.tup ds) => some ds
  | .tup cs => allVal cs
  | .val (.str s) => some (chars s)
  | .dct ks _ => some ks
  | .val (.dct ks _) => some ks
  | _ => none
def ixN (n : Nat) (i : Int) : Option Nat := if 0 ≤ i then (if i < n then some i.toNat else none) else if -(n : Int) ≤ i then some (i + n).toNat else none
def lookD (k : D) : List D → List C → Option C
  | a :: as, v :: vs => if pyEq a k then some v else lookD k as vs
  | _, _ => none
def lookDD (k : D) : List D → List D → Option D
  | a :: as, v :: vs => if pyEq a k then some v else lookDD k as vs
  | _, _ => none
def putD (k : D) (v : C) : List D → List C → List D × List C
  | a :: as, w :: ws => if pyEq a k then (a :: as, v :: ws) else let r := putD k v as ws; (a :: r.1, w :: r.2)
  | _, _ => ([k], [v])
def lookF (f : Nat) : List Nat → List C → Option C
  | a :: as, v :: vs => if a == f then some v else lookF f as vs
  | _, _ => none
def lookFD (f : Nat) : List Nat → List D → Option D
  | a :: as, v :: vs => if a == f then some v else lookFD f as vs
  | _, _ => none
def putF (f : Nat) (v : C) : List Nat → List C → List Nat × List C
  | a :: as, w :: ws => if a == f then (a :: as, v :: ws) else let r := putF f v as ws; (a :: r.1, w :: r.2)
  | _, _ => ([f], [v])
/-- a key that a dict may have: an int or a text (false), a tuple (true) -/
def keyIn : Bool → D → Bool
  | false, .int _ => true
  | false, .str _ => true
  | true, .tup ds => D.plains ds && decide ((D.tup ds).dep ≤ 8)
  | _, _ => false
def subC (c : C) (i : D) : Option C := match c, i with
  | .val (.lst ds), .int n => ((ixN ds.length n).bind fun j => ds[j]?).map .val
  | .val (.tup ds), .int n => ((ixN ds.length n).bind fun j => ds[j]?).map .val
  | .val (.str s), .int n => if s.length ≤ line then ((ixN s.length n).bind fun j => s[j]?).map fun x => .val (.str [x]) else none
  | .lst cs, .int n => (ixN cs.length n).bind fun j => cs[j]?
  | .tup cs, .int n => (ixN cs.length n).bind fun j => cs[j]?
  | .dct ks cs, k => if keyIn false k then lookD k ks cs else none
  | .val (.dct ks vs), k => if keyIn false k then (lookDD k ks vs).map .val else none
  | _, _ => none
def sIx (n d : Nat) : Option Int → Nat
  | none => d
  | some i => if i < 0 then (i + n).toNat else min i.toNat n
def cut {α : Type} (xs : List α) (lo hi : Option Int) : List α := (xs.drop (sIx xs.length 0 lo)).take (sIx xs.length xs.length hi - sIx xs.length 0 lo)
def sliceC (c : C) (lo hi : Option Int) : Option C := match c with
  | .val (.str s) => if s.length ≤ line then some (.val (.str (cut s lo hi))) else none
  | .val (.tup ds) => some (.val (.tup (cut ds lo hi)))
  | c => c.asL.map fun ds => .lst ((cut ds lo hi).map .val)
def intBits (x : Int) : Nat := if x == 0 then 0 else x.natAbs.log2 + 1
/-- below 2 ^ 62 to either way -/
def smallI (j : Int) : Bool := Nat.ble j.natAbs 4611686018427387903
/-- above nought and below 2 ^ 30 -/
def posI (j : Int) : Bool := Nat.ble 1 j.toNat && Nat.ble j.toNat 1073741823
def mulOk (i j : Int) : Bool := decide (intBits i ≤ 64) || decide (intBits j ≤ 64) || decide (intBits i + intBits j ≤ 134217728)
def rep {α : Type} (xs : List α) : Nat → List α
  | 0 => []
  | n + 1 => xs ++ rep xs n
def binC (o : Bop) (a b : C) : Option C := match o, a, b with
  | .add, .val (.int i), .val (.int j) => some (.val (.int (i + j)))
  | .add, .val (.str s), .val (.str t) => if s.length + t.length ≤ line then some (.val (.str (s ++ t))) else none
  | .add, .val (.tup s), .val (.tup t) => if s.length + t.length ≤ line then some (.val (.tup (s ++ t))) else none
  | .add, a, b => a.asL.bind fun s => b.asL.bind fun t => if s.length + t.length ≤ line then some (.lst ((s ++ t).map .val)) else none
  | .sub, .val (.int i), .val (.int j) => some (.val (.int (i - j)))
  | .mul, .val (.int i), .val (.int j) => if mulOk i j then some (.val (.int (i * j))) else none
  | .mul, .val (.str s), .val (.int j) => if smallI j && decide (s.length * j.toNat ≤ line) then some (.val (.str (rep s j.toNat))) else none
  | .mul, a, .val (.int j) => a.asL.bind fun s => if smallI j && decide (s.length * j.toNat ≤ line) then some (.lst ((rep s j.toNat).map .val)) else none
  | .fdiv, .val (.int i), .val (.int j) => if posI j then some (.val (.int (i / j))) else none
  | .mod, .val (.int i), .val (.int j) => if 0 < j then some (.val (.int (i % j))) else none
  | .pow, .val (.int i), .val (.int j) => if 0 ≤ j ∧ j ≤ 1000 ∧ i.natAbs < 1000 then some (.val (.int (i ^ j.toNat))) else none
  | _, _, _ => none
def isD : D → D → Option Bool
  | .non, .non => some true
  | .bl a, .bl b => some (a == b)
  | .int _, .non | .str _, .non | .tup _, .non | .lst _, .non | .bl _, .non | .obj _ _ _, .non => some false
  | .int _, .bl _ | .str _, .bl _ | .tup _, .bl _ | .lst _, .bl _ | .non, .bl _ => some false
  | _, _ => none
def isC (c : C) (d : D) : Option Bool := match c with
  | .val x => isD x d
  | .lst _ | .tup _ | .obj _ _ _ => match d with
    | .non => some false
    | .bl _ => some false
    | _ => none
  | _ => none
def keysOf : C → Option (List D)
  | .dct ks _ => some ks
  | .val (.dct ks _) => some ks
  | _ => none
def inC (a b : C) : Option Bool := match b with
  | .val (.str t) => match a with
    | .val (.str [c]) => some (t.contains c)
    | _ => none
  | .val (.lst ds) => if eqOk a.frz (.lst ds) then some (ds.any fun d => pyEq d a.frz) else none
  | .val (.tup ds) => if eqOk a.frz (.lst ds) then some (ds.any fun d => pyEq d a.frz) else none
  | .lst cs => if eqOk a.frz (.lst (C.frzs cs)) then some ((C.frzs cs).any fun d => pyEq d a.frz) else none
  | b => (keysOf b).bind fun ks => if keyIn false a.frz && ks.all (keyIn false) then some (ks.any fun d => pyEq d a.frz) else none
def cmpC (o : Cop) (a b : C) : Option Bool := match o with
  | .eq => if eqOk a.frz b.frz then some (pyEq a.frz b.frz) else none
  | .ne => if eqOk a.frz b.frz then some (!pyEq a.frz b.frz) else none
  | .lt => match a, b with | .val (.int i), .val (.int j) => some (decide (i < j)) | _, _ => none
  | .le => match a, b with | .val (.int i), .val (.int j) => some (decide (i ≤ j)) | _, _ => none
  | .gt => match a, b with | .val (.int i), .val (.int j) => some (decide (j < i)) | _, _ => none
  | .ge => match a, b with | .val (.int i), .val (.int j) => some (decide (j ≤ i)) | _, _ => none
  | .is => match b with | .val d => isC a d | _ => none
  | .isnot => match b with | .val d => (isC a d).map (!·) | _ => none
  | .isin => inC a b
  | .notin => (inC a b).map (!·)
def truth : C → Option Bool
  | .val (.bl b) => some b
  | .val (.lst ds) => some (!ds.isEmpty)
  | .lst cs => some (!cs.isEmpty)
  | _ => none
def intsD : List D → Option (List Int)
  | [] => some []
  | .int i :: ds => (intsD ds).map (i :: ·)
  | _ :: _ => none
def bools : List D → Option (List Bool)
  | [] => some []
  | .bl b :: ds => (bools ds).map (b :: ·)
  | _ :: _ => none
def strsD : List D → Option (List (List Nat))
  | [] => some []
  | .str s :: ds => (strsD ds).map (s :: ·)
  | _ :: _ => none
def maxI : Int → List Int → Int
  | m, [] => m
  | m, x :: xs => maxI (if m < x then x else m) xs
def minI : Int → List Int → Int
  | m, [] => m
  | m, x :: xs => minI (if x < m then x else m) xs
def ins (x : Int) : List Int → List Int
  | [] => [x]
  | y :: ys => if x ≤ y then x :: y :: ys else y :: ins x ys
def isort : List Int → List Int
  | [] => []
  | x :: xs => ins x (isort xs)
def dedup : List Int → List Int
  | [] => []
  | x :: xs => if (dedup xs).contains x then dedup xs else x :: dedup xs
def digs : Nat → Nat → List Nat
  | 0, _ => []
  | f + 1, n => if n < 10 then [48 + n] else digs f (n / 10) ++ [48 + n % 10]
/-- the figures of a number below 10 ^ 40 -/
def figs (i : Int) : List Nat := if i < 0 then 45 :: digs 40 i.natAbs else digs 40 i.natAbs
def numOf : Nat → List Nat → Option Nat
  | a, [] => some a
  | a, c :: cs => if 48 ≤ c ∧ c ≤ 57 then numOf (a * 10 + (c - 48)) cs else none
def joinS (sep : List Nat) : List (List Nat) → List Nat
  | [] => []
  | [x] => x
  | x :: y :: r => x ++ sep ++ joinS sep (y :: r)
def joinLen (sep : List Nat) (xs : List (List Nat)) : Nat := (joinS sep xs).length
def C.len : C → Option Nat
  | .val (.str s) => if s.length ≤ line then some s.length else none
  | .val (.lst ds) => some ds.length
  | .val (.tup ds) => some ds.length
  | .lst cs => some cs.length
  | .tup cs => some cs.length
  | .dct ks _ => some ks.length
  | .val (.dct ks _) => some ks.length
  | _ => none
def enumD : Nat → List D → List D
  | _, [] => []
  | n, d :: ds => .tup [.int n, d] :: enumD (n + 1) ds
def zipD : List D → List D → List D
  | a :: as, b :: bs => .tup [a, b] :: zipD as bs
  | _, _ => []
def zipD3 : List D → List D → List D → List D
  | a :: as, b :: bs, c :: cs => .tup [a, b, c] :: zipD3 as bs cs
  | _, _, _ => []
def rangeD (lo : Int) : Nat → List D
  | 0 => []
  | n + 1 => .int lo :: rangeD (lo + 1) n
def biC (b : Bi) (cs : List C) : Option C := match b, cs with
  | .len, [c] => c.len.map fun (n : Nat) => C.val (.int (n : Int))
  | .int, [.val (.int i)] => some (.val (.int i))
  | .int, [.val (.bl k)] => some (.val (.int (if k then 1 else 0)))
  | .int, [.val (.str s)] => if s.isEmpty || decide (100 < s.length) then none else (numOf 0 s).map fun (n : Nat) => C.val (.int (n : Int))
  | .str, [.val (.int i)] => if i.natAbs < 10 ^ 30 then some (.val (.str (figs i))) else none
  | .abs, [.val (.int i)] => some (.val (.int (if i < 0 then -i else i)))
  | .max, [.val (.int i), .val (.int j)] => some (.val (.int (if j > i then j else i)))
  | .min, [.val (.int i), .val (.int j)] => some (.val (.int (if j < i then j else i)))
  | .max, [c] => (c.asL.bind intsD).bind fun
    | [] => none
    | x :: xs => some (.val (.int (maxI x xs)))
  | .min, [c] => (c.asL.bind intsD).bind fun
    | [] => none
    | x :: xs => some (.val (.int (minI x xs)))
  | .sum, [c] => (c.asL.bind intsD).map fun xs => .val (.int xs.sum)
  | .any, [c] => (c.asL.bind bools).map fun xs => .val (.bl (xs.any id))
  | .all, [c] => (c.asL.bind bools).map fun xs => .val (.bl (xs.all id))
  | .sorted, [c] => (c.asL.bind intsD).bind fun xs => if xs.length ≤ 100000 then some (.lst ((isort xs).map fun i => .val (.int i))) else none
  | .list, [c] => match c.asL with
    | some ds => some (.lst (ds.map .val))
    | none => c.asT.map fun ds => .lst (ds.map .val)
  | .tuple, [c] => match c.asL with
    | some ds => some (.val (.tup ds))
    | none => c.asT.map fun ds => .val (.tup ds)
  | .lenset, [c] => (c.asL.bind intsD).bind fun xs => if xs.length ≤ 2000 then some (.val (.int (dedup xs).length)) else none
  | .sortset, [c] => (c.asL.bind intsD).bind fun xs => if xs.length ≤ 2000 then some (.lst ((isort (dedup xs)).map fun i => .val (.int i))) else none
  | .listrng, [.val (.int j)] => if smallI j && Nat.ble j.toNat 16777216 then some (.lst ((rangeD 0 j.toNat).map .val)) else none
  | .listrng, [.val (.int i), .val (.int j)] => if smallI i && smallI j && Nat.ble (j - i).toNat 16777216 then some (.lst ((rangeD i (j - i).toNat).map .val)) else none
  | .listzip, [a, b] => a.asT.bind fun x => b.asT.map fun y => .lst ((zipD x y).map .val)
  | _, _ => none
def idxOf (x : D) : List D → Option Nat
  | [] => none
  | d :: ds => if pyEq d x then some 0 else (idxOf x ds).map (· + 1)
def mtC (m : Mt) (cs : List C) : Option C := match m, cs with
  | .index, [.val (.str s), .val (.str [c])] => if s.length ≤ line then (s.findIdx? (· == c)).map fun (n : Nat) => C.val (.int (n : Int)) else none
  | .lindex, [c, .val x] => c.asL.bind fun ds => if eqOk x (.lst ds) then (idxOf x ds).map fun (n : Nat) => C.val (.int (n : Int)) else none
  | .join, [.val (.str s), c] => (c.asL.bind strsD).bind fun xs => if (xs.map List.length).sum + xs.length * s.length ≤ line then some (.val (.str (joinS s xs))) else none
  | .get, [.val (.dct ks vs), .val k] => if keyIn false k && ks.all (keyIn false) then some (.val ((lookDD k ks vs).getD .non)) else none
  | .get, [.val (.dct ks vs), .val k, .val x] => if keyIn false k && ks.all (keyIn false) then some (.val ((lookDD k ks vs).getD x)) else none
  | _, _ => none
/-- what a method may be asked of -/
def recvOk : Mt → C → Bool
  | .index, .val (.str _) => true
  | .join, .val (.str _) => true
  | .lindex, c => c.asL.isSome
  | .count, c => c.asL.isSome
  | .get, .val (.dct _ _) => true
  | _, _ => false
def tyD (sub : Nat → Nat → Bool) : D → Ty → Bool
  | .bl _, .int => true
  | .bl _, .bool => true
  | .int _, .int => true
  | .str _, .str => true
  | .tup _, .tuple => true
  | .lst _, .list => true
  | .exc c, .cls d => sub c d
  | .obj c _ _, .cls d => c == d
  | _, _ => false
/-- of what isinstance may be asked, by which class -/
def isiT : Ty → D → Bool
  | .cls _, .exc _ => true
  | .cls _, _ => false
  | _, .obj _ _ _ => false
  | _, .exc _ => false
  | _, _ => true
def C.top : C → D
  | .val d => d
  | .lst _ => .lst []
  | .tup _ => .tup []
  | .dct _ _ => .dct [] []
  | .obj c _ _ => .obj c [] []
def itemsC (t : It) (cs : List C) : Option (List D) := match t, cs with
  | .seq, [c] => c.items
  | .rng, [.val (.int j)] => if smallI j then some (rangeD 0 j.toNat) else none
  | .rng, [.val (.int i), .val (.int j)] => if smallI i && smallI j then some (rangeD i (j - i).toNat) else none
  | .enum, [c] => c.items.map (enumD 0)
  | .zip, [a, b] => a.items.bind fun x => b.items.map fun y => zipD x y
  | .items, [.val (.dct ks vs)] => if ks.length = vs.length then some (zipD ks vs) else none
  | .zip, [a, b, c] => a.items.bind fun x => b.items.bind fun y => c.items.map fun z => zipD3 x y z
  | _, _ => none
/-- of things cs: which are walked here -/
def okIt : It → List C → Bool
  | .seq, [c] => (match c with | .val (.dct _ _) => false | .dct _ _ => false | _ => true)
  | .rng, _ => true
  | .enum, [c] => c.asL.isSome || c.asT.isSome
  | .zip, [a, b] => (a.asL.isSome && b.asL.isSome) || (a.asT.isSome && b.asT.isSome)
  | .items, [.val (.dct ks _)] => ks.all fun k => match k with | .int _ => true | _ => false
  | _, _ => false
def itemsK (t : It) (cs : List C) : Option (List D) := if okIt t cs then itemsC t cs else none
/-- no exception leaves a comprehension here -/
def noexc {α : Type} : Res α → Res α
  | .ok a e => .ok a e
  | _ => .stuck
def bindTg (t : Tg) (c : C) (e : Env) : Option Env := match t with
  | .nm i => some (e.set i (some c))
  | .tp is => match c with
    | .val (.tup ds) => if ds.length = is.length then some (((is.zip ds).foldl (fun e p => e.set p.1 (some (.val p.2))) e)) else none
    | .tup cs => if cs.length = is.length then some (((is.zip cs).foldl (fun e p => e.set p.1 (some p.2)) e)) else none
    | _ => none
def Tg.slots : Tg → List Nat
  | .nm i => [i]
  | .tp is => is
def wipeE (e : Env) : List Nat → Env
  | [] => e
  | i :: is => (wipeE e is).set i none
/-- a comprehension's loop -/
def compLoop (f : D → Env → Res (Option C)) : List D → Env → Res (List C)
  | [], e => .ok [] e
  | d :: ds, e => (f d e).bind fun o e => (compLoop f ds e).bind fun cs e => .ok (match o with | some c => c :: cs | none => cs) e

/-! ### paths -/
inductive Sel where | ix (d : D) | at_ (f : Nat)
  deriving Inhabited, Repr
/-- a cell at a path is changed -/
def modC {α : Type} (f : C → Option (C × α)) : List Sel → C → Option (C × α)
  | [], c => f c
  | .ix (.int n) :: r, .lst cs => (ixN cs.length n).bind fun j => (cs[j]?).bind fun c => (modC f r c).map fun p => (.lst (cs.set j p.1), p.2)
  | .at_ n :: r, .obj c ns cs => (lookF n ns cs).bind fun x => (modC f r x).map fun p => let q := putF n p.1 ns cs; (.obj c q.1 q.2, p.2)
  | _, _ => none
def modE {α : Type} (f : C → Option (C × α)) (i : Nat) (p : List Sel) (e : Env) : Res α := match e[i]? with
  | some (some c) => match modC f p c with
    | some (c', a) => .ok a (e.set i (some c'))
    | none => .stuck
  | _ => .stuck
def insAt (cs : List C) (n : Int) (c : C) : List C := let j := sIx cs.length 0 (some n); cs.take j ++ c :: cs.drop j
def moC (o : Mo) (args : List C) (c : C) : Option (C × Unit) := match o, args, c with
  | .append, [x], .lst cs => if cs.length < line then some (.lst (cs ++ [x]), ()) else none
  | .extend, [x], .lst cs => match x.asL with
    | some ds => if cs.length + ds.length ≤ line then some (.lst (cs ++ ds.map .val), ()) else none
    | none => x.asT.bind fun ds => if cs.length + ds.length ≤ line then some (.lst (cs ++ ds.map .val), ()) else none
  | .insert, [.val (.int n), x], .lst cs => if decide (cs.length < line) && smallI n then some (.lst (insAt cs n x), ()) else none
  | .clear, [], .lst _ => some (.lst [], ())
  | _, _, _ => none
def setC (k : D) (v : C) (c : C) : Option (C × Unit) := match k, c with
  | .int n, .lst cs => (ixN cs.length n).map fun j => (.lst (cs.set j v), ())
  | k, .dct ks cs => if (keyIn true k || keyIn false k) && decide (ks.length < line) then let q := putD k v ks cs; some (.dct q.1 q.2, ()) else none
  | _, _ => none
def setL (k : D) (v : C) (c : C) : Option (C × Unit) := match c with
  | .lst cs => match k with
    | .int n => (ixN cs.length n).map fun j => (.lst (cs.set j v), ())
    | _ => none
  | .dct ks cs => if keyIn false k && ks.all (keyIn false) && !(ks.any fun d => pyEq d k) && decide (ks.length < line) then some (.dct (ks ++ [k]) (cs ++ [v]), ()) else none
  | _ => none
/-- of a list alone -/
def setP (k : D) (v : C) (c : C) : Option (C × Unit) := match c with
  | .lst cs => setL k v (.lst cs)
  | _ => none
def setF (f : Nat) (v : C) (c : C) : Option (C × Unit) := match c with
  | .obj k ns cs => if ns.length < 1000 then let q := putF f v ns cs; some (.obj k q.1 q.2, ()) else none
  | _ => none
def popC (at_ : List C) (c : C) : Option (C × C) := match at_, c with
  | [], .lst cs => match cs.getLast? with
    | some (.val d) => some (.lst cs.dropLast, .val d)
    | _ => none
  | [.val (.int n)], .lst cs => (ixN cs.length n).bind fun j => (cs[j]?).map fun x => (.lst (cs.eraseIdx j), x)
  | _, _ => none
def setdC (k : D) (v : C) (c : C) : Option (C × C) := match c with
  | .dct ks cs => if keyIn true k || keyIn false k then match lookD k ks cs, v with
      | some (.val w), _ => some (.dct ks cs, .val w)
      | none, .val d => if ks.length < line then let q := putD k v ks cs; some (.dct q.1 q.2, .val d) else none
      | _, _ => none
    else none
  | _ => none

def isVarB : ME → Bool
  | .var _ => true
  | _ => false
/-- whether a list stands at a path -/
def lstAt (i : Nat) (p : List Sel) (e : Env) : Bool := match e[i]? with
  | some (some c) => (modC (fun c => match c with | .lst cs => some (C.lst cs, ()) | _ => none) p c).isSome
  | _ => false
mutual
/-- of the simplest kind -/
def smp : ME → Bool
  | .var _ | .k _ | .g _ => true
  | .tup es => smps es
  | .neg a => smp a
  | _ => false
def smps : List ME → Bool
  | [] => true
  | e :: es => smp e && smps es
end
structure Pr where
  call : Nat → List C → CR
  ios : Nat → List Nat
  glob : Nat → D
  sub : Nat → Nat → Bool
  wf : Nat

def ofOpt {α : Type} (o : Option α) (e : Env) : Res α := match o with
  | some a => .ok a e
  | none => .stuck
/-- what leaks is no cell of a slot -/
def leak (b : Bool) (c : C) (e : Env) : Res C := if b && !c.isVal then .stuck else .ok c e
/-- what is looked at: a cell of a slot only where what comes behind leaves the slots; else it is frozen -/
def hold (b p : Bool) (c : C) (e : Env) : Res C := if b then (if p || c.isVal then .ok c e else .stuck) else .ok (.val c.frz) e
/-- an argument: a value, what a slot's cells hold, a slot handed in -/
inductive Ag where | v (c : C) | bw (c : C) | io (i : Nat) | tm (c : C)
mutual
/-- no list, dict, object within -/
def D.nolist : D → Bool
  | .tup ds => D.nolists ds
  | .lst _ => false
  | .dct _ _ => false
  | .obj _ _ _ => false
  | _ => true
def D.nolists : List D → Bool
  | [] => true
  | d :: ds => D.nolist d && D.nolists ds
end
mutual
/-- the frozen parts have no list within -/
def C.leafy : C → Bool
  | .val d => d.nolist
  | .lst cs => C.leafys cs
  | .tup cs => C.leafys cs
  | .dct _ cs => C.leafys cs
  | .obj _ _ cs => C.leafys cs
def C.leafys : List C → Bool
  | [] => true
  | c :: cs => C.leafy c && C.leafys cs
end
mutual
def D.same : D → D → Bool
  | .non, .non => true
  | .bl a, .bl b => a == b
  | .int a, .int b => a == b
  | .str a, .str b => a == b
  | .tup a, .tup b => D.sames a b
  | .lst a, .lst b => D.sames a b
  | .dct a c, .dct b d => D.sames a b && D.sames c d
  | .obj a c d, .obj b f g => a == b && c == f && D.sames d g
  | .exc a, .exc b => a == b
  | _, _ => false
def D.sames : List D → List D → Bool
  | [], [] => true
  | a :: as, b :: bs => D.same a b && D.sames as bs
  | _, _ => false
end
/-- whether the slots of the second are as ahead, or hold nothing that is shared -/
def lkEnv : Env → Env → Bool
  | _ :: e, none :: f => lkEnv e f
  | a :: e, some c :: f => (c.leafy || match a, c with
    | some (.val x), .val y => D.same x y
    | _, _ => false) && lkEnv e f
  | [], [] => true
  | _, _ => false
def hasBw : List Ag → Bool
  | [] => false
  | .bw _ :: _ => true
  | _ :: r => hasBw r
/-- the slots handed in are taken out -/
def takeIo : List Ag → Env → Option (List C × Env)
  | [], e => some ([], e)
  | .v c :: r, e => (takeIo r e).map fun p => (c :: p.1, p.2)
  | .bw c :: r, e => (takeIo r e).map fun p => (.val c.frz :: p.1, p.2)
  | .tm c :: r, e => (takeIo r e).map fun p => (c :: p.1, p.2)
  | .io i :: r, e => match e[i]? with
    | some (some c) => (takeIo r (e.set i none)).map fun p => (c :: p.1, p.2)
    | _ => none
def ioPos : Nat → List Ag → List Nat
  | _, [] => []
  | n, .v _ :: r => ioPos (n + 1) r
  | n, .bw _ :: r => ioPos (n + 1) r
  | n, .tm _ :: r => n :: ioPos (n + 1) r
  | n, .io _ :: r => n :: ioPos (n + 1) r
def putIo : List Ag → List C → Env → Option Env
  | [], [], e => some e
  | .v _ :: r, os, e => putIo r os e
  | .bw _ :: r, os, e => putIo r os e
  | .tm _ :: r, _ :: os, e => putIo r os e
  | .io i :: r, o :: os, e => putIo r os (e.set i (some o))
  | _, _, _ => none
def callC (P : Pr) (f : Nat) (as : List Ag) (e : Env) : Res C :=
  if ioPos 0 as = P.ios f then match takeIo as e with
    | some (cs, e') => match P.call f cs with
      | .ok c outs => if hasBw as && !(c.leafy && C.leafys outs) then .stuck else match putIo as outs e' with
        | some e'' => .ok c e''
        | none => .stuck
      | .exc k => .exc k e'
      | .stuck => .stuck
    | none => .stuck
  else .stuck
/-- a new object of a class by its __init__ -/
def makeC (P : Pr) (c f : Nat) (cs : List C) (e : Env) : Res C :=
  if P.ios f = [0] then match P.call f (.obj c [] [] :: cs) with
    | .ok (.val .non) [o] => .ok o e
    | .exc k => .exc k e
    | _ => .stuck
  else .stuck
def objIs (c : Nat) : C → Bool
  | .obj d _ _ => c == d
  | .val (.obj d _ _) => c == d
  | _ => false
def attrC (c : C) (f : Nat) : Option C := match c with
  | .obj _ ns cs => lookF f ns cs
  | .val (.obj _ ns vs) => (lookFD f ns vs).map .val
  | _ => none

def fmtC : List C → Option (List Nat)
  | [] => some []
  | .val (.str s) :: r => (fmtC r).map (s ++ ·)
  | .val (.int i) :: r => if i.natAbs < 10 ^ 30 then (fmtC r).map (figs i ++ ·) else none
  | .val .non :: r => (fmtC r).map ([78, 111, 110, 101] ++ ·)
  | _ :: _ => none

def constKeys : List ME → Option (List D)
  | [] => some []
  | .k (.int i) :: r => (constKeys r).map (.int i :: ·)
  | .k (.str i) :: r => (constKeys r).map (.str i :: ·)
  | _ => none
def mkDct : List D → List C → List D → List C → C
  | k :: ks, v :: vs, as, bs => let q := putD k v as bs; mkDct ks vs q.1 q.2
  | _, _, as, bs => .dct as bs

mutual
def ev (P : Pr) : ME → Env → Res C
  | .var i, e => match e[i]? with
    | some (some c) => .ok c e
    | _ => .stuck
  | .mvar i, e => match e[i]? with
    | some (some c) => .ok c (e.set i none)
    | _ => .stuck
  | .fvar i, e => match e[i]? with
    | some (some c) => .ok (.val c.frz) (e.set i (some (.val c.frz)))
    | _ => .stuck
  | .io _, _ => .stuck
  | .bw _, _ => .stuck
  | .frz a, e => (ev P a e).bind fun x e => (leak (bor a) x e).bind fun x e => .ok (.val x.frz) e
  | .k d, e => .ok (.val d) e
  | .g n, e => .ok (.val (P.glob n)) e
  | .tup es, e => (evs P es e).bind fun cs e => .ok (mkTup cs) e
  | .lst es, e => (evs P es e).bind fun cs e => .ok (.lst cs) e
  | .dct _ ks vs, e => (evs P vs e).bind fun cs e => match constKeys ks with
    | some ds => if ds.length = cs.length then .ok (mkDct ds cs [] []) e else .stuck
    | none => .stuck
  | .bin o a b, e => (ev P a e).bind fun x e => (hold (bor a) (pur b) x e).bind fun x e => (ev P b e).bind fun y e => (hold (bor b) true y e).bind fun y e => ofOpt (binC o x y) e
  | .neg a, e => (ev P a e).bind fun x e => match x with
    | .val (.int i) => .ok (.val (.int (-i))) e
    | _ => .stuck
  | .cmp o a b, e => (ev P a e).bind fun x e => (hold (bor a) (pur b) x e).bind fun x e => (ev P b e).bind fun y e => (hold (bor b) true y e).bind fun y e => ofOpt ((cmpC o x y).map fun r => .val (.bl r)) e
  | .chn o p a b c, e => (ev P a e).bind fun x e => (ev P b e).bind fun y e => match x, y with
    | .val x, .val y => (ofOpt (cmpC o (.val x) (.val y)) e).bind fun r e => if r then (ev P c e).bind fun z e => ofOpt ((cmpC p (.val y) z).map fun r => .val (.bl r)) e else .ok (.val (.bl false)) e
    | _, _ => .stuck
  | .chn3 o p q a b c d, e => (ev P a e).bind fun x e => (ev P b e).bind fun y e => match x, y with
    | .val x, .val y => (ofOpt (cmpC o (.val x) (.val y)) e).bind fun r e => if r then (ev P c e).bind fun z e => match z with
      | .val z => (ofOpt (cmpC p (.val y) (.val z)) e).bind fun r e => if r then (ev P d e).bind fun w e => ofOpt ((cmpC q (.val z) w).map fun r => .val (.bl r)) e else .ok (.val (.bl false)) e
      | _ => .stuck
      else .ok (.val (.bl false)) e
    | _, _ => .stuck
  | .and es, e => evAnd P es e
  | .or es, e => evOr P es e
  | .not a, e => (ev P a e).bind fun x e => ofOpt ((truth x).map fun b => .val (.bl (!b))) e
  | .ite c a b, e => (ev P c e).bind fun x e => (ofOpt (truth x) e).bind fun t e => if t then ev P a e else ev P b e
  | .sub a b, e => (ev P a e).bind fun x e => (hold (bor a) (pur b) x e).bind fun x e => (ev P b e).bind fun y e => match y with
    | .val k => ofOpt (subC x k) e
    | _ => .stuck
  | .slL a b, e => (ev P a e).bind fun x e => (hold (bor a) (pur b) x e).bind fun x e => (ev P b e).bind fun y e => match y with
    | .val (.int i) => ofOpt (sliceC x (some i) none) e
    | _ => .stuck
  | .slH a b, e => (ev P a e).bind fun x e => (hold (bor a) (pur b) x e).bind fun x e => (ev P b e).bind fun y e => match y with
    | .val (.int i) => ofOpt (sliceC x none (some i)) e
    | _ => .stuck
  | .slB a b c, e => (ev P a e).bind fun x e => (hold (bor a) (pur b && pur c) x e).bind fun x e => (ev P b e).bind fun y e => match y with
    | .val (.int i) => (ev P c e).bind fun z e => match z with
      | .val (.int j) => ofOpt (sliceC x (some i) (some j)) e
      | _ => .stuck
    | _ => .stuck
  | .rev a, e => (ev P a e).bind fun x e => ofOpt (x.asL.map fun ds => .lst (ds.reverse.map .val)) e
  | .attr a f, e => (ev P a e).bind fun x e => ofOpt (attrC x f) e
  | .call f args, e => (evA P args e).bind fun as e => callC P f as e
  | .mcall c f args, e => (evA P args e).bind fun as e => match as with
    | .v x :: _ => if objIs c x then callC P f as e else .stuck
    | .bw x :: _ => if objIs c x then callC P f as e else .stuck
    | .io i :: _ => match e[i]? with
      | some (some x) => if objIs c x then callC P f as e else .stuck
      | _ => .stuck
    | _ => .stuck
  | .make c f args, e => (evs P args e).bind fun cs e => makeC P c f (cs.map fun c => .val c.frz) e
  | .bi b args, e => (evP P true args e).bind fun cs e => ofOpt (biC b cs) e
  | .mt m args, e => match args with
    | [] => .stuck
    | a :: r => (ev P a e).bind fun x e => (hold (bor a) (purs r) x e).bind fun x e => if recvOk m x then (evP P true r e).bind fun cs e => ofOpt (mtC m (x :: cs)) e else .stuck
  | .comp elt tg it src cond, e => (evP P (pur elt && purs cond) src e).bind fun cs e => match itemsK it cs with
    | some ds => if ds.length ≤ line then (noexc (compLoop (fun d e => match bindTg tg (.val d) e with
        | some e => (evC P cond e).bind fun b e => if b then (ev P elt e).bind fun c e => (leak (bor elt) c e).bind fun c e => .ok (some c) (wipeE e tg.slots) else .ok none (wipeE e tg.slots)
        | none => .stuck) ds (wipeE e tg.slots))).bind fun cs e => .ok (.lst cs) e else .stuck
    | none => .stuck
  | .isi a tys, e => (ev P a e).bind fun x e => match tys with
    | [t] => if isiT t x.top then .ok (.val (.bl (tyD P.sub x.top t))) e else .stuck
    | _ => match x with
      | .val (.exc c) => .ok (.val (.bl (tys.any (tyD P.sub (.exc c))))) e
      | _ => .stuck
  | .pop p k, e => (rsv P p e).bind fun q e => if lstAt q.1 q.2 e && (isVarB p || smps k) then (evs P k e).bind fun ks e => modE (popC ks) q.1 q.2 e else .stuck
  | .setd p k v, e => (rsv P p e).bind fun q e => if isVarB p then (ev P k e).bind fun k e => (leak true k e).bind fun k e => (ev P v e).bind fun v e => match k with
    | .val k => modE (setdC k v) q.1 q.2 e
    | _ => .stuck else .stuck
  | .fmt es, e => (evs P es e).bind fun cs e => match fmtC cs with
    | some s => .ok (.val (.str s)) e
    | none => .stuck
  | .tmp _, _ => .stuck
  | .lk i a, e => match e[i]? with
    | some (some (.lst cs)) => match allVal cs with
      | some ds => match ev P a (e.set i (some (.val (.lst ds)))) with
        | .ok c f => if c.leafy && lkEnv (e.set i none) (f.set i none) then .ok c (f.set i (some (.lst cs))) else .stuck
        | _ => .stuck
      | none => .stuck
    | _ => .stuck
/-- things that leak, from the left -/
def evs (P : Pr) : List ME → Env → Res (List C)
  | [], e => .ok [] e
  | a :: r, e => (ev P a e).bind fun x e => (leak (bor a) x e).bind fun x e => (evs P r e).bind fun xs e => .ok (x :: xs) e
/-- things that are looked at -/
def evP (P : Pr) (q : Bool) : List ME → Env → Res (List C)
  | [], e => .ok [] e
  | a :: r, e => (ev P a e).bind fun x e => (hold (bor a) (q && purs r) x e).bind fun x e => (evP P q r e).bind fun xs e => .ok (x :: xs) e
/-- arguments -/
def evA (P : Pr) : List ME → Env → Res (List Ag)
  | [], e => .ok [] e
  | .io i :: r, e => match e[i]? with
    | some (some _) => (evA P r e).bind fun xs e => .ok (.io i :: xs) e
    | _ => .stuck
  | .bw a :: r, e => (ev P a e).bind fun x e => if purs r then (evA P r e).bind fun xs e => .ok (.bw x :: xs) e else .stuck
  | .tmp a :: r, e => (ev P a e).bind fun x e => (leak (bor a) x e).bind fun x e => (evA P r e).bind fun xs e => .ok (.tm x :: xs) e
  | a :: r, e => (ev P a e).bind fun x e => (leak (bor a) x e).bind fun x e => (evA P r e).bind fun xs e => .ok (.v (.val x.frz) :: xs) e
def evAnd (P : Pr) : List ME → Env → Res C
  | [], _ => .stuck
  | [a], e => ev P a e
  | a :: r, e => (ev P a e).bind fun x e => match x with
    | .val (.bl true) => evAnd P r e
    | .val (.bl false) => .ok (.val (.bl false)) e
    | _ => .stuck
def evOr (P : Pr) : List ME → Env → Res C
  | [], _ => .stuck
  | [a], e => ev P a e
  | a :: r, e => (ev P a e).bind fun x e => match x with
    | .val (.bl true) => .ok (.val (.bl true)) e
    | .val (.bl false) => evOr P r e
    | _ => .stuck
/-- a comprehension's test -/
def evC (P : Pr) : List ME → Env → Res Bool
  | [], e => .ok true e
  | [a], e => (ev P a e).bind fun x e => ofOpt (truth x) e
  | _, _ => .stuck
/-- a path's slot and its steps -/
def rsv (P : Pr) : ME → Env → Res (Nat × List Sel)
  | .var i, e => match e[i]? with
    | some (some _) => .ok (i, []) e
    | _ => .stuck
  | .sub a b, e => (rsv P a e).bind fun q e => if pur b then (ev P b e).bind fun y e => match y with
    | .val k => .ok (q.1, q.2 ++ [.ix k]) e
    | _ => .stuck else .stuck
  | .attr a f, e => (rsv P a e).bind fun q e => .ok (q.1, q.2 ++ [.at_ f]) e
  | _, _ => .stuck
end

/-- how a statement ends -/
inductive Fl where | nx | rt (c : C) | ct
  deriving Inhabited
/-- a for loop over what is known -/
def forLoop (f : D → Env → Res Fl) : List D → Env → Res Fl
  | [], e => .ok .nx e
  | d :: ds, e => (f d e).bind fun o e => match o with
    | .rt c => .ok (.rt c) e
    | _ => forLoop f ds e
def whlLoop (t : Env → Res Bool) (f : Env → Res Fl) : Nat → Env → Res Fl
  | 0, _ => .stuck
  | n + 1, e => (t e).bind fun b e => if b then (f e).bind fun o e => match o with
      | .rt c => .ok (.rt c) e
      | _ => whlLoop t f n e
    else .ok .nx e
def binding (o : Option Env) : Res Fl := match o with
  | some e => .ok .nx e
  | none => .stuck
mutual
/-- no exception within -/
def D.nox : D → Bool
  | .exc _ => false
  | .tup ds => D.noxs ds
  | .lst ds => D.noxs ds
  | .dct _ vs => D.noxs vs
  | .obj _ _ vs => D.noxs vs
  | _ => true
def D.noxs : List D → Bool
  | [] => true
  | d :: ds => D.nox d && D.noxs ds
end
mutual
def C.nox : C → Bool
  | .val d => d.nox
  | .lst cs => C.noxs cs
  | .tup cs => C.noxs cs
  | .dct _ cs => C.noxs cs
  | .obj _ _ cs => C.noxs cs
def C.noxs : List C → Bool
  | [] => true
  | c :: cs => C.nox c && C.noxs cs
end
def dropX (e : Env) : Env := e.map fun o => match o with
  | some c => if c.nox then some c else none
  | none => none
/-- behind a suite its name is gone; no exception leaves it -/
def gone : Option Nat → Res Fl → Res Fl
  | some i, .ok (.rt c) e => if c.nox then .ok (.rt c) (dropX (e.set i none)) else .stuck
  | some i, .ok f e => .ok f (dropX (e.set i none))
  | none, .ok f e => .ok f e
  | _, _ => .stuck

mutual
def evS (P : Pr) : MS → Env → Res Fl
  | .asg fz t x, e => (ev P x e).bind fun c e => (leak (bor x) c e).bind fun c e => binding (bindTg t (if fz then .val c.frz else c) e)
  | .ssub p ix x, e => (ev P x e).bind fun c e => (leak (bor x) c e).bind fun c e => (rsv P p e).bind fun q e => if isVarB p || smp ix then (ev P ix e).bind fun i e => match i with
      | .val k => (modE (if isVarB p then setL k c else setP k c) q.1 q.2 e).bind fun _ e => .ok .nx e
      | _ => .stuck
      else .stuck
  | .sattr p f x, e => (ev P x e).bind fun c e => (leak (bor x) c e).bind fun c e => (rsv P p e).bind fun q e => (modE (setF f c) q.1 q.2 e).bind fun _ e => .ok .nx e
  | .mut p o args, e => (rsv P p e).bind fun q e => if lstAt q.1 q.2 e && (isVarB p || smps args) then (evs P args e).bind fun cs e => (modE (moC o cs) q.1 q.2 e).bind fun _ e => .ok .nx e else .stuck
  | .ex x, e => (ev P x e).bind fun _ e => .ok .nx e
  | .ret x, e => (ev P x e).bind fun c e => (leak (bor x) c e).bind fun c e => .ok (.rt c) e
  | .ite c a b, e => (ev P c e).bind fun x e => (ofOpt (truth x) e).bind fun t e => if t then evSs P a e else evSs P b e
  | .for_ t it src b, e => (evs P src e).bind fun cs e => match itemsK it cs with
    | some ds => forLoop (fun d e => match bindTg t (.val d) e with
        | some e => evSs P b e
        | none => .stuck) ds e
    | none => .stuck
  | .whl c b, e => whlLoop (fun e => (ev P c e).bind fun x e => ofOpt (truth x) e) (fun e => evSs P b e) P.wf e
  | .raise k, e => .exc k e
  | .tri b c i h, e => match evSs P b e with
    | .exc k e => if P.sub k c then gone i (evSs P h (match i with | some i => e.set i (some (.val (.exc k))) | none => e)) else .exc k e
    | r => r
  | .tri2 b c h d g, e => match evSs P b e with
    | .exc k e => if P.sub k c then gone none (evSs P h e) else if P.sub k d then gone none (evSs P g e) else .exc k e
    | r => r
  | .pass, e => .ok .nx e
  | .cont, e => .ok .ct e
def evSs (P : Pr) : List MS → Env → Res Fl
  | [], e => .ok .nx e
  | s :: r, e => (evS P s e).bind fun o e => match o with
    | .nx => evSs P r e
    | o => .ok o e
end

/-- a def: its parameters, its slots, its inout parameters, its body -/
structure Fd where
  np : Nat
  ns : Nat
  io : List Nat
  body : List MS
  deriving Inhabited
def outsOf (e : Env) : List Nat → Option (List C)
  | [] => some []
  | i :: r => match e[i]? with
    | some (some c) => (outsOf e r).map (c :: ·)
    | _ => none
def endOf (io : List Nat) (c : C) (e : Env) : CR := match outsOf e io with
  | some os => .ok c os
  | none => .stuck
def start (n : Nat) (cs : List C) : Env := cs.map some ++ List.replicate (n - cs.length) none
/-- a program -/
structure Pg where
  fd : Nat → Option Fd
  glob : Nat → D
  sub : Nat → Nat → Bool
  wf : Nat
def iosOf (G : Pg) (f : Nat) : List Nat := match G.fd f with
  | some d => d.io
  | none => []
def runFd (P : Pr) (d : Fd) (cs : List C) : CR :=
  if cs.length = d.np then match evSs P d.body (start d.ns cs) with
    | .ok (.rt c) e => endOf d.io c e
    | .ok .nx e => endOf d.io (.val .non) e
    | .ok .ct _ => .stuck
    | .exc k _ => .exc k
    | .stuck => .stuck
  else .stuck
/-- a call, so many calls deep -/
def run (G : Pg) : Nat → Nat → List C → CR
  | 0, _, _ => .stuck
  | k + 1, f, cs => match G.fd f with
    | some d => runFd ⟨run G k, iosOf G, G.glob, G.sub, G.wf⟩ d cs
    | none => .stuck
end Mi
namespace MiS
open PySem PySem.Spec PyProof.Rows L2
open Mi (D C ME MS)

/-! ### the values' relation -/
structure Tb where
  K : PySem.W.Frag
  cls : Nat → Option Addr
  hx : Option (Addr × Nat)
  fld : Nat → Str
def okS (s : List Nat) : Bool := s.all (· < 0x110000)
def strV (s : List Nat) : V := .str ⟨s.toArray⟩
def KL (K : PySem.W.Frag) (a : Addr) (xs : List V) : Prop := ∃ (o : Obj) (its : Array Value) (n : Nat), K.lookup a = some o ∧ o.cls = .type "list" ∧ o.dict = none ∧ o.data = .seq its n ∧ its.size ≤ sizeLine ∧ Vals xs its.toList
def FzL (K : PySem.W.Frag) (H : Hp) (a : Addr) (vs : List V) : Prop := (∃ o, H a = some (.frz o (.lst vs))) ∨ KL K a vs
theorem FzL.sq {K : PySem.W.Frag} {H : Hp} {a : Addr} {vs : List V} (h : FzL K H a vs) : SqL K H a vs := by
  rcases h with ⟨o, e⟩ | h
  · exact .inl (.inr ⟨o, e⟩)
  · exact .inr h
def keyD : D → Option Key
  | .int i => some (.inl i)
  | .str s => some (.inr ⟨s.toArray⟩)
  | _ => none
def keysD : List D → List V → Option (List (Key × V))
  | k :: ks, v :: vs => match keyD k, keysD ks vs with
    | some q, some r => some ((q, v) :: r)
    | _, _ => none
  | [], [] => some []
  | _, _ => none

mutual
inductive RD (T : Tb) (H : Hp) : D → V → Prop
  | non : RD T H .non .non
  | bl (b : Bool) : RD T H (.bl b) (.bl b)
  | int (i : Int) : RD T H (.int i) (.int i)
  | str (s : List Nat) (h : okS s = true) : RD T H (.str s) (strV s)
  | tup {ds : List D} {a : Addr} {vs : List V} (h : SqT T.K H a vs) (r : RDs T H ds vs) : RD T H (.tup ds) (.ref a)
  | lst {ds : List D} {a : Addr} {vs : List V} (h : FzL T.K H a vs) (r : RDs T H ds vs) : RD T H (.lst ds) (.ref a)
  | dct {ks ds : List D} {a : Addr} {vs : List V} {o : Obj} {kvs : List (Key × V)} (h : H a = some (.frz o (.dK kvs))) (k : keysD ks vs = some kvs) (r : RDs T H ds vs) : RD T H (.dct ks ds) (.ref a)
  | obj {c : Nat} {ns : List Nat} {ds : List D} {a cA dx : Addr} {vs : List V} {o : Obj} {fs : List (Str × V)} (hc : T.cls c = some cA) (h : H a = some (.frz o (.ins cA dx fs))) (f : fs = (ns.map T.fld).zip vs) (r : RDs T H ds vs) (l : ns.length = vs.length) : RD T H (.obj c ns ds) (.ref a)
  | exc {c : Nat} {a : Addr} (h : T.hx = some (a, c)) : RD T H (.exc c) (.ref a)
inductive RDs (T : Tb) (H : Hp) : List D → List V → Prop
  | nil : RDs T H [] []
  | cons {d : D} {v : V} {ds : List D} {vs : List V} (h : RD T H d v) (r : RDs T H ds vs) : RDs T H (d :: ds) (v :: vs)
end

mutual
inductive RC (T : Tb) (H : Hp) : C → V → List Addr → Prop
  | val {d : D} {v : V} (h : RD T H d v) : RC T H (.val d) v []
  | lst {cs : List C} {a : Addr} {vs : List V} {F : List Addr} (h : H a = some (.lst vs)) (r : RCs T H cs vs F) : RC T H (.lst cs) (.ref a) (a :: F)
  | tup {cs : List C} {a : Addr} {vs : List V} {F : List Addr} (h : SqT T.K H a vs) (r : RCs T H cs vs F) : RC T H (.tup cs) (.ref a) F
  | dct {ks : List D} {cs : List C} {a : Addr} {vs : List V} {F : List Addr} {kvs : List (Key × V)} (h : H a = some (.dK kvs)) (k : keysD ks vs = some kvs) (r : RCs T H cs vs F) : RC T H (.dct ks cs) (.ref a) (a :: F)
  | obj {c : Nat} {ns : List Nat} {cs : List C} {a cA dx : Addr} {vs : List V} {F : List Addr} {fs : List (Str × V)} (hc : T.cls c = some cA) (h : H a = some (.ins cA dx fs)) (f : fs = (ns.map T.fld).zip vs) (r : RCs T H cs vs F) (l : ns.length = vs.length) : RC T H (.obj c ns cs) (.ref a) (a :: F)
inductive RCs (T : Tb) (H : Hp) : List C → List V → List Addr → Prop
  | nil : RCs T H [] [] []
  | cons {c : C} {v : V} {cs : List C} {vs : List V} {F G : List Addr} (h : RC T H c v F) (r : RCs T H cs vs G) : RCs T H (c :: cs) (v :: vs) (F ++ G)
end

/-! ### what stays -/
def Keep (H H' : Hp) : Prop := (∀ b vs, H b = some (.tup vs) → H' b = some (.tup vs)) ∧ ∀ b o u, H b = some (.frz o u) → H' b = some (.frz o u)
def Stp (F : Addr → Prop) (H H' : Hp) : Prop := ∀ b o, H b = some o → ¬ F b → H' b = some o
theorem Keep.refl {H : Hp} : Keep H H := ⟨fun _ _ h => h, fun _ _ _ h => h⟩
theorem Keep.trans {H H1 H2 : Hp} (a : Keep H H1) (b : Keep H1 H2) : Keep H H2 := ⟨fun _ _ h => b.1 _ _ (a.1 _ _ h), fun _ _ _ h => b.2 _ _ _ (a.2 _ _ _ h)⟩
theorem Stp.refl {F : Addr → Prop} {H : Hp} : Stp F H H := fun _ _ h _ => h
theorem Stp.mono {F G : Addr → Prop} {H H' : Hp} (s : Stp F H H') (h : ∀ a, F a → G a) : Stp G H H' := fun b o e n => s b o e fun m => n (h b m)
theorem Keep.rd {H H' : Hp} (k : Keep H H') {a : Addr} {vs : List V} (h : Rd H a (.tup vs)) : Rd H' a (.tup vs) := by
  rcases h with h | ⟨o, h⟩
  · exact .inl (k.1 _ _ h)
  · exact .inr ⟨o, k.2 _ _ _ h⟩
theorem Keep.sqT {K : PySem.W.Frag} {H H' : Hp} (k : Keep H H') {a : Addr} {vs : List V} (h : SqT K H a vs) : SqT K H' a vs := by
  rcases h with h | h
  · exact .inl (k.rd h)
  · exact .inr h
theorem Keep.fzL {K : PySem.W.Frag} {H H' : Hp} (k : Keep H H') {a : Addr} {vs : List V} (h : FzL K H a vs) : FzL K H' a vs := by
  rcases h with ⟨o, h⟩ | h
  · exact .inl ⟨o, k.2 _ _ _ h⟩
  · exact .inr h
mutual
theorem RD.keep {T : Tb} {H H' : Hp} (k : Keep H H') : ∀ {d : D} {v : V}, RD T H d v → RD T H' d v
  | _, _, .non => .non
  | _, _, .bl b => .bl b
  | _, _, .int i => .int i
  | _, _, .str s h => .str s h
  | _, _, .tup h r => .tup (k.sqT h) (RDs.keep k r)
  | _, _, .lst h r => .lst (k.fzL h) (RDs.keep k r)
  | _, _, .dct h q r => .dct (k.2 _ _ _ h) q (RDs.keep k r)
  | _, _, .obj hc h f r l => .obj hc (k.2 _ _ _ h) f (RDs.keep k r) l
  | _, _, .exc h => .exc h
theorem RDs.keep {T : Tb} {H H' : Hp} (k : Keep H H') : ∀ {ds : List D} {vs : List V}, RDs T H ds vs → RDs T H' ds vs
  | _, _, .nil => .nil
  | _, _, .cons h r => .cons (RD.keep k h) (RDs.keep k r)
end
mutual
theorem RC.stp {T : Tb} {H H' : Hp} {G : Addr → Prop} (k : Keep H H') (s : Stp G H H') : ∀ {c : C} {v : V} {F : List Addr}, RC T H c v F → (∀ a ∈ F, ¬ G a) → RC T H' c v F
  | _, _, _, .val h, _ => .val (h.keep k)
  | _, _, _, .lst h r, n => .lst (s _ _ h (n _ List.mem_cons_self)) (RCs.stp k s r fun a m => n a (List.mem_cons_of_mem _ m))
  | _, _, _, .tup h r, n => .tup (k.sqT h) (RCs.stp k s r n)
  | _, _, _, .dct h q r, n => .dct (s _ _ h (n _ List.mem_cons_self)) q (RCs.stp k s r fun a m => n a (List.mem_cons_of_mem _ m))
  | _, _, _, .obj hc h f r l, n => .obj hc (s _ _ h (n _ List.mem_cons_self)) f (RCs.stp k s r fun a m => n a (List.mem_cons_of_mem _ m)) l
theorem RCs.stp {T : Tb} {H H' : Hp} {G : Addr → Prop} (k : Keep H H') (s : Stp G H H') : ∀ {cs : List C} {vs : List V} {F : List Addr}, RCs T H cs vs F → (∀ a ∈ F, ¬ G a) → RCs T H' cs vs F
  | _, _, _, .nil, _ => .nil
  | _, _, _, .cons h r, n => .cons (RC.stp k s h fun a m => n a (List.mem_append_left _ m)) (RCs.stp k s r fun a m => n a (List.mem_append_right _ m))
end
mutual
theorem RC.cell {T : Tb} {H : Hp} : ∀ {c : C} {v : V} {F : List Addr}, RC T H c v F → ∀ a ∈ F, ∃ u, H a = some u ∧ Mut (some u)
  | _, _, _, .val _, _, m => nomatch m
  | _, _, _, .lst (vs := vs) h r, a, m => (List.mem_cons.mp m).elim (fun e => ⟨.lst vs, by rw [e]; exact h, trivial⟩) (RCs.cell r a)
  | _, _, _, .tup _ r, a, m => RCs.cell r a m
  | _, _, _, .dct (kvs := kvs) h _ r, a, m => (List.mem_cons.mp m).elim (fun e => ⟨.dK kvs, by rw [e]; exact h, trivial⟩) (RCs.cell r a)
  | _, _, _, .obj (cA := cA) (dx := dx) (fs := fs) _ h _ r _, a, m => (List.mem_cons.mp m).elim (fun e => ⟨.ins cA dx fs, by rw [e]; exact h, trivial⟩) (RCs.cell r a)
theorem RCs.cell {T : Tb} {H : Hp} : ∀ {cs : List C} {vs : List V} {F : List Addr}, RCs T H cs vs F → ∀ a ∈ F, ∃ u, H a = some u ∧ Mut (some u)
  | _, _, _, .nil, _, m => nomatch m
  | _, _, _, .cons h r, a, m => (List.mem_append.mp m).elim (RC.cell h a) (RCs.cell r a)
end
/-- a step that leaves all but cells keeps what is frozen -/
theorem Stp.keep {F : Addr → Prop} {H H' : Hp} (s : Stp F H H') (c : ∀ a, F a → ∃ u, H a = some u ∧ Mut (some u)) : Keep H H' := by
  refine ⟨fun b vs h => s b _ h fun m => ?_, fun b o u h => s b _ h fun m => ?_⟩
  · obtain ⟨u, e, mu⟩ := c b m
    rw [h] at e; cases e; exact mu
  · obtain ⟨u, e, mu⟩ := c b m
    rw [h] at e; cases e; exact mu
/-! ### freezing -/
/-- what may be reached by locking cells -/
inductive LkQ (R : Hp → Prop) : Hp → Prop
  | now {H : Hp} (h : R H) : LkQ R H
  | lock {H : Hp} (a : Addr) (u : HO) (e : H a = some u) (m : Mut (some u)) (k : ∀ od, LkQ R (upd H a (.frz od u))) : LkQ R H
theorem LkQ.inv {X : Cx} {pins : List (Addr × Obj)} {σ : L2.St} {s : Shared} {R : Hp → Prop} {H : Hp} (q : LkQ R H) (I : Inv X pins σ H s) : ∃ H', Inv X pins σ H' s ∧ R H' := by
  induction q with
  | now h => exact ⟨_, I, h⟩
  | lock a u e m k ih =>
    obtain ⟨od, I'⟩ := I.lock e m
    exact ih od I'
theorem LkQ.imp {R R' : Hp → Prop} (f : ∀ H, R H → R' H) {H : Hp} (q : LkQ R H) : LkQ R' H := by
  induction q with
  | now h => exact .now (f _ h)
  | lock a u e m k ih => exact .lock a u e m ih
theorem LkQ.bind {R R' : Hp → Prop} {H : Hp} (q : LkQ R H) (f : ∀ H, R H → LkQ R' H) : LkQ R' H := by
  induction q with
  | now h => exact f _ h
  | lock a u e m k ih => exact .lock a u e m ih
/-- behind the freezing of F: all else stands, the cells of F are frozen -/
def FzSt (F : List Addr) (H H' : Hp) : Prop := (∀ b, b ∉ F → H' b = H b) ∧ ∀ b ∈ F, ∃ o u, H b = some u ∧ H' b = some (.frz o u)
theorem FzSt.nil {H : Hp} : FzSt [] H H := ⟨fun _ _ => rfl, fun _ m => nomatch m⟩
theorem FzSt.stp {F : List Addr} {H H' : Hp} (z : FzSt F H H') : Stp (· ∈ F) H H' := fun b o e n => (z.1 b n).trans e
theorem FzSt.trans {F G : List Addr} {H H1 H2 : Hp} (x : FzSt F H H1) (y : FzSt G H1 H2) (d : ∀ a ∈ F, a ∉ G) : FzSt (F ++ G) H H2 := by
  refine ⟨fun b n => ?_, fun b m => ?_⟩
  · rw [List.mem_append, not_or] at n
    rw [y.1 b n.2, x.1 b n.1]
  · rcases List.mem_append.mp m with m | m
    · obtain ⟨o, u, e, e'⟩ := x.2 b m
      exact ⟨o, u, e, by rw [y.1 b (d b m)]; exact e'⟩
    · obtain ⟨o, u, e, e'⟩ := y.2 b m
      by_cases mf : b ∈ F
      · exact absurd m (d b mf)
      · exact ⟨o, u, by rw [← x.1 b mf]; exact e, e'⟩
mutual
theorem RC.lock {T : Tb} {R : Hp → Prop} : ∀ (c : C) {v : V} {F : List Addr} {H : Hp}, RC T H c v F → F.Nodup → (∀ H', RD T H' c.frz v → FzSt F H H' → R H') → LkQ R H
  | .val d, _, _, H, .val h, _, k => .now (k H h .nil)
  | .lst cs, _, _, H, .lst (a := a) (vs := vs) (F := G) h r, n, k => by
    have n' := List.nodup_cons.mp n
    refine (RCs.lock cs (R := fun H1 => RDs T H1 (Mi.C.frzs cs) vs ∧ FzSt G H H1) r n'.2 fun H1 r1 z1 => ⟨r1, z1⟩).bind fun H1 ⟨r1, z1⟩ => ?_
    have h1 : H1 a = some (.lst vs) := by rw [z1.1 a n'.1]; exact h
    refine .lock a _ h1 trivial fun od => .now (k _ ?_ ?_)
    · have kp : Keep H1 (upd H1 a (.frz od (.lst vs))) := ⟨fun b ws e => by rw [upd_ne (ne_of e h1 (by intro z; cases z))]; exact e, fun b o u e => by rw [upd_ne (ne_of e h1 (by intro z; cases z))]; exact e⟩
      exact .lst (.inl ⟨od, upd_same⟩) (r1.keep kp)
    · refine ⟨fun b nb => ?_, fun b mb => ?_⟩
      · rw [List.mem_cons, not_or] at nb
        rw [upd_ne nb.1, z1.1 b nb.2]
      · rcases List.mem_cons.mp mb with e | mb
        · subst e; exact ⟨od, _, h, upd_same⟩
        · obtain ⟨o, u, e, e'⟩ := z1.2 b mb
          exact ⟨o, u, e, by rw [upd_ne (show b ≠ a from fun q => n'.1 (by rw [← q]; exact mb))]; exact e'⟩
  | .tup cs, _, _, H, .tup (vs := vs) (F := G) h r, n, k => by
    refine (RCs.lock cs (R := fun H1 => RDs T H1 (Mi.C.frzs cs) vs ∧ FzSt G H H1) r n fun H1 r1 z1 => ⟨r1, z1⟩).bind fun H1 ⟨r1, z1⟩ => .now (k _ (.tup ?_ r1) z1)
    exact (z1.stp.keep (RCs.cell r)).sqT h
  | .dct ks cs, _, _, H, .dct (a := a) (vs := vs) (F := G) (kvs := kvs) h q r, n, k => by
    have n' := List.nodup_cons.mp n
    refine (RCs.lock cs (R := fun H1 => RDs T H1 (Mi.C.frzs cs) vs ∧ FzSt G H H1) r n'.2 fun H1 r1 z1 => ⟨r1, z1⟩).bind fun H1 ⟨r1, z1⟩ => ?_
    have h1 : H1 a = some (.dK kvs) := by rw [z1.1 a n'.1]; exact h
    refine .lock a _ h1 trivial fun od => .now (k _ ?_ ?_)
    · have kp : Keep H1 (upd H1 a (.frz od (.dK kvs))) := ⟨fun b ws e => by rw [upd_ne (ne_of e h1 (by intro z; cases z))]; exact e, fun b o u e => by rw [upd_ne (ne_of e h1 (by intro z; cases z))]; exact e⟩
      exact .dct upd_same q (r1.keep kp)
    · refine ⟨fun b nb => ?_, fun b mb => ?_⟩
      · rw [List.mem_cons, not_or] at nb
        rw [upd_ne nb.1, z1.1 b nb.2]
      · rcases List.mem_cons.mp mb with e | mb
        · subst e; exact ⟨od, _, h, upd_same⟩
        · obtain ⟨o, u, e, e'⟩ := z1.2 b mb
          exact ⟨o, u, e, by rw [upd_ne (show b ≠ a from fun q => n'.1 (by rw [← q]; exact mb))]; exact e'⟩
  | .obj c ns cs, _, _, H, .obj (a := a) (cA := cA) (dx := dx) (vs := vs) (F := G) (fs := fs) hc h f r l, n, k => by
    have n' := List.nodup_cons.mp n
    refine (RCs.lock cs (R := fun H1 => RDs T H1 (Mi.C.frzs cs) vs ∧ FzSt G H H1) r n'.2 fun H1 r1 z1 => ⟨r1, z1⟩).bind fun H1 ⟨r1, z1⟩ => ?_
    have h1 : H1 a = some (.ins cA dx fs) := by rw [z1.1 a n'.1]; exact h
    refine .lock a _ h1 trivial fun od => .now (k _ ?_ ?_)
    · have kp : Keep H1 (upd H1 a (.frz od (.ins cA dx fs))) := ⟨fun b ws e => by rw [upd_ne (ne_of e h1 (by intro z; cases z))]; exact e, fun b o u e => by rw [upd_ne (ne_of e h1 (by intro z; cases z))]; exact e⟩
      exact .obj hc upd_same f (r1.keep kp) l
    · refine ⟨fun b nb => ?_, fun b mb => ?_⟩
      · rw [List.mem_cons, not_or] at nb
        rw [upd_ne nb.1, z1.1 b nb.2]
      · rcases List.mem_cons.mp mb with e | mb
        · subst e; exact ⟨od, _, h, upd_same⟩
        · obtain ⟨o, u, e, e'⟩ := z1.2 b mb
          exact ⟨o, u, e, by rw [upd_ne (show b ≠ a from fun q => n'.1 (by rw [← q]; exact mb))]; exact e'⟩
theorem RCs.lock {T : Tb} {R : Hp → Prop} : ∀ (cs : List C) {vs : List V} {F : List Addr} {H : Hp}, RCs T H cs vs F → F.Nodup → (∀ H', RDs T H' (Mi.C.frzs cs) vs → FzSt F H H' → R H') → LkQ R H
  | [], _, _, H, .nil, _, k => .now (k H .nil .nil)
  | c :: cs, _, _, H, .cons (v := v) (vs := vs) (F := F) (G := G) h r, n, k => by
    obtain ⟨n1, n2, n3⟩ := List.nodup_append.mp n
    have dj : ∀ a ∈ F, a ∉ G := fun a m m' => n3 a m a m' rfl
    refine (RC.lock c (R := fun H1 => RD T H1 c.frz v ∧ FzSt F H H1) h n1 fun H1 r1 z1 => ⟨r1, z1⟩).bind fun H1 ⟨r1, z1⟩ => ?_
    have kp := z1.stp.keep (RC.cell h)
    have r' : RCs T H1 cs vs G := RCs.stp kp z1.stp r fun a m m' => dj a m' m
    refine (RCs.lock cs (R := fun H2 => RDs T H2 (Mi.C.frzs cs) vs ∧ FzSt G H1 H2) r' n2 fun H2 r2 z2 => ⟨r2, z2⟩).bind fun H2 ⟨r2, z2⟩ => .now (k _ (.cons (r1.keep (z2.stp.keep (RCs.cell r'))) r2) (z1.trans z2 dj))
end
end MiS
namespace MiS
open PySem PySem.Spec PyProof.Rows L2
open Mi (D C ME MS)

/-! ### slots -/
def own (fp : Nat → List Addr) : Addr → Prop := fun a => ∃ i, a ∈ fp i
def updF (fp : Nat → List Addr) (i : Nat) (F : List Addr) : Nat → List Addr := fun j => if j = i then F else fp j
structure RE (T : Tb) (H : Hp) (e : Mi.Env) (σ : L2.St) (fp : Nat → List Addr) : Prop where
  len : e.length = σ.length
  at_ : ∀ (i : Nat) (c : C), e[i]? = some (some c) → ∃ v, σ[i]? = some (some v) ∧ RC T H c v (fp i)
  nod : ∀ i, (fp i).Nodup
  dis : ∀ i j a, i ≠ j → a ∈ fp i → a ∉ fp j
  cel : ∀ i, ∀ a ∈ fp i, ∃ u, H a = some u ∧ Mut (some u)
def Emp : Addr → Prop := fun _ => False
/-- a step from H, whose slots own O, to H' -/
structure Sp1 (T : Tb) (σ : L2.St) (H : Hp) (O : Addr → Prop) (p : Bool) (H' : Hp) (e' : Mi.Env) (fp' : Nat → List Addr) : Prop where
  re : RE T H' e' σ fp'
  sub : ∀ a, own fp' a → O a ∨ H a = none
  stp : Stp O H H'
  keep : Keep H H'
  pure : p = true → Stp Emp H H'
/-- cells that no slot owns -/
structure Tmp (H : Hp) (O : Addr → Prop) (p : Bool) (fp' : Nat → List Addr) (F : List Addr) : Prop where
  nod : F.Nodup
  out : ∀ a ∈ F, ¬ own fp' a
  sub : ∀ a ∈ F, O a ∨ H a = none
  pur : p = true → ∀ a ∈ F, H a = none
theorem Tmp.nil {H : Hp} {O : Addr → Prop} {p : Bool} {fp' : Nat → List Addr} : Tmp H O p fp' [] := ⟨.nil, fun _ m => (nomatch m), fun _ m => (nomatch m), fun _ _ m => (nomatch m)⟩
section
variable {T : Tb} {σ : L2.St} {H H1 H2 : Hp} {O : Addr → Prop} {p q : Bool} {e e1 e2 : Mi.Env} {fp fp1 fp2 : Nat → List Addr} {F : List Addr}
theorem Sp1.refl (r : RE T H e σ fp) : Sp1 T σ H (own fp) p H e fp := ⟨r, fun _ h => .inl h, Stp.refl, Keep.refl, fun _ => Stp.refl⟩
theorem sp0 (r : RE T H e σ fp) : Sp1 T σ H (own fp) true H e fp := Sp1.refl r
theorem Sp1.trans (a : Sp1 T σ H O p H1 e1 fp1) (b : Sp1 T σ H1 (own fp1) q H2 e2 fp2) : Sp1 T σ H O (p && q) H2 e2 fp2 where
  re := b.re
  sub := fun x h => by
    rcases b.sub x h with h | h
    · exact a.sub x h
    · by_cases hO : O x
      · exact .inl hO
      · refine .inr ?_
        cases e : H x with
        | none => rfl
        | some u => have := a.stp x u e hO; rw [h] at this; cases this
  stp := fun x u e n => b.stp x u (a.stp x u e n) fun h => by
    rcases a.sub x h with h | h
    · exact n h
    · rw [h] at e; cases e
  keep := a.keep.trans b.keep
  pure := fun h => by
    rw [Bool.and_eq_true] at h
    exact fun x u e n => b.pure h.2 x u (a.pure h.1 x u e n) n
theorem Sp1.weak (a : Sp1 T σ H O p H1 e1 fp1) (h : q = true → p = true) : Sp1 T σ H O q H1 e1 fp1 := ⟨a.re, a.sub, a.stp, a.keep, fun x => a.pure (h x)⟩
/-- cells of ours behind a further step -/
theorem Tmp.next (t : Tmp H O p fp1 F) (a : Sp1 T σ H O p H1 e1 fp1) (hc : ∀ a ∈ F, ∃ u, H1 a = some u) (b : Sp1 T σ H1 (own fp1) q H2 e2 fp2) : Tmp H O (p && q) fp2 F where
  nod := t.nod
  out := fun x m h => by
    rcases b.sub x h with h | h
    · exact t.out x m h
    · obtain ⟨u, e⟩ := hc x m; rw [h] at e; cases e
  sub := t.sub
  pur := fun h => by
    rw [Bool.and_eq_true] at h
    exact t.pur h.1
theorem Tmp.new (t : Tmp H1 (own fp1) q fp2 F) (a : Sp1 T σ H O p H1 e1 fp1) : Tmp H O (p && q) fp2 F where
  nod := t.nod
  out := t.out
  sub := fun x m => by
    rcases t.sub x m with h | h
    · exact a.sub x h
    · by_cases hO : O x
      · exact .inl hO
      · refine .inr ?_
        cases e : H x with
        | none => rfl
        | some u => have := a.stp x u e hO; rw [h] at this; cases this
  pur := fun h x m => by
    rw [Bool.and_eq_true] at h
    have z := t.pur h.2 x m
    cases e : H x with
    | none => rfl
    | some u => have := a.pure h.1 x u e (fun z => z); rw [z] at this; cases this
theorem Tmp.disj {G : List Addr} (t : Tmp H O p fp1 F) (a : Sp1 T σ H O p H1 e1 fp1) (hc : ∀ a ∈ F, ∃ u, H1 a = some u) (s : Tmp H1 (own fp1) q fp2 G) : ∀ x ∈ F, x ∉ G := fun x m m' => by
  rcases s.sub x m' with h | h
  · exact t.out x m h
  · obtain ⟨u, e⟩ := hc x m; rw [h] at e; cases e
end

/-! ### expressions' readings -/
abbrev WX' := WX
/-- what an expression comes to: b: it may be a cell of a slot -/
structure Val (T : Tb) (σ : L2.St) (H : Hp) (O : Addr → Prop) (b p : Bool) (e' : Mi.Env) (c : C) (v : V) (H' : Hp) (fp' : Nat → List Addr) (F : List Addr) : Prop where
  sp : Sp1 T σ H O p H' e' fp'
  rc : RC T H' c v F
  tm : b = false → Tmp H O p fp' F
def xW (T : Tb) (W : WX) (k : Nat) (σ : L2.St) (H : Hp) : Prop := ∀ a, T.cls k = some a → W (.ref a) none σ H
/-- how a run from H ends -/
def FinG {α : Type} (T : Tb) (W : WX) (σ : L2.St) (H : Hp) (O : Addr → Prop) (ok : α → Mi.Env → Prop) : Mi.Res α → Prop
  | .ok a e' => ok a e'
  | .exc k e' => ∀ H' fp', Sp1 T σ H O false H' e' fp' → xW T W k σ H'
  | .stuck => False
def VQ (T : Tb) (σ : L2.St) (H : Hp) (O : Addr → Prop) (b p : Bool) (Q : VK) : C → Mi.Env → Prop := fun c e' => ∀ v H' fp' F, Val T σ H O b p e' c v H' fp' F → Q v H'
/-- the reading of what a Mini function of the slots tells -/
def Tr (T : Tb) (W : WX) (m : Mi.Env → Mi.Res C) (b p : Bool) : TE := fun σ H Q => ∃ e fp, RE T H e σ fp ∧ FinG T W σ H (own fp) (VQ T σ H (own fp) b p Q) (m e)
theorem PE.imp {X : Cx} {e : Expr} {t t' : TE} (h : PE X e t) (i : ∀ σ H Q, t' σ H Q → t σ H Q) : PE X e t' := ⟨fun pins s σ H Q I q => h.run pins s σ H Q I (i σ H Q q)⟩
def tLk (t : TE) : TE := fun σ H Q => t σ H fun v H1 => LkQ (fun H2 => Q v H2) H1
theorem PE.lk {X : Cx} {e : Expr} {t : TE} (h : PE X e t) : PE X e (tLk t) := ⟨fun pins s σ H Q I q => thn (h.run pins s σ H _ I q) fun u s1 ⟨v, H1, I1, r, z⟩ => by
  obtain ⟨H2, I2, z2⟩ := z.inv I1
  exact ⟨v, H2, I2, r, z2⟩⟩
/-- .. for lists of things -/
structure Vls (T : Tb) (σ : L2.St) (H : Hp) (O : Addr → Prop) (p : Bool) (e' : Mi.Env) (cs : List C) (vs : List V) (H' : Hp) (fp' : Nat → List Addr) (F : List Addr) : Prop where
  sp : Sp1 T σ H O p H' e' fp'
  rc : RCs T H' cs vs F
  tm : Tmp H O p fp' F
def VQs (T : Tb) (σ : L2.St) (H : Hp) (O : Addr → Prop) (p : Bool) (Q : List V → Hp → Prop) : List C → Mi.Env → Prop := fun cs e' => ∀ vs H' fp' F, Vls T σ H O p e' cs vs H' fp' F → Q vs H'
def TrA (T : Tb) (W : WX) (m : Mi.Env → Mi.Res (List C)) (p : Bool) : TA := fun σ H Q => ∃ e fp, RE T H e σ fp ∧ FinG T W σ H (own fp) (VQs T σ H (own fp) p Q) (m e)
theorem PA.imp {X : Cx} {es : List Expr} {t t' : TA} (h : PA X es t) (i : ∀ σ H Q, t' σ H Q → t σ H Q) : PA X es t' := ⟨fun pos pins s σ H Q I q => h.run pos pins s σ H Q I (i σ H Q q)⟩
section
variable {T : Tb} {W : WX} {σ : L2.St} {H H1 H2 : Hp} {O : Addr → Prop} {p p0 p1 b1 : Bool} {e1 : Mi.Env} {fp1 : Nat → List Addr}
theorem Tr.step {α : Type} {ok : α → Mi.Env → Prop} {m : Mi.Env → Mi.Res C} {g : C → Mi.Env → Mi.Res α} {Q1 : VK} (s : Sp1 T σ H O p0 H1 e1 fp1) (hq : FinG T W σ H O ok ((m e1).bind g))
    (k : ∀ c e2 v H2 fp2 F, m e1 = .ok c e2 → Val T σ H1 (own fp1) b1 p1 e2 c v H2 fp2 F → FinG T W σ H O ok (g c e2) → Q1 v H2) : Tr T W m b1 p1 σ H1 Q1 := by
  refine ⟨e1, fp1, s.re, ?_⟩
  cases h : m e1 with
  | ok c e2 => rw [h] at hq; exact fun v H2 fp2 F x => k c e2 v H2 fp2 F h x hq
  | exc n e2 => rw [h] at hq; exact fun H2 fp2 x => hq H2 fp2 ((s.trans x).weak fun z => by cases z)
  | stuck => rw [h] at hq; exact hq
theorem TrA.step {α : Type} {ok : α → Mi.Env → Prop} {m : Mi.Env → Mi.Res (List C)} {g : List C → Mi.Env → Mi.Res α} {Q1 : List V → Hp → Prop} (s : Sp1 T σ H O p0 H1 e1 fp1) (hq : FinG T W σ H O ok ((m e1).bind g))
    (k : ∀ cs e2 vs H2 fp2 F, m e1 = .ok cs e2 → Vls T σ H1 (own fp1) p1 e2 cs vs H2 fp2 F → FinG T W σ H O ok (g cs e2) → Q1 vs H2) : TrA T W m p1 σ H1 Q1 := by
  refine ⟨e1, fp1, s.re, ?_⟩
  cases h : m e1 with
  | ok c e2 => rw [h] at hq; exact fun v H2 fp2 F x => k c e2 v H2 fp2 F h x hq
  | exc n e2 => rw [h] at hq; exact fun H2 fp2 x => hq H2 fp2 ((s.trans x).weak fun z => by cases z)
  | stuck => rw [h] at hq; exact hq
theorem FinG.ofOpt {α β : Type} {ok : β → Mi.Env → Prop} {o : Option α} {g : α → Mi.Env → Mi.Res β} {e : Mi.Env} (h : FinG T W σ H O ok ((Mi.ofOpt o e).bind g)) : ∃ a, o = some a ∧ FinG T W σ H O ok (g a e) := by
  cases o with
  | some a => exact ⟨a, rfl, h⟩
  | none => exact h.elim
theorem FinG.opt {α : Type} {ok : α → Mi.Env → Prop} {o : Option α} {e : Mi.Env} (h : FinG T W σ H O ok (Mi.ofOpt o e)) : ∃ a, o = some a ∧ ok a e := by
  cases o with
  | some a => exact ⟨a, rfl, h⟩
  | none => exact h.elim
/-- new things are laid: the slots stay -/
theorem RE.keep {e : Mi.Env} {fp : Nat → List Addr} (r : RE T H e σ fp) (k : Keep H H1) (s : ∀ a, own fp a → ∀ u, H a = some u → H1 a = some u) : RE T H1 e σ fp where
  len := r.len
  at_ := fun i c h => by
    obtain ⟨v, e1, rc⟩ := r.at_ i c h
    refine ⟨v, e1, rc.stp (G := fun a => ¬ own fp a) k (fun b o e n => ?_) fun a m n => n ⟨i, m⟩⟩
    by_cases z : own fp b
    · exact s b z o e
    · exact absurd z n
  nod := r.nod
  dis := r.dis
  cel := fun i a m => by
    obtain ⟨u, e, mu⟩ := r.cel i a m
    exact ⟨u, s a ⟨i, m⟩ u e, mu⟩
theorem Sp1.laid (a : Sp1 T σ H O p H1 e1 fp1) (k : Keep H1 H2) (s : Stp Emp H1 H2) : Sp1 T σ H O p H2 e1 fp1 := by
  have b : Sp1 T σ H1 (own fp1) true H2 e1 fp1 := ⟨a.re.keep k fun x _ u e => s x u e fun z => z, fun _ h => .inl h, s.mono fun _ z => z.elim, k, fun _ => s⟩
  exact (a.trans b).weak fun z => by rw [z]; rfl
theorem Tmp.laid {F : List Addr} (a : Sp1 T σ H O p H1 e1 fp1) (n : F.Nodup) (f : ∀ x ∈ F, H1 x = none) : Tmp H O p fp1 F := by
  have t : Tmp H1 (own fp1) true fp1 F := ⟨n, fun x m ⟨i, z⟩ => (by obtain ⟨u, e, _⟩ := a.re.cel i x z; rw [f x m] at e; cases e), fun x m => .inr (f x m), fun _ => f⟩
  have z := t.new a
  rw [Bool.and_true] at z
  exact z
/-- what is held while a second thing is reckoned -/
structure Held (T : Tb) (σ : L2.St) (H : Hp) (O : Addr → Prop) (p q : Bool) (e1 : Mi.Env) (c : C) (v : V) (H1 : Hp) (fp1 : Nat → List Addr) (F : List Addr) : Prop where
  sp : Sp1 T σ H O p H1 e1 fp1
  rc : RC T H1 c v F
  hd : F = [] ∨ q = true
theorem Held.next {q q' : Bool} {c : C} {v : V} {F : List Addr} {e2 : Mi.Env} {fp2 : Nat → List Addr} (h : Held T σ H O p q e1 c v H1 fp1 F) (s : Sp1 T σ H1 (own fp1) q' H2 e2 fp2) (hq : q = true → q' = true) : RC T H2 c v F := by
  rcases h.hd with e | e
  · subst e
    exact h.rc.stp s.keep s.stp fun _ m => nomatch m
  · exact h.rc.stp s.keep (s.pure (hq e)) fun _ _ z => z
theorem isVal_fp {c : C} {v : V} {F : List Addr} (r : RC T H c v F) (h : c.isVal = true) : F = [] := by
  cases r with
  | val _ => rfl
  | lst _ _ => cases h
  | tup _ _ => cases h
  | dct _ _ _ => cases h
  | obj _ _ _ _ _ => cases h
theorem hold_lk {α : Type} {ok : α → Mi.Env → Prop} {b q : Bool} {c : C} {v : V} {F : List Addr} {g : C → Mi.Env → Mi.Res α} {R : Hp → Prop} {H0 : Hp} {O0 : Addr → Prop} (x : Val T σ H O b p e1 c v H1 fp1 F)
    (hq : FinG T W σ H0 O0 ok ((Mi.hold b q c e1).bind g)) (k : ∀ c' H2 F', Held T σ H O p q e1 c' v H2 fp1 F' → FinG T W σ H0 O0 ok (g c' e1) → R H2) : LkQ R H1 := by
  cases b with
  | true =>
    unfold Mi.hold at hq
    rw [if_pos rfl] at hq
    by_cases z : (q || c.isVal) = true
    · rw [if_pos z] at hq
      refine .now (k c H1 F ⟨x.sp, x.rc, ?_⟩ hq)
      rcases (Bool.or_eq_true _ _).mp z with z | z
      · exact .inr z
      · exact .inl (isVal_fp x.rc z)
    · rw [if_neg z] at hq
      exact hq.elim
  | false =>
    have t := x.tm rfl
    unfold Mi.hold at hq
    rw [if_neg Bool.false_ne_true] at hq
    refine RC.lock c x.rc t.nod fun H2 rd z => k (.val c.frz) H2 [] ⟨?_, .val rd, .inl rfl⟩ hq
    have kp := z.stp.keep fun a m => x.rc.cell a m
    have re2 : RE T H2 e1 σ fp1 := x.sp.re.keep kp fun a ha u e => z.stp a u e fun m => t.out a m ha
    refine ⟨re2, x.sp.sub, fun b o e n => ?_, x.sp.keep.trans kp, fun hp b o e n => ?_⟩
    · refine z.stp b o (x.sp.stp b o e n) fun m => ?_
      rcases t.sub b m with h | h
      · exact n h
      · rw [h] at e; cases e
    · refine z.stp b o (x.sp.pure hp b o e n) fun m => ?_
      rw [t.pur hp b m] at e; cases e
/-- what leaks is no cell of a slot -/
theorem leak_of {α : Type} {ok : α → Mi.Env → Prop} {b : Bool} {c : C} {v : V} {F : List Addr} {g : C → Mi.Env → Mi.Res α} {H0 : Hp} {O0 : Addr → Prop} (x : Val T σ H O b p e1 c v H1 fp1 F)
    (hq : FinG T W σ H0 O0 ok ((Mi.leak b c e1).bind g)) : Val T σ H O false p e1 c v H1 fp1 F ∧ FinG T W σ H0 O0 ok (g c e1) := by
  unfold Mi.leak at hq
  by_cases z : (b && !c.isVal) = true
  · rw [if_pos z] at hq
    exact hq.elim
  · rw [if_neg z] at hq
    refine ⟨⟨x.sp, x.rc, fun _ => ?_⟩, hq⟩
    cases b with
    | false => exact x.tm rfl
    | true =>
      have : c.isVal = true := by simpa using z
      rw [isVal_fp x.rc this]
      exact .nil
theorem Val.imp {b : Bool} {c : C} {v : V} {F : List Addr} (x : Val T σ H O false p e1 c v H1 fp1 F) : Val T σ H O b p e1 c v H1 fp1 F := ⟨x.sp, x.rc, fun _ => x.tm rfl⟩
end
end MiS
namespace MiS
open PySem PySem.Spec PyProof.Rows L2
open Mi (D C ME MS)

/-! ### what new values are -/
def R2N (T : Tb) (H : Hp) (Q : VK) (z : C) : Prop := ∀ v H' F, RC T H' z v F → Stp Emp H H' → Keep H H' → F.Nodup → (∀ a ∈ F, H a = none) → Q v H'
section
variable {T : Tb} {H H' : Hp} {Q : VK}
theorem stp_new {p : Addr} {o : HO} (h : H p = none) : Stp Emp H (upd H p o) := fun b u e _ => by rw [upd_ne (ne_of_none e h)]; exact e
theorem keep_new {p : Addr} {o : HO} (h : H p = none) : Keep H (upd H p o) := ⟨fun b vs e => stp_new h b _ e (fun z => z), fun b o' u e => stp_new h b _ e (fun z => z)⟩
theorem RDs.ofC {ds : List D} {vs : List V} (r : RDs T H ds vs) : RCs T H (ds.map C.val) vs [] := by
  induction ds generalizing vs with
  | nil => cases r; exact .nil
  | cons d ds ih => cases r with | cons h r => exact .cons (F := []) (.val h) (ih r)
theorem R2N.sc (q : R2N T H Q (.val d)) {v : V} (r : RD T H d v) : Q v H := q v H [] (.val r) Stp.refl Keep.refl .nil fun _ m => nomatch m
theorem R2N.lst {ds : List D} {vs : List V} (q : R2N T H Q (.lst (ds.map .val))) (r : RDs T H ds vs) (p : Addr) (hp : H p = none) : Q (.ref p) (upd H p (.lst vs)) :=
  q (.ref p) _ [p] (.lst upd_same (r.keep (keep_new hp)).ofC) (stp_new hp) (keep_new hp) (by simp) fun a m => by rw [List.mem_singleton.mp m]; exact hp
theorem R2N.tup {ds : List D} {vs : List V} (q : R2N T H Q (.val (.tup ds))) (r : RDs T H ds vs) (p : Addr) (hp : H p = none) : Q (.ref p) (upd H p (.tup vs)) :=
  q (.ref p) _ [] (.val (.tup (.inl (.inl upd_same)) (r.keep (keep_new hp)))) (stp_new hp) (keep_new hp) .nil fun _ m => nomatch m
theorem RDs.length {ds : List D} {vs : List V} (r : RDs T H ds vs) : ds.length = vs.length := by
  induction ds generalizing vs with
  | nil => cases r; rfl
  | cons d ds ih => cases r with | cons h r => simp [ih r]
theorem RDs.append {ds es : List D} {vs ws : List V} (r : RDs T H ds vs) (s : RDs T H es ws) : RDs T H (ds ++ es) (vs ++ ws) := by
  induction ds generalizing vs with
  | nil => cases r; exact s
  | cons d ds ih => cases r with | cons h r => exact .cons h (ih r)
theorem RDs.get {ds : List D} {vs : List V} (r : RDs T H ds vs) {i : Nat} {d : D} (h : ds[i]? = some d) : ∃ v, vs[i]? = some v ∧ RD T H d v := by
  induction ds generalizing vs i with
  | nil => simp at h
  | cons d' ds ih =>
    cases r with
    | cons h' r =>
      cases i with
      | zero => simp at h; subst h; exact ⟨_, rfl, h'⟩
      | succ i => simp at h ⊢; exact ih r h
theorem RDs.drop {ds : List D} {vs : List V} (r : RDs T H ds vs) (n : Nat) : RDs T H (ds.drop n) (vs.drop n) := by
  induction n generalizing ds vs with
  | zero => exact r
  | succ n ih => cases r with
    | nil => exact .nil
    | cons h r => exact ih r
theorem RDs.take {ds : List D} {vs : List V} (r : RDs T H ds vs) (n : Nat) : RDs T H (ds.take n) (vs.take n) := by
  induction n generalizing ds vs with
  | zero => exact .nil
  | succ n ih => cases r with
    | nil => exact .nil
    | cons h r => exact .cons h (ih r)
theorem RDs.rev {ds : List D} {vs : List V} (r : RDs T H ds vs) : RDs T H ds.reverse vs.reverse := by
  induction ds generalizing vs with
  | nil => cases r; exact .nil
  | cons d ds ih => cases r with | cons h r => rw [List.reverse_cons, List.reverse_cons]; exact (ih r).append (.cons h .nil)
theorem RDs.rep {ds : List D} {vs : List V} (r : RDs T H ds vs) (n : Nat) : RDs T H (Mi.rep ds n) (List.replicate n vs).flatten := by
  induction n with
  | zero => exact .nil
  | succ n ih => rw [List.replicate_succ, List.flatten_cons]; exact r.append ih
theorem allVal_rd {cs : List C} {vs : List V} {F : List Addr} {ds : List D} (r : RCs T H cs vs F) (h : Mi.allVal cs = some ds) : RDs T H ds vs ∧ F = [] := by
  induction cs generalizing vs F ds with
  | nil => cases r; simp [Mi.allVal] at h; subst h; exact ⟨.nil, rfl⟩
  | cons c cs ih =>
    cases r with
    | cons hc r =>
      cases c with
      | val d =>
        simp only [Mi.allVal, Option.map_eq_some_iff] at h
        obtain ⟨es, e, rfl⟩ := h
        obtain ⟨r', e'⟩ := ih r e
        subst e'
        cases hc with | val hd => exact ⟨.cons hd r', rfl⟩
      | lst _ => simp [Mi.allVal] at h
      | tup _ => simp [Mi.allVal] at h
      | dct _ _ => simp [Mi.allVal] at h
      | obj _ _ _ => simp [Mi.allVal] at h
theorem asL_sq {c : C} {v : V} {F : List Addr} {ds : List D} (r : RC T H c v F) (h : c.asL = some ds) : ∃ a vs, v = .ref a ∧ SqL T.K H a vs ∧ RDs T H ds vs := by
  cases r with
  | val hd =>
    cases hd <;> simp [Mi.C.asL] at h
    case lst hf hr => subst h; exact ⟨_, _, rfl, hf.sq, hr⟩
  | lst hh rr =>
    obtain ⟨r', _⟩ := allVal_rd rr h
    exact ⟨_, _, rfl, .inl (.inl hh), r'⟩
  | tup _ _ => simp [Mi.C.asL] at h
  | dct _ _ _ => simp [Mi.C.asL] at h
  | obj _ _ _ _ _ => simp [Mi.C.asL] at h
theorem asT_sq {c : C} {v : V} {F : List Addr} {ds : List D} (r : RC T H c v F) (h : c.asT = some ds) : ∃ a vs, v = .ref a ∧ SqT T.K H a vs ∧ RDs T H ds vs := by
  cases r with
  | val hd =>
    cases hd <;> simp [Mi.C.asT] at h
    case tup hf hr => subst h; exact ⟨_, _, rfl, hf, hr⟩
  | tup hh rr =>
    obtain ⟨r', _⟩ := allVal_rd rr h
    exact ⟨_, _, rfl, hh, r'⟩
  | lst _ _ => simp [Mi.C.asT] at h
  | dct _ _ _ => simp [Mi.C.asT] at h
  | obj _ _ _ _ _ => simp [Mi.C.asT] at h
theorem rcInt {i : Int} {v : V} {F : List Addr} (r : RC T H (.val (.int i)) v F) : v = .int i := by cases r with | val h => cases h; rfl
theorem rcStr {s : List Nat} {v : V} {F : List Addr} (r : RC T H (.val (.str s)) v F) : v = strV s ∧ okS s = true := by cases r with | val h => cases h with | str _ h => exact ⟨rfl, h⟩
theorem rcBl {b : Bool} {v : V} {F : List Addr} (r : RC T H (.val (.bl b)) v F) : v = .bl b := by cases r with | val h => cases h; rfl
theorem rcNon {v : V} {F : List Addr} (r : RC T H (.val .non) v F) : v = .non := by cases r with | val h => cases h; rfl
theorem lineEq : Mi.line = sizeLine := by rw [sizeLine_eq]
theorem okS_app {s t : List Nat} (h : okS s = true) (h' : okS t = true) : okS (s ++ t) = true := by unfold okS at *; rw [List.all_append, h, h']; rfl
theorem strV_app (s t : List Nat) : (⟨s.toArray⟩ : Str) ++ (⟨t.toArray⟩ : Str) = ⟨(s ++ t).toArray⟩ := TL.ext_tl (by rw [TL.tl_append])
theorem len_mk (s : List Nat) : (⟨s.toArray⟩ : Str).length = s.length := by simp [Str.length]
end

/-! ### binary operators -/
section
variable {X : Cx}
def rCatF (K : PySem.W.Frag) : R2 := fun x y H Q => ∃ l b xs zs, x = .ref l ∧ y = .ref b ∧ SqL K H l xs ∧ SqL K H b zs ∧ xs.length + zs.length ≤ sizeLine ∧ ∀ p, H p = none → Q (.ref p) (upd H p (.lst (xs ++ zs)))
theorem op_catF : OpR X (binaryOp .Add) (rCatF X.K) := by
  intro pins s σ H x y v u Q I rx ry h
  obtain ⟨l, b, xs, zs, rfl, rfl, hH, hB, hz, q⟩ := h
  cases rx
  cases ry
  obtain ⟨its, r, ⟨o, n, e, c, d, t⟩, z⟩ := I.list hH
  obtain ⟨its2, r2, ⟨o2, n2, e2, c2, d2, t2⟩, z2⟩ := I.list hB
  obtain ⟨cls, dd, data, sl⟩ := o
  obtain ⟨cls2, dd2, data2, sl2⟩ := o2
  simp only at c d t c2 d2 t2
  subst c d t c2 d2 t2
  refine concat_meets ⟨_, e, rfl⟩ ⟨_, e2, rfl⟩ noFill_list_add seq_list_add PySem.F.slot_list_add PySem.F.entry_list_add (PySem.F.args_list_add_2 _ _) (list_addW l b its.toArray its2.toArray n n2 none none sl sl2 (by rw [List.size_toArray, List.size_toArray, ← r.length, ← r2.length]; exact hz)) ⟨e, e2, ?_⟩
  have ea : its.toArray ++ its2.toArray = (its ++ its2).toArray := by simp
  rw [ea]
  exact ⟨.ref _, _, Inv.lnew (t' := s.toks) I (r.append r2) (by rw [List.length_append]; omega), rfl, q _ I.fresh⟩
theorem list_mulW (l : Addr) (items : Array Value) (n : Nat) (x : Int) (u : Tok) (dd : Option Addr) (sl : Array (Option Value)) (hc0 : ¬(!Builtin.List.listFitsIndex x) = true) (hc1 : ¬items.size * x.toNat > (2 ^ 63 - 1) / 8) (hc2 : ¬Builtin.List.listTooLong (items.size * x.toNat) = true) :
    Meets (Builtin.«list.__mul__» ⟨[.ref l, .int x u], []⟩) (fun _ R s => s.heap.get? l = some { cls := .type "list", dict := dd, data := .seq items n, slots := sl } ∧ R (.ok (.ret (Value.ref s.heap.objs.size))) { s with heap := s.heap.push { cls := Value.type "list", data := Data.seq (List.foldl (fun x1 x2 => x1 ++ x2) #[] (List.replicate (if items.isEmpty = true then 0 else x.toNat) items)) }, toks := s.toks }) :=
  .of_wp fun prog w A R s h => by
    obtain ⟨hp, g, d, tk, os⟩ := s; obtain ⟨hl, h⟩ := h
    have hsz := AutoListH.joined_fits hc2
    wp_walk; refine wpAny_ite_false (decide_eq_false (Nat.not_lt.mpr hsz)) ?_; wp_walk; exact ⟨_, rfl, h⟩
theorem int_rmulW (a : Int) (t : Tok) (l : Addr) (items : Array Value) (n : Nat) (dd : Option Addr) (sl : Array (Option Value)) :
    Meets (Builtin.«int.__rmul__» ⟨[.int a t, .ref l], []⟩) (fun _ R s => s.heap.get? l = some { cls := .type "list", dict := dd, data := .seq items n, slots := sl } ∧ R (.ok (.ret Value.notImplemented)) s) :=
  .of_wp fun prog w A R s h => by obtain ⟨hp, g, d, tk, os⟩ := s; obtain ⟨hl, h⟩ := h; wp_walk; exact ⟨_, rfl, h⟩
def rRepF (K : PySem.W.Frag) : R2 := fun x y H Q => ∃ l k xs, x = .ref l ∧ y = .int k ∧ SqL K H l xs ∧ -(2 ^ 63) ≤ k ∧ k < 2 ^ 63 ∧ xs.length * k.toNat ≤ sizeLine ∧
  ∀ p, H p = none → Q (.ref p) (upd H p (.lst (List.replicate k.toNat xs).flatten))
theorem op_repF : OpR X (binaryOp .Mult) (rRepF X.K) := by
  intro pins s σ H x y v u Q I rx ry h
  obtain ⟨l, k, xs, rfl, rfl, hH, h1, h2, hz, q⟩ := h
  cases rx
  obtain ⟨t, rfl⟩ := ry
  obtain ⟨its, r, ⟨o, n, e, c, d, tt⟩, z⟩ := I.list hH
  obtain ⟨cls, dd, data, sl⟩ := o
  simp only at c d tt
  subst c d tt
  have hl := r.length
  have hlen : its.toArray.size * k.toNat ≤ sizeLine := by rw [List.size_toArray, ← hl]; exact hz
  have hcap : ¬ its.toArray.size * k.toNat > (2 ^ 63 - 1) / 8 := by
    have : (sizeLine : Nat) ≤ (2 ^ 63 - 1) / 8 := by decide
    omega
  have hfit : ¬ (!Builtin.List.listFitsIndex k) = true := by
    rw [fitsIndex_both h1 h2]
    exact Bool.false_ne_true
  have hlong : ¬ Builtin.List.listTooLong (its.toArray.size * k.toNat) = true := by
    rw [notLongL hlen]
    exact Bool.false_ne_true
  have hnew : List.foldl (fun x1 x2 => x1 ++ x2) #[] (List.replicate (if its.toArray.isEmpty = true then 0 else k.toNat) its.toArray) = (List.replicate k.toNat its).flatten.toArray := by
    have f0 : ∀ m : Nat, List.foldl (fun x1 x2 => x1 ++ x2) #[] (List.replicate m its.toArray) = (List.replicate m its).flatten.toArray := fun m => by
      have := foldl_rep its m []
      rw [List.nil_append] at this
      exact this
    rw [f0]
    cases its with
    | nil => simp
    | cons a r' => rw [if_neg (by simp)]
  refine wpAny_binaryOp_repeat_ref (T := "list") (U := "int") (by decide) ⟨_, e, rfl⟩ (fun s' => typeIs_int s' k t) noFill_list_mul F.fills_int_mul F.slot_int_rmul repeat_list F.slot_int_index.lookup
    (call_meets F.slot_int_rmul (typeIs_int s k t) F.entry_int_rmul (F.args_int_rmul_2 _ _) (int_rmulW k t l its.toArray n none sl)
      ⟨e, rfl, ⟨_, e, rfl⟩, call_meets F.slot_list_mul ⟨_, e, rfl⟩ F.entry_list_mul (F.args_list_mul_2 _ _) (list_mulW l its.toArray n k t none sl hfit hcap hlong) ⟨e, ?_⟩⟩)
  rw [hnew]
  exact ⟨.ref _, _, Inv.lnew (t' := s.toks) I (r.rep k.toNat) (by rw [PyProof.Rows.lm_len_rep_flat, Nat.mul_comm]; exact hz), rfl, q _ I.fresh⟩
theorem foldl_arr (x : List Nat) : ∀ (m : Nat) (acc : Array Nat), (List.replicate m x.toArray).foldl (· ++ ·) acc = acc ++ (Mi.rep x m).toArray
  | 0, acc => by simp [Mi.rep]
  | m + 1, acc => by rw [List.replicate_succ, List.foldl_cons, foldl_arr x m]; simp [Mi.rep]
def rRepS : R2 := fun x y H Q => ∃ (s : List Nat) (k : Int), x = strV s ∧ y = .int k ∧ -(2 ^ 62) < k ∧ k < 2 ^ 62 ∧ s.length * k.toNat ≤ sizeLine ∧ Q (strV (Mi.rep s k.toNat)) H
theorem op_repS : OpR X (binaryOp .Mult) rRepS := by
  intro pins s σ H x y v u Q I rx ry h
  obtain ⟨l, k, rfl, rfl, h1, h2, hz, q⟩ := h
  obtain ⟨t, rfl⟩ := rx
  obtain ⟨t', rfl⟩ := ry
  have hlen := len_mk l
  refine PySem.P.mul_str ?_ (fun h3 h4 => ?_) (fun h3 h4 => ?_) ?_
  · rw [decide_eq_false (by omega), decide_eq_false (by omega)]; rfl
  · rw [hlen]
    have hk : 0 < k := by omega
    have e : ((l.length * k.toNat : Nat) : Int) = (l.length : Int) * k := by rw [Int.natCast_mul, Int.toNat_of_nonneg (by omega)]
    have h5 : (l.length : Int) * k ≤ 2 ^ 63 - 1 := by
      rw [← e]
      have : (sizeLine : Nat) ≤ 2 ^ 63 - 1 := by decide
      omega
    exact Int.not_lt.mpr ((Int.le_ediv_iff_mul_le hk).mpr h5)
  · rw [hlen]
    unfold Builtin.Str.tooLong
    exact decide_eq_false (by omega)
  · by_cases h3 : k < 1
    · rw [if_pos h3]
      have : k.toNat = 0 := by omega
      rw [this] at q
      exact ⟨by decide, ⟨strV [], H, I.tok _, ⟨_, rfl⟩, q⟩⟩
    · rw [if_neg h3]
      by_cases h4 : (k == 1 || (⟨l.toArray⟩ : Str).length == 0) = true
      · rw [if_pos h4]
        have e : Mi.rep l k.toNat = l := by
          rcases (Bool.or_eq_true _ _).mp h4 with h5 | h5
          · have : k = 1 := by simpa using h5
            subst this
            show l ++ Mi.rep l 0 = l
            simp [Mi.rep]
          · have : l.length = 0 := by simpa [hlen] using h5
            have : l = [] := List.length_eq_zero_iff.mp this
            subst this
            generalize k.toNat = m
            induction m with
            | zero => rfl
            | succ m ih => simpa [Mi.rep] using ih
        rw [e] at q
        exact ⟨strV l, H, I, ⟨_, rfl⟩, q⟩
      · rw [if_neg h4]
        have e : (List.replicate k.toNat (⟨l.toArray⟩ : Str).cps).foldl (· ++ ·) #[] = (Mi.rep l k.toNat).toArray := by
          rw [foldl_arr]; simp
        rw [e]
        refine ⟨?_, ⟨strV (Mi.rep l k.toNat), H, I.tok _, ⟨_, rfl⟩, q⟩⟩
        have : ∀ m, (Mi.rep l m).length = l.length * m := fun m => by
          induction m with
          | zero => rfl
          | succ m ih => simp only [Mi.rep, List.length_append, ih, Nat.mul_succ]; omega
        rw [len_mk, this]
        exact hz
end
end MiS
namespace MiS
open PySem PySem.Spec PyProof.Rows L2
open Mi (D C ME MS)
def trB : Mi.Bop → Operator
  | .add => .Add | .sub => .Sub | .mul => .Mult | .fdiv => .FloorDiv | .mod => .Mod | .pow => .Pow
def trC : Mi.Cop → CmpOp
  | .eq => .Eq | .ne => .NotEq | .lt => .Lt | .le => .LtE | .gt => .Gt | .ge => .GtE | .is => .Is | .isnot => .IsNot | .isin => .In | .notin => .NotIn
def rB (T : Tb) (o : Mi.Bop) : R2 := fun x y H Q => ∃ cx cy Fx Fy z, RC T H cx x Fx ∧ RC T H cy y Fy ∧ Mi.binC o cx cy = some z ∧ R2N T H Q z
section
variable {X : Cx} {T : Tb}
theorem smallI_of {j : Int} (h : Mi.smallI j = true) : -(2 ^ 62) < j ∧ j < 2 ^ 62 := by
  have : j.natAbs ≤ 4611686018427387903 := Nat.le_of_ble_eq_true h
  omega
theorem posI_of {j : Int} (h : Mi.posI j = true) : 0 < j ∧ j < 1073741824 := by
  unfold Mi.posI at h
  rw [Bool.and_eq_true] at h
  have h1 := Nat.le_of_ble_eq_true h.1
  have h2 := Nat.le_of_ble_eq_true h.2
  omega
theorem mulOk_of {i j : Int} (h : Mi.mulOk i j = true) : IntMulOk i j := by
  unfold Mi.mulOk at h
  rw [Bool.or_eq_true, Bool.or_eq_true] at h
  have e : ∀ x, Mi.intBits x = Builtin.Int.intBits x := fun _ => rfl
  rcases h with (h | h) | h
  · exact .of_left (by rw [← e]; exact of_decide_eq_true h)
  · exact .of_right (by rw [← e]; exact of_decide_eq_true h)
  · have h := of_decide_eq_true h
    rw [e, e] at h
    unfold IntMulOk
    have : Builtin.Int.intTooBig (((Builtin.Int.intBits i : Nat) : Int) + ((Builtin.Int.intBits j : Nat) : Int)) = false := by
      unfold Builtin.Int.intTooBig bitsLine
      refine decide_eq_false ?_
      have : ((2 ^ 27 : Nat) : Int) = 134217728 := by decide
      omega
    intro z
    rw [Bool.and_eq_true] at z
    have z2 := z.2
    rw [this] at z2
    cases z2
theorem op_mulM : OpR X (binaryOp .Mult) (rI (fun i j => IntMulOk i j) fun i j => .int (i * j)) := opI fun _ _ _ _ _ _ _ hc q => mul_int q hc
theorem op_bin (hK : T.K = X.K) (o : Mi.Bop) : OpR X (binaryOp (trB o)) (rB T o) := by
  intro pins s σ H x y v u Q I rx ry h
  obtain ⟨cx, cy, Fx, Fy, z, hx, hy, hz, q⟩ := h
  unfold Mi.binC at hz
  split at hz
  · -- int + int
    cases hz; cases rcInt hx; cases rcInt hy
    exact op_add pins s σ H _ _ v u Q I rx ry ⟨_, _, rfl, rfl, q.sc (.int _)⟩
  · split at hz <;> cases hz
    rename_i hl
    obtain ⟨rfl, k1⟩ := rcStr hx; obtain ⟨rfl, k2⟩ := rcStr hy
    refine op_add_str pins s σ H _ _ v u Q I rx ry ⟨_, _, rfl, rfl, by rw [len_mk, len_mk, ← lineEq]; exact hl, ?_⟩
    rw [strV_app]
    exact q.sc (.str _ (okS_app k1 k2))
  · split at hz <;> cases hz
    rename_i hl
    obtain ⟨a, vs, rfl, sx, r1⟩ := asT_sq hx rfl
    obtain ⟨b, ws, rfl, sy, r2⟩ := asT_sq hy rfl
    rw [hK] at sx sy
    refine op_catA pins s σ H _ _ v u Q I rx ry ⟨a, b, vs, ws, rfl, rfl, sx, sy, by rw [← r1.length, ← r2.length, ← lineEq]; exact hl, fun e => ?_, fun _ e => ?_, fun _ _ => q.tup (r1.append r2)⟩
    · subst e
      cases r1
      refine q.sc (.tup (by rw [hK]; exact sy) r2)
    · subst e
      cases r2
      rw [List.append_nil] at q
      refine q.sc (.tup (by rw [hK]; exact sx) r1)
  · rename_i a b _ _ _
    cases ha : cx.asL with
    | none => rw [ha] at hz; cases hz
    | some ds =>
      cases hb : cy.asL with
      | none => rw [ha, hb] at hz; cases hz
      | some es =>
        rw [ha, hb] at hz
        simp only [Option.bind_some] at hz
        split at hz <;> cases hz
        rename_i hl
        obtain ⟨a, vs, rfl, sx, r1⟩ := asL_sq hx ha
        obtain ⟨b, ws, rfl, sy, r2⟩ := asL_sq hy hb
        rw [hK] at sx sy
        exact op_catF pins s σ H _ _ v u Q I rx ry ⟨a, b, vs, ws, rfl, rfl, sx, sy, by rw [← r1.length, ← r2.length, ← lineEq]; exact hl, q.lst (r1.append r2)⟩
  · cases hz; cases rcInt hx; cases rcInt hy
    exact op_sub pins s σ H _ _ v u Q I rx ry ⟨_, _, rfl, rfl, q.sc (.int _)⟩
  · split at hz <;> cases hz
    rename_i hm
    cases rcInt hx; cases rcInt hy
    exact op_mulM pins s σ H _ _ v u Q I rx ry ⟨_, _, rfl, rfl, mulOk_of hm, q.sc (.int _)⟩
  · split at hz <;> cases hz
    rename_i hm
    rw [Bool.and_eq_true, decide_eq_true_eq] at hm
    obtain ⟨rfl, k1⟩ := rcStr hx; cases rcInt hy
    have hs := smallI_of hm.1
    refine op_repS pins s σ H _ _ v u Q I rx ry ⟨_, _, rfl, rfl, by omega, by omega, by rw [← lineEq]; exact hm.2, q.sc (.str _ ?_)⟩
    have : ∀ (l : List Nat) m, okS l = true → okS (Mi.rep l m) = true := fun l m h => by
      induction m with
      | zero => rfl
      | succ m ih => exact okS_app h ih
    exact this _ _ k1
  · rename_i a j _ _
    cases ha : cx.asL with
    | none => rw [ha] at hz; cases hz
    | some ds =>
      rw [ha] at hz
      simp only [Option.bind_some] at hz
      split at hz <;> cases hz
      rename_i hm
      rw [Bool.and_eq_true, decide_eq_true_eq] at hm
      have hs := smallI_of hm.1
      obtain ⟨a, vs, rfl, sx, r1⟩ := asL_sq hx ha
      cases rcInt hy
      rw [hK] at sx
      exact op_repF pins s σ H _ _ v u Q I rx ry ⟨a, _, vs, rfl, rfl, sx, by omega, by omega, by rw [← r1.length, ← lineEq]; exact hm.2, q.lst (r1.rep _)⟩
  · split at hz <;> cases hz
    rename_i hm
    cases rcInt hx; cases rcInt hy
    exact op_fdiv pins s σ H _ _ v u Q I rx ry ⟨_, _, rfl, rfl, posI_of hm, q.sc (.int _)⟩
  · split at hz <;> cases hz
    rename_i hm
    cases rcInt hx; cases rcInt hy
    exact op_mod pins s σ H _ _ v u Q I rx ry ⟨_, _, rfl, rfl, hm, q.sc (.int _)⟩
  · split at hz <;> cases hz
    rename_i hm
    cases rcInt hx; cases rcInt hy
    refine op_pow pins s σ H _ _ v u Q I rx ry ⟨_, _, rfl, rfl, ⟨hm.1, by omega, ?_⟩, q.sc (.int _)⟩
    have := hm.2.2
    have : (1000 : Nat) < 2 ^ 64 := by decide
    omega
  · cases hz
end

/-! ### == -/
mutual
def toP : D → PyData
  | .non => .none
  | .bl b => .bool b
  | .int i => .int i
  | .str s => .str ⟨s.toArray⟩
  | .tup ds => .tuple (toPs ds)
  | .lst ds => .list (toPs ds)
  | .dct _ _ => .none
  | .obj _ _ _ => .none
  | .exc _ => .none
def toPs : List D → List PyData
  | [] => []
  | d :: ds => toP d :: toPs ds
end
mutual
theorem dp_of {T : Tb} {H : Hp} : ∀ (d : D) {v : V}, RD T H d v → d.plain = true → Dp T.K H v (toP d) ∧ (toP d).canLay0 = true
  | .non, _, .non, _ => ⟨.non, rfl⟩
  | .bl b, _, .bl _, _ => ⟨.bl b, rfl⟩
  | .int i, _, .int _, _ => ⟨.int i, rfl⟩
  | .str s, _, .str _ h, _ => ⟨.str _, by
      unfold toP PyData.canLay0 PyData.strOk
      unfold okS at h
      simpa using h⟩
  | .tup ds, _, .tup h r, p => by
    have q := dps_of ds r (by simpa [Mi.D.plain] using p)
    exact ⟨.tup h q.1, by unfold toP PyData.canLay0; exact q.2⟩
  | .lst ds, _, .lst h r, p => by
    have q := dps_of ds r (by simpa [Mi.D.plain] using p)
    exact ⟨.lst h.sq q.1, by unfold toP PyData.canLay0; exact q.2⟩
  | .dct _ _, _, _, p => by simp [Mi.D.plain] at p
  | .obj _ _ _, _, _, p => by simp [Mi.D.plain] at p
  | .exc _, _, _, p => by simp [Mi.D.plain] at p
theorem dps_of {T : Tb} {H : Hp} : ∀ (ds : List D) {vs : List V}, RDs T H ds vs → D.plains ds = true → DpAll T.K H vs (toPs ds) ∧ PyData.canLayAll0 (toPs ds) = true
  | [], _, .nil, _ => ⟨.nil, rfl⟩
  | d :: ds, _, .cons h r, p => by
    simp only [Mi.D.plains, Bool.and_eq_true] at p
    have a := dp_of d h p.1
    have b := dps_of ds r p.2
    exact ⟨.cons a.1 b.1, by simp only [toPs, PyData.canLayAll0, a.2, b.2, Bool.and_self]⟩
end
mutual
/-- .. with cells -/
theorem dpC_of {T : Tb} {H : Hp} : ∀ (c : C) {v : V} {F : List Addr}, RC T H c v F → c.frz.plain = true → Dp T.K H v (toP c.frz) ∧ (toP c.frz).canLay0 = true
  | .val d, _, _, .val h, p => dp_of d h p
  | .lst cs, _, _, .lst h r, p => by
    have q := dpCs_of cs r (by simpa [Mi.D.plain, Mi.C.frz] using p)
    exact ⟨.lst (.inl (.inl h)) q.1, by unfold Mi.C.frz toP PyData.canLay0; exact q.2⟩
  | .tup cs, _, _, .tup h r, p => by
    have q := dpCs_of cs r (by simpa [Mi.D.plain, Mi.C.frz] using p)
    exact ⟨.tup h q.1, by unfold Mi.C.frz toP PyData.canLay0; exact q.2⟩
  | .dct _ _, _, _, _, p => by simp [Mi.C.frz, Mi.D.plain] at p
  | .obj _ _ _, _, _, _, p => by simp [Mi.C.frz, Mi.D.plain] at p
theorem dpCs_of {T : Tb} {H : Hp} : ∀ (cs : List C) {vs : List V} {F : List Addr}, RCs T H cs vs F → D.plains (Mi.C.frzs cs) = true → DpAll T.K H vs (toPs (Mi.C.frzs cs)) ∧ PyData.canLayAll0 (toPs (Mi.C.frzs cs)) = true
  | [], _, _, .nil, _ => ⟨.nil, rfl⟩
  | c :: cs, _, _, .cons h r, p => by
    simp only [Mi.C.frzs, Mi.D.plains, Bool.and_eq_true] at p
    have a := dpC_of c h p.1
    have b := dpCs_of cs r p.2
    exact ⟨.cons a.1 b.1, by simp only [Mi.C.frzs, toPs, PyData.canLayAll0, a.2, b.2, Bool.and_self]⟩
end
theorem str_beq (a b : List Nat) : ((⟨a.toArray⟩ : Str) == ⟨b.toArray⟩) = (a == b) := by
  by_cases h : a = b
  · subst h; simp
  · have : (⟨a.toArray⟩ : Str) ≠ ⟨b.toArray⟩ := fun e => h (by injection e with e; simpa using e)
    rw [beq_eq_false_iff_ne.mpr this, beq_eq_false_iff_ne.mpr h]
mutual
theorem eqv_of : ∀ (a b : D), a.plain = true → b.plain = true → PyData.eqv (toP a) (toP b) = Mi.pyEq a b
  | .tup as, .tup bs, p, q => by unfold toP PyData.eqv Mi.pyEq; exact eqvs_of as bs (by simpa [Mi.D.plain] using p) (by simpa [Mi.D.plain] using q)
  | .lst as, .lst bs, p, q => by unfold toP PyData.eqv Mi.pyEq; exact eqvs_of as bs (by simpa [Mi.D.plain] using p) (by simpa [Mi.D.plain] using q)
  | .str a, .str b, _, _ => by unfold toP PyData.eqv Mi.pyEq; exact str_beq a b
  | .non, b, _, q => by cases b <;> first | (simp [Mi.D.plain] at q; done) | (simp [toP, PyData.eqv, Mi.pyEq])
  | .bl x, b, _, q => by cases b <;> first | (simp [Mi.D.plain] at q; done) | (simp [toP, PyData.eqv, Mi.pyEq])
  | .int x, b, _, q => by cases b <;> first | (simp [Mi.D.plain] at q; done) | (simp [toP, PyData.eqv, Mi.pyEq])
  | .str x, .non, _, _ | .str x, .bl _, _, _ | .str x, .int _, _, _ | .str x, .tup _, _, _ | .str x, .lst _, _, _ => by simp [toP, PyData.eqv, Mi.pyEq]
  | .tup x, .non, _, _ | .tup x, .bl _, _, _ | .tup x, .int _, _, _ | .tup x, .str _, _, _ | .tup x, .lst _, _, _ => by simp [toP, PyData.eqv, Mi.pyEq]
  | .lst x, .non, _, _ | .lst x, .bl _, _, _ | .lst x, .int _, _, _ | .lst x, .str _, _, _ | .lst x, .tup _, _, _ => by simp [toP, PyData.eqv, Mi.pyEq]
  | .str _, .dct _ _, _, q | .tup _, .dct _ _, _, q | .lst _, .dct _ _, _, q => by simp [Mi.D.plain] at q
  | .str _, .obj _ _ _, _, q | .tup _, .obj _ _ _, _, q | .lst _, .obj _ _ _, _, q => by simp [Mi.D.plain] at q
  | .str _, .exc _, _, q | .tup _, .exc _, _, q | .lst _, .exc _, _, q => by simp [Mi.D.plain] at q
  | .dct _ _, _, p, _ | .obj _ _ _, _, p, _ | .exc _, _, p, _ => by simp [Mi.D.plain] at p
theorem eqvs_of : ∀ (as bs : List D), D.plains as = true → D.plains bs = true → PyData.eqvAll (toPs as) (toPs bs) = Mi.pyEqs as bs
  | [], [], _, _ => rfl
  | a :: as, b :: bs, p, q => by
    simp only [Mi.D.plains, Bool.and_eq_true] at p q
    unfold toPs PyData.eqvAll Mi.pyEqs
    rw [eqv_of a b p.1 q.1, eqvs_of as bs p.2 q.2]
  | [], _ :: _, _, _ => rfl
  | _ :: _, [], _, _ => rfl
end
mutual
theorem dep_of : ∀ d : D, d.plain = true → (toP d).depth = d.dep
  | .tup ds, p => by simp only [toP, PyData.depth, Mi.D.dep]; rw [deps_of ds (by simpa [Mi.D.plain] using p)]
  | .lst ds, p => by simp only [toP, PyData.depth, Mi.D.dep]; rw [deps_of ds (by simpa [Mi.D.plain] using p)]
  | .non, _ => rfl
  | .bl _, _ => rfl
  | .int _, _ => rfl
  | .str _, _ => rfl
  | .dct _ _, p | .obj _ _ _, p | .exc _, p => by simp [Mi.D.plain] at p
theorem deps_of : ∀ ds : List D, D.plains ds = true → PyData.depthAll (toPs ds) = D.deps ds
  | [], _ => rfl
  | d :: ds, p => by
    simp only [Mi.D.plains, Bool.and_eq_true] at p
    simp only [toPs, PyData.depthAll, Mi.D.deps]
    rw [dep_of d p.1, deps_of ds p.2]
end

/-! ### comparisons -/
def rCmp (T : Tb) (o : Mi.Cop) : R2 := fun x y H Q => ∃ cx cy Fx Fy r, RC T H cx x Fx ∧ RC T H cy y Fy ∧ Mi.cmpC o cx cy = some r ∧ Q (.bl r) H
theorem eqOk_of {a b : D} (h : Mi.eqOk a b = true) : a.plain = true ∧ b.plain = true ∧ min a.dep b.dep ≤ 60 := by
  unfold Mi.eqOk at h
  rw [Bool.and_eq_true, Bool.and_eq_true, decide_eq_true_eq] at h
  exact ⟨h.1.1, h.1.2, h.2⟩
theorem toPs_any (d : D) : ∀ ds : List D, D.plains ds = true → d.plain = true → ((toPs ds).any fun y => PyData.eqv y (toP d)) = ds.any fun y => Mi.pyEq y d
  | [], _, _ => rfl
  | e :: ds, p, q => by
    simp only [Mi.D.plains, Bool.and_eq_true] at p
    simp only [toPs, List.any_cons, eqv_of e d p.1 q, toPs_any d ds p.2 q]
theorem isRef_other {M : Model} {A : Around} {E : Value → Shared → Prop} {s : Shared} {Q : Value → Shared → Prop} {v : Value} {b : Bool} (hv : plainIs v (.bool b) = true) (hne : v ≠ .bool b) (h : Q (.bool false) s) : wpAny M A (compareOp .Is v (.bool b)) Q E s := wpAny_is_other hv hne h
theorem keysD_of {ks : List D} {vs : List V} {kvs : List (Key × V)} (h : keysD ks vs = some kvs) : ks.length = vs.length ∧ kvs.map (·.2) = vs ∧ ks.map keyD = kvs.map fun p => some p.1 := by
  induction ks generalizing vs kvs with
  | nil =>
    cases vs with
    | nil => simp [keysD] at h; subst h; simp
    | cons _ _ => simp [keysD] at h
  | cons k ks ih =>
    cases vs with
    | nil => simp [keysD] at h
    | cons v vs =>
      unfold keysD at h
      split at h
      · rename_i q r e1 e2
        cases h
        obtain ⟨a, b, c⟩ := ih e2
        simp [a, b, c, e1]
      · cases h
theorem isC_of {T : Tb} {H : Hp} {c : C} {d : D} {x y : V} {F : List Addr} {r : Bool} (hx : RC T H c x F) (hy : RD T H d y) (h : Mi.isC c d = some r) :
    (y = .non ∧ r = decide (x = .non)) ∨ ∃ b, y = .bl b ∧ ((∃ a, x = .bl a ∧ r = (a == b)) ∨ ((∀ a, x ≠ .bl a) ∧ r = false)) := by
  cases hx with
  | val hd =>
    cases hy <;> cases hd <;> simp [Mi.isC, Mi.isD] at h <;> subst h <;> simp [strV]
  | lst _ _ => cases hy <;> simp [Mi.isC] at h <;> subst h <;> simp
  | tup _ _ => cases hy <;> simp [Mi.isC] at h <;> subst h <;> simp
  | dct _ _ _ => cases hy <;> simp [Mi.isC] at h
  | obj _ _ _ _ _ => cases hy <;> simp [Mi.isC] at h <;> subst h <;> simp
section
variable {X : Cx} {T : Tb}
theorem plain_bl {x : V} {v : Value} {b : Bool} (r : RelV x v) (n : ∀ a, x ≠ .bl a) : plainIs v (.bool b) = true ∧ v ≠ .bool b := by
  cases x with
  | non => cases r; exact ⟨rfl, by simp⟩
  | bl a => exact absurd rfl (n a)
  | int i => obtain ⟨t, rfl⟩ := r; exact ⟨rfl, by simp⟩
  | str i => obtain ⟨t, rfl⟩ := r; exact ⟨rfl, by simp⟩
  | byt i => obtain ⟨t, rfl⟩ := r; exact ⟨rfl, by simp⟩
  | flt i => obtain ⟨t, rfl⟩ := r; exact ⟨rfl, by simp⟩
  | ref a => cases r; exact ⟨rfl, by simp⟩
  | ty n => cases r; exact ⟨rfl, by simp⟩
/-- what stands in a thing, by ==, by signs, by keys -/
theorem inC_of (hK : T.K = X.K) (hu : X.A.units + 64 < cLine) {pins : List (Addr × Obj)} {s : Shared} {σ : L2.St} {H : Hp} {x y : V} {v u : Value} {cx cy : C} {Fx Fy : List Addr} {r : Bool} (I : Inv X pins σ H s) (rx : RelV x v) (ry : RelV y u)
    (hx : RC T H cx x Fx) (hy : RC T H cy y Fy) (h : Mi.inC cx cy = some r) :
    (∀ (Q : Value → Shared → Prop) E, (∀ s', Inv X pins σ H s' → Q (.bool r) s') → wpAny (model X.prog X.w) X.A (compareOp .In v u) Q E s) ∧
    (∀ (Q : Value → Shared → Prop) E, (∀ s', Inv X pins σ H s' → Q (.bool (!r)) s') → wpAny (model X.prog X.w) X.A (compareOp .NotIn v u) Q E s) := by
  have seq : ∀ (ds : List D) (w : PyData), (∃ as, Reads s.heap u w as) → (w = .list (toPs ds) ∨ w = .tuple (toPs ds)) → PyData.canLayAll0 (toPs ds) = true → Mi.eqOk cx.frz (.lst ds) = true → r = (ds.any fun d => Mi.pyEq d cx.frz) →
      (∀ (Q : Value → Shared → Prop) E, (∀ s', Inv X pins σ H s' → Q (.bool r) s') → wpAny (model X.prog X.w) X.A (compareOp .In v u) Q E s) ∧
      (∀ (Q : Value → Shared → Prop) E, (∀ s', Inv X pins σ H s' → Q (.bool (!r)) s') → wpAny (model X.prog X.w) X.A (compareOp .NotIn v u) Q E s) := by
    intro ds w hr hw hl he er
    obtain ⟨p1, p2, p3⟩ := eqOk_of he
    have p2' : D.plains ds = true := by simpa [Mi.D.plain] using p2
    obtain ⟨d1, l1⟩ := dpC_of cx hx p1
    rw [hK] at d1
    obtain ⟨as, r1⟩ := Dp.reads I _ x v d1 rx
    obtain ⟨bs, r2⟩ := hr
    have room : X.A.units + 1 + min (PyData.depthAll (toPs ds)) (toP cx.frz).depth < cLine := by
      rw [dep_of _ p1, deps_of _ p2']
      have : min (cx.frz).dep (D.deps ds + 1) ≤ 60 := p3
      omega
    have ea : ((toPs ds).any fun y => PyData.eqv y (toP cx.frz)) = r := by rw [toPs_any _ ds p2' p1, er]
    rcases hw with rfl | rfl
    · exact ⟨fun Q E q => SeqAt.in_list_reads r2 r1 hl l1 room (by rw [ea]; exact q s I), fun Q E q => SeqAt.notIn_list_reads r2 r1 hl l1 room (by rw [ea]; exact q s I)⟩
    · exact ⟨fun Q E q => SeqAt.in_tuple_reads r2 r1 hl l1 room (by rw [ea]; exact q s I), fun Q E q => SeqAt.notIn_tuple_reads r2 r1 hl l1 room (by rw [ea]; exact q s I)⟩
  unfold Mi.inC at h
  split at h
  · -- a text
    split at h
    · rename_i t _ c
      cases h
      obtain ⟨rfl, _⟩ := rcStr hx
      obtain ⟨rfl, _⟩ := rcStr hy
      obtain ⟨t1, rfl⟩ := rx
      obtain ⟨t2, rfl⟩ := ry
      have e : (!(Builtin.Str.occurrences (⟨t.toArray⟩ : Str) ⟨[c].toArray⟩ 0 (⟨t.toArray⟩ : Str).length 1).isEmpty) = t.contains c := by
        refine (PySem.StrLaws.found_one (⟨t.toArray⟩ : Str) c).trans ?_
        simp
      exact ⟨fun Q E q => PyProof.Rows.in_str (by rw [e]; exact q s I), fun Q E q => PyProof.Rows.notIn_str (by rw [e]; exact q s I)⟩
    · cases h
  · split at h <;> cases h
    rename_i ds he
    obtain ⟨_, p2, _⟩ := eqOk_of he
    obtain ⟨d2, l2⟩ := dpC_of (.val (.lst ds)) hy p2
    rw [hK] at d2
    exact seq ds _ (Dp.reads I _ y u d2 ry) (.inl rfl) (by simpa [toP, Mi.C.frz, PyData.canLay0] using l2) he rfl
  · split at h <;> cases h
    rename_i ds he
    obtain ⟨_, p2, _⟩ := eqOk_of he
    obtain ⟨d2, l2⟩ := dpC_of (.val (.tup ds)) hy (by simpa [Mi.D.plain, Mi.C.frz] using p2)
    rw [hK] at d2
    exact seq ds _ (Dp.reads I _ y u d2 ry) (.inr rfl) (by simpa [toP, Mi.C.frz, PyData.canLay0] using l2) he rfl
  · split at h <;> cases h
    rename_i cs he
    obtain ⟨_, p2, _⟩ := eqOk_of he
    obtain ⟨d2, l2⟩ := dpC_of (.lst cs) hy (by simpa [Mi.D.plain, Mi.C.frz] using p2)
    rw [hK] at d2
    exact seq (Mi.C.frzs cs) _ (Dp.reads I _ y u d2 ry) (.inl rfl) (by simpa [toP, Mi.C.frz, PyData.canLay0] using l2) he rfl
  · -- a dict
    have key : ∀ (d : D) (v' : V), Mi.keyIn false d = true → RD T H d v' → ∃ k, keyD d = some k ∧ v' = kV k := by
      intro d v' hk hd
      cases hd <;> simp [Mi.keyIn] at hk
      case int i => exact ⟨.inl i, rfl, rfl⟩
      case str s _ => exact ⟨.inr ⟨s.toArray⟩, rfl, rfl⟩
    have any_of : ∀ (ks : List D) (vs : List V) (kvs : List (Key × V)) (d : D) (k : Key), keysD ks vs = some kvs → keyD d = some k → ks.all (Mi.keyIn false) = true → Mi.keyIn false d = true → (valV kvs k).isSome = ks.any fun e => Mi.pyEq e d := by
      intro ks
      induction ks with
      | nil =>
        intro vs kvs d k h1 h2 _ _
        cases vs with
        | nil => simp [keysD] at h1; subst h1; rfl
        | cons _ _ => simp [keysD] at h1
      | cons e ks ih =>
        intro vs kvs d k h1 h2 h3 h4
        cases vs with
        | nil => simp [keysD] at h1
        | cons w vs =>
          unfold keysD at h1
          split at h1
          · rename_i q r' e1 e2
            cases h1
            rw [List.all_cons, Bool.and_eq_true] at h3
            have ih' := ih vs r' d k e2 h2 h3.2 h4
            rw [List.any_cons, ← ih']
            have kq : Mi.pyEq e d = decide (q = k) := by
              cases e <;> simp [Mi.keyIn] at h3 <;> cases d <;> simp [Mi.keyIn] at h4 <;> simp only [keyD, Option.some.injEq] at e1 h2 <;> subst e1 h2 <;> simp [Mi.pyEq]
              · exact Bool.beq_eq_decide_eq _ _
              · rename_i a b
                by_cases z : a = b
                · subst z; simp
                · have : (⟨a.toArray⟩ : Str) ≠ ⟨b.toArray⟩ := fun w => z (by injection w with w; simpa using w)
                  simp [z, this]
            rw [kq]
            unfold valV
            simp only [List.find?_cons]
            by_cases z : q = k
            · subst z; simp
            · have : (decide (q = k)) = false := decide_eq_false z
              simp [this]
          · cases h1
    have fin : ∀ (ks : List D) (vs : List V) (a : Addr) (kvs : List (Key × V)), y = .ref a → Rd H a (.dK kvs) → keysD ks vs = some kvs → Mi.keysOf cy = some ks →
        (∀ (Q : Value → Shared → Prop) E, (∀ s', Inv X pins σ H s' → Q (.bool r) s') → wpAny (model X.prog X.w) X.A (compareOp .In v u) Q E s) ∧
        (∀ (Q : Value → Shared → Prop) E, (∀ s', Inv X pins σ H s' → Q (.bool (!r)) s') → wpAny (model X.prog X.w) X.A (compareOp .NotIn v u) Q E s) := by
      intro ks vs a kvs ey hr hk hko
      rw [hko, Option.bind_some] at h
      split at h <;> cases h
      rename_i hc
      rw [Bool.and_eq_true] at hc
      subst ey
      cases (show u = Value.ref a from ry)
      have hcx : ∃ d, cx = .val d ∧ RD T H d x := by
        cases hx with
        | val hd => exact ⟨_, rfl, hd⟩
        | lst _ _ => simp [Mi.C.frz, Mi.keyIn] at hc
        | tup _ _ => simp [Mi.C.frz, Mi.keyIn] at hc
        | dct _ _ _ => simp [Mi.C.frz, Mi.keyIn] at hc
        | obj _ _ _ _ _ => simp [Mi.C.frz, Mi.keyIn] at hc
      obtain ⟨d, rfl, hd⟩ := hcx
      obtain ⟨k, kd, rfl⟩ := key d x hc.1 hd
      have g : DGet H a (kV k) (valV kvs k) := .inl ⟨kvs, k, hr, rfl, rfl⟩
      have e := any_of ks vs kvs d k hk kd hc.2 hc.1
      exact ⟨fun Q E q => d_in (by omega) I g rx fun s' I' => by rw [e]; exact q s' I', fun Q E q => d_notIn (by omega) I g rx fun s' I' => by rw [e]; exact q s' I'⟩
    cases hy with
    | val hd =>
      cases hd with
      | dct hh hk _ => exact fin _ _ _ _ rfl (.inr ⟨_, hh⟩) hk rfl
      | _ => simp [Mi.keysOf] at h
    | dct hh hk _ => exact fin _ _ _ _ rfl (.inl hh) hk rfl
    | lst _ _ => simp [Mi.keysOf] at h
    | tup _ _ => simp [Mi.keysOf] at h
    | obj _ _ _ _ _ => simp [Mi.keysOf] at h
theorem ord_of {f : Int → Int → Bool} {cx cy : C} {r : Bool} (h : (match cx, cy with | .val (.int i), .val (.int j) => some (f i j) | _, _ => none) = some r) : ∃ i j, cx = .val (.int i) ∧ cy = .val (.int j) ∧ r = f i j := by
  split at h
  · cases h; exact ⟨_, _, rfl, rfl, rfl⟩
  · cases h
theorem op_cmp (hK : T.K = X.K) (hu : X.A.units + 64 < cLine) (o : Mi.Cop) : OpR X (compareOp (trC o)) (rCmp T o) := by
  intro pins s σ H x y v u Q I rx ry h
  obtain ⟨cx, cy, Fx, Fy, r, hx, hy, hz, q⟩ := h
  cases o with
  | eq =>
    simp only [Mi.cmpC] at hz
    split at hz <;> cases hz
    rename_i he
    obtain ⟨p1, p2, p3⟩ := eqOk_of he
    obtain ⟨d1, l1⟩ := dpC_of cx hx p1
    obtain ⟨d2, l2⟩ := dpC_of cy hy p2
    rw [hK] at d1 d2
    obtain ⟨as, r1⟩ := Dp.reads I _ x v d1 rx
    obtain ⟨bs, r2⟩ := Dp.reads I _ y u d2 ry
    refine SeqAt.compareEq_reads r1 r2 l1 l2 (by rw [dep_of _ p1, dep_of _ p2]; omega) ?_
    rw [eqv_of _ _ p1 p2]
    exact ⟨.bl _, H, I, rfl, q⟩
  | ne =>
    simp only [Mi.cmpC] at hz
    split at hz <;> cases hz
    rename_i he
    obtain ⟨p1, p2, p3⟩ := eqOk_of he
    obtain ⟨d1, l1⟩ := dpC_of cx hx p1
    obtain ⟨d2, l2⟩ := dpC_of cy hy p2
    rw [hK] at d1 d2
    obtain ⟨as, r1⟩ := Dp.reads I _ x v d1 rx
    obtain ⟨bs, r2⟩ := Dp.reads I _ y u d2 ry
    refine SeqAt.compareNe_reads r1 r2 l1 l2 (by rw [dep_of _ p1, dep_of _ p2]; omega) ?_
    rw [eqv_of _ _ p1 p2]
    exact ⟨.bl _, H, I, rfl, q⟩
  | lt =>
    obtain ⟨i, j, rfl, rfl, rfl⟩ := ord_of (f := fun i j => decide (i < j)) hz
    cases rcInt hx; cases rcInt hy
    exact op_lt pins s σ H _ _ v u Q I rx ry ⟨_, _, rfl, rfl, q⟩
  | le =>
    obtain ⟨i, j, rfl, rfl, rfl⟩ := ord_of (f := fun i j => decide (i ≤ j)) hz
    cases rcInt hx; cases rcInt hy
    exact op_le pins s σ H _ _ v u Q I rx ry ⟨_, _, rfl, rfl, q⟩
  | gt =>
    obtain ⟨i, j, rfl, rfl, rfl⟩ := ord_of (f := fun i j => decide (j < i)) hz
    cases rcInt hx; cases rcInt hy
    exact op_gt pins s σ H _ _ v u Q I rx ry ⟨_, _, rfl, rfl, q⟩
  | ge =>
    obtain ⟨i, j, rfl, rfl, rfl⟩ := ord_of (f := fun i j => decide (j ≤ i)) hz
    cases rcInt hx; cases rcInt hy
    exact op_ge pins s σ H _ _ v u Q I rx ry ⟨_, _, rfl, rfl, q⟩
  | is =>
    cases hy with
    | val hd =>
      rcases isC_of hx hd hz with ⟨rfl, rfl⟩ | ⟨b, rfl, ⟨a, rfl, rfl⟩ | ⟨n, rfl⟩⟩
      · exact op_isN pins s σ H _ _ v u Q I rx ry ⟨rfl, q⟩
      · exact op_isBl pins s σ H _ _ v u Q I rx ry ⟨_, _, rfl, rfl, by rw [← Bool.beq_eq_decide_eq]; exact q⟩
      · cases (show u = Value.bool b from ry)
        obtain ⟨z1, z2⟩ := plain_bl (b := b) rx n
        exact wpAny_is_other z1 z2 ⟨.bl false, H, I, rfl, q⟩
    | lst _ _ => simp [Mi.cmpC] at hz
    | tup _ _ => simp [Mi.cmpC] at hz
    | dct _ _ _ => simp [Mi.cmpC] at hz
    | obj _ _ _ _ _ => simp [Mi.cmpC] at hz
  | isnot =>
    cases hy with
    | val hd =>
      simp only [Mi.cmpC, Option.map_eq_some_iff] at hz
      obtain ⟨r', hz, rfl⟩ := hz
      rcases isC_of hx hd hz with ⟨rfl, rfl⟩ | ⟨b, rfl, ⟨a, rfl, rfl⟩ | ⟨n, rfl⟩⟩
      · exact op_notN pins s σ H _ _ v u Q I rx ry ⟨rfl, q⟩
      · exact op_notBl pins s σ H _ _ v u Q I rx ry ⟨_, _, rfl, rfl, by rw [← Bool.beq_eq_decide_eq]; exact q⟩
      · cases (show u = Value.bool b from ry)
        obtain ⟨z1, z2⟩ := plain_bl (b := b) rx n
        exact wpAny_isNot_other z1 z2 ⟨.bl true, H, I, rfl, q⟩
    | lst _ _ => simp [Mi.cmpC] at hz
    | tup _ _ => simp [Mi.cmpC] at hz
    | dct _ _ _ => simp [Mi.cmpC] at hz
    | obj _ _ _ _ _ => simp [Mi.cmpC] at hz
  | isin => exact (inC_of hK hu I rx ry hx hy hz).1 _ _ fun s' I' => ⟨.bl r, H, I', rfl, q⟩
  | notin =>
    simp only [Mi.cmpC, Option.map_eq_some_iff] at hz
    obtain ⟨r', hz, rfl⟩ := hz
    exact (inC_of hK hu I rx ry hx hy hz).2 _ _ fun s' I' => ⟨.bl (!r'), H, I', rfl, q⟩
end
end MiS
namespace MiS
open PySem PySem.Spec PyProof.Rows L2
open Mi (D C ME MS)

theorem atI_eq {α : Type} (xs : List α) (i : Int) : (Mi.ixN xs.length i).bind (fun j => xs[j]?) = atI xs i := rfl
theorem rds_atI {T : Tb} {H : Hp} {ds : List D} {vs : List V} (r : RDs T H ds vs) {i : Int} {d : D} (h : (Mi.ixN ds.length i).bind (fun j => ds[j]?) = some d) : ∃ v, atI vs i = some v ∧ RD T H d v := by
  rw [Option.bind_eq_some_iff] at h
  obtain ⟨j, h1, h2⟩ := h
  obtain ⟨v, h3, h4⟩ := r.get h2
  refine ⟨v, ?_, h4⟩
  show (L2.ixN vs.length i).bind (fun j => vs[j]?) = some v
  rw [← r.length]
  have : L2.ixN ds.length i = some j := h1
  rw [this]
  exact h3
theorem rcs_get {T : Tb} {H : Hp} {cs : List C} {vs : List V} {F : List Addr} (r : RCs T H cs vs F) {i : Nat} {c : C} (h : cs[i]? = some c) : ∃ v G, vs[i]? = some v ∧ RC T H c v G ∧ (∀ a ∈ G, a ∈ F) := by
  induction cs generalizing vs F i with
  | nil => simp at h
  | cons c' cs ih =>
    cases r with
    | cons h' r =>
      cases i with
      | zero => simp at h; subst h; exact ⟨_, _, rfl, h', fun a m => List.mem_append_left _ m⟩
      | succ i =>
        simp at h
        obtain ⟨v, G, e, rc, s⟩ := ih r h
        exact ⟨v, G, by simpa using e, rc, fun a m => List.mem_append_right _ (s a m)⟩
theorem rcs_length {T : Tb} {H : Hp} {cs : List C} {vs : List V} {F : List Addr} (r : RCs T H cs vs F) : cs.length = vs.length := by
  induction cs generalizing vs F with
  | nil => cases r; rfl
  | cons c cs ih => cases r with | cons h r => simp [ih r]
theorem rcs_atI {T : Tb} {H : Hp} {cs : List C} {vs : List V} {F : List Addr} (r : RCs T H cs vs F) {i : Int} {c : C} (h : (Mi.ixN cs.length i).bind (fun j => cs[j]?) = some c) : ∃ v G, atI vs i = some v ∧ RC T H c v G ∧ (∀ a ∈ G, a ∈ F) := by
  rw [Option.bind_eq_some_iff] at h
  obtain ⟨j, h1, h2⟩ := h
  obtain ⟨v, G, h3, h4, h5⟩ := rcs_get r h2
  refine ⟨v, G, ?_, h4, h5⟩
  show (L2.ixN vs.length i).bind (fun j => vs[j]?) = some v
  rw [← rcs_length r]
  have : L2.ixN cs.length i = some j := h1
  rw [this]
  exact h3
/-- a part of a value by a key: what it is, where it stands -/
def rSub (T : Tb) : R2 := fun x y H Q => ∃ cx F k c, RC T H cx x F ∧ RD T H k y ∧ Mi.subC cx k = some c ∧ ∀ v G, RC T H c v G → (∀ a ∈ G, a ∈ F) → Q v H
theorem okS_get {s : List Nat} (h : okS s = true) {c : Nat} (m : c ∈ s) : okS [c] = true := by
  unfold okS at *
  rw [List.all_eq_true] at h
  simp only [List.all_cons, List.all_nil, Bool.and_true]
  exact h c m
theorem look_of {T : Tb} {H : Hp} {k : D} {q : Key} (hk : keyD k = some q) : ∀ {ks : List D} {cs : List C} {vs : List V} {kvs : List (Key × V)} {F : List Addr}, keysD ks vs = some kvs → RCs T H cs vs F → ∀ {c : C}, Mi.lookD k ks cs = some c → ∃ v G, valV kvs q = some v ∧ RC T H c v G ∧ (∀ a ∈ G, a ∈ F)
  | [], _, _, _, _, _, _, _, h => by simp [Mi.lookD] at h
  | k' :: ks, [], _, _, _, _, _, _, h => by simp [Mi.lookD] at h
  | k' :: ks, c' :: cs, [], _, _, h1, _, _, _ => by simp [keysD] at h1
  | k' :: ks, c' :: cs, v :: vs, kvs, _, h1, r, c, h => by
    unfold keysD at h1
    split at h1
    · rename_i q' r' e1 e2
      cases h1
      cases r with
      | cons hc rr =>
        have kq : Mi.pyEq k' k = decide (q' = q) := by
          cases k' <;> simp [keyD] at e1 <;> cases k <;> simp [keyD] at hk <;> subst e1 hk <;> simp [Mi.pyEq]
          · exact Bool.beq_eq_decide_eq _ _
          · rename_i a b
            by_cases z : a = b
            · subst z; simp
            · have : (⟨a.toArray⟩ : Str) ≠ ⟨b.toArray⟩ := fun w => z (by injection w with w; simpa using w)
              simp [z, this]
        unfold Mi.lookD at h
        rw [kq] at h
        unfold valV
        simp only [List.find?_cons]
        by_cases z : q' = q
        · subst z
          rw [if_pos (by simp)] at h
          cases h
          exact ⟨_, _, by simp, hc, fun a m => List.mem_append_left _ m⟩
        · have zf : decide (q' = q) = false := decide_eq_false z
          rw [if_neg (by simp [z])] at h
          obtain ⟨v, G, a1, a2, a3⟩ := look_of hk e2 rr h
          refine ⟨v, G, ?_, a2, fun a m => List.mem_append_right _ (a3 a m)⟩
          simp only [zf]
          exact a1
    · cases h1
theorem lookDD_map (k : D) : ∀ (ks vs : List D), (Mi.lookDD k ks vs).map C.val = Mi.lookD k ks (vs.map C.val)
  | [], _ => by simp [Mi.lookDD, Mi.lookD]
  | a :: as, [] => by simp [Mi.lookDD, Mi.lookD]
  | a :: as, v :: vs => by
    simp only [Mi.lookDD, Mi.lookD, List.map_cons]
    split
    · rfl
    · exact lookDD_map k as vs
theorem key_rd {T : Tb} {H : Hp} {k : D} {y : V} {q : Key} (r : RD T H k y) (h : keyD k = some q) : y = kV q := by
  cases r <;> simp [keyD] at h <;> subst h <;> rfl
section
variable {X : Cx} {T : Tb}
theorem ix_dict (hu : X.A.units + 1 < cLine) : IxR X (fun x y H Q => ∃ a v, x = .ref a ∧ DGet H a y (some v) ∧ Q v H) := by
  intro value slice pins s σ H x y v u Q I rx ry h hs
  obtain ⟨a, w, rfl, g, q⟩ := h
  obtain rfl : v = Value.ref a := rx
  unfold subscriptTail
  have hT := dict_typeIs I g
  refine wpAny_bind ?_
  rw [getitemInPython_of_ne hT.not_modules]
  refine wpAny_bind (wpAny_specialOf hT PySem.F.slot_dict_getitem.lookup ?_)
  have fin : wpAny (model X.prog X.w) X.A (subscripted slice false (.ref a) u) (fun r s₃ => wpAny (model X.prog X.w) X.A (letTemporaryGo value (.ref a) r >>= fun _ => pure r) (EP X pins σ Q) X.xe s₃) X.xe s := by
    rw [hs]
    exact wpAny_operating (wpAny_mono (d_getItem hu I g ry (E := X.xe) (Q := fun r s₃ => EP X pins σ Q r s₃) fun w' s3 I3 rw' => ⟨w, H, I3, rw', q⟩) (fun r s₃ h₃ => wpAny_bind (wpAny_letTemporaryGo (wpAny_pure h₃))) fun _ _ x => x)
  first
    | exact wpAny_pure (wpAny_bind fin)
    | exact wpAny_bind (wpAny_pure (wpAny_bind fin))
    | exact wpAny_bind fin
theorem ix_sub (hK : T.K = X.K) (hu : X.A.units + 64 < cLine) : IxR X (rSub T) := by
  intro value slice pins s σ H x y v u Q I rx ry h hs
  obtain ⟨cx, F, k, c, hx, hk, hc, q⟩ := h
  have dct : ∀ (a : Addr) (kvs : List (Key × V)) (w : V) (G : List Addr) (q' : Key), x = .ref a → Rd H a (.dK kvs) → y = kV q' → valV kvs q' = some w → RC T H c w G → (∀ z ∈ G, z ∈ F) → wpAny (model X.prog X.w) X.A (subscriptTail value slice v u) (EP X pins σ Q) X.xe s := by
    intro a kvs w G q' ex hr ey hv hw hG
    exact ix_dict (by omega) value slice pins s σ H x y v u Q I rx ry ⟨a, w, ex, .inl ⟨kvs, q', hr, ey, hv.symm⟩, q w G hw hG⟩ hs
  have kq : Mi.keyIn false k = true → ∃ q', keyD k = some q' := by
    intro hk'
    cases k <;> simp [Mi.keyIn] at hk'
    case int i => exact ⟨_, rfl⟩
    case str i => exact ⟨_, rfl⟩
  cases hx with
  | val hd =>
    cases hd with
    | lst hf hr =>
      cases hk with
      | int i =>
        simp only [Mi.subC, Option.map_eq_some_iff] at hc
        obtain ⟨d, hc, rfl⟩ := hc
        obtain ⟨w, e1, e2⟩ := rds_atI hr hc
        exact ix_list value slice pins s σ H _ _ v u Q I rx ry ⟨_, _, i, w, rfl, rfl, by rw [← hK]; exact hf.sq, e1, q w [] (.val e2) fun _ m => nomatch m⟩ hs
      | _ => simp [Mi.subC] at hc
    | tup hf hr =>
      cases hk with
      | int i =>
        simp only [Mi.subC, Option.map_eq_some_iff] at hc
        obtain ⟨d, hc, rfl⟩ := hc
        obtain ⟨w, e1, e2⟩ := rds_atI hr hc
        exact ix_tup value slice pins s σ H _ _ v u Q I rx ry ⟨_, _, i, w, rfl, rfl, by rw [← hK]; exact hf, e1, q w [] (.val e2) fun _ m => nomatch m⟩ hs
      | _ => simp [Mi.subC] at hc
    | str z hz =>
      cases hk with
      | int i =>
        simp only [Mi.subC] at hc
        split at hc
        · rename_i hl
          rw [Option.map_eq_some_iff] at hc
          obtain ⟨d, hc, rfl⟩ := hc
          have e1 : atI (⟨z.toArray⟩ : Str).cps.toList i = some d := hc
          have m : d ∈ z := by
            rw [Option.bind_eq_some_iff] at hc
            obtain ⟨j, _, h2⟩ := hc
            exact List.mem_of_getElem? h2
          exact ix_str value slice pins s σ H _ _ v u Q I rx ry ⟨⟨z.toArray⟩, i, d, rfl, rfl, by rw [len_mk, ← lineEq]; exact hl, e1, q (strV [d]) [] (.val (.str [d] (okS_get hz m))) fun _ m => nomatch m⟩ hs
        · cases hc
      | _ => simp [Mi.subC] at hc
    | @dct ks ds _ _ _ _ hh hkk hr =>
      have hc' : Mi.keyIn false k = true ∧ (Mi.lookDD k ks ds).map C.val = some c := by
        simp only [Mi.subC] at hc
        split at hc
        · exact ⟨by assumption, hc⟩
        · cases hc
      rw [lookDD_map] at hc'
      obtain ⟨q', hq⟩ := kq hc'.1
      obtain ⟨w, G, a1, a2, a3⟩ := look_of hq hkk hr.ofC hc'.2
      exact dct _ _ w G q' rfl (.inr ⟨_, hh⟩) (key_rd hk hq) a1 a2 a3
    | _ => simp [Mi.subC] at hc
  | lst hh hr =>
    cases hk with
    | int i =>
      simp only [Mi.subC] at hc
      obtain ⟨w, G, e1, e2, e3⟩ := rcs_atI hr hc
      exact ix_list value slice pins s σ H _ _ v u Q I rx ry ⟨_, _, i, w, rfl, rfl, .inl (.inl hh), e1, q w G e2 fun a m => List.mem_cons_of_mem _ (e3 a m)⟩ hs
    | _ => simp [Mi.subC] at hc
  | tup hh hr =>
    cases hk with
    | int i =>
      simp only [Mi.subC] at hc
      obtain ⟨w, G, e1, e2, e3⟩ := rcs_atI hr hc
      exact ix_tup value slice pins s σ H _ _ v u Q I rx ry ⟨_, _, i, w, rfl, rfl, by rw [← hK]; exact hh, e1, q w G e2 e3⟩ hs
    | _ => simp [Mi.subC] at hc
  | @dct ks cs _ _ _ _ hh hkk hr =>
    have hc' : Mi.keyIn false k = true ∧ Mi.lookD k ks cs = some c := by
      simp only [Mi.subC] at hc
      split at hc
      · exact ⟨by assumption, hc⟩
      · cases hc
    obtain ⟨q', hq⟩ := kq hc'.1
    obtain ⟨w, G, a1, a2, a3⟩ := look_of hq hkk hr hc'.2
    exact dct _ _ w G q' rfl (.inl hh) (key_rd hk hq) a1 a2 fun a m => List.mem_cons_of_mem _ (a3 a m)
  | obj _ _ _ _ _ => simp [Mi.subC] at hc

/-! ### slices -/
theorem sIx_eq (n d : Nat) (o : Option Int) : Mi.sIx n d o = HT.sIx n d o := by
  cases o with
  | none => rfl
  | some i => rfl
theorem cutV_rd {H : Hp} {ds : List D} {vs : List V} (r : RDs T H ds vs) (lo hi : Option Int) : RDs T H (Mi.cut ds lo hi) (cutV vs lo hi) := by
  unfold Mi.cut cutV
  rw [sIx_eq, sIx_eq, r.length]
  exact (r.drop _).take _
def rSlc (T : Tb) : V → Option Int → Option Int → Hp → VK → Prop := fun x lo hi H Q => ∃ cx F z, RC T H cx x F ∧ Mi.sliceC cx lo hi = some z ∧ R2N T H Q z
theorem sl_slc (hK : T.K = X.K) : SlR X (rSlc T) := by
  intro pins s σ H x v vl vu lo hi sl Q I rx hs pl pu h
  obtain ⟨cx, F, z, hx, hz, q⟩ := h
  have lst : ∀ (ds : List D), cx.asL = some ds → z = .lst ((Mi.cut ds lo hi).map .val) → ∃ T id, typeLookup (.type T) "__getitem__" = pure (some (.builtin id)) ∧ s.TypeIs v T ∧ wpAny (model X.prog X.w) X.A (getItem v (.ref sl)) (EP X pins σ Q) X.xe s := by
    intro ds ha ez
    subst ez
    obtain ⟨a, vs, rfl, sx, r1⟩ := asL_sq hx ha
    rw [hK] at sx
    exact sl_list pins s σ H _ v vl vu lo hi sl Q I rx hs pl pu ⟨a, vs, rfl, sx, q.lst (cutV_rd r1 lo hi)⟩
  unfold Mi.sliceC at hz
  split at hz
  · split at hz <;> cases hz
    rename_i s' hl
    obtain ⟨rfl, ok⟩ := rcStr hx
    refine sl_str pins s σ H _ v vl vu lo hi sl Q I rx hs pl pu ⟨_, rfl, by rw [len_mk, ← lineEq]; exact hl, ?_⟩
    have e : cutS (⟨s'.toArray⟩ : Str) lo hi = ⟨(Mi.cut s' lo hi).toArray⟩ := by
      unfold cutS Mi.cut
      rw [sIx_eq, sIx_eq, len_mk]
    rw [e]
    refine q.sc (.str _ ?_)
    unfold okS at *
    rw [List.all_eq_true] at *
    intro c m
    exact ok c (List.mem_of_mem_drop (List.mem_of_mem_take m))
  · cases hz
    rename_i ds
    obtain ⟨a, vs, rfl, sx, r1⟩ := asT_sq hx rfl
    rw [hK] at sx
    refine sl_tupA pins s σ H _ v vl vu lo hi sl Q I rx hs pl pu ⟨a, vs, rfl, sx, fun ⟨e1, e2⟩ => ?_, fun _ => q.tup (cutV_rd r1 lo hi)⟩
    have e : Mi.cut ds lo hi = ds := by
      unfold Mi.cut
      rw [sIx_eq, sIx_eq, r1.length, e1, e2, ← r1.length]
      simp
    rw [e] at q
    exact q.sc (.tup (by rw [hK]; exact sx) r1)
  · rw [Option.map_eq_some_iff] at hz
    obtain ⟨ds, ha, rfl⟩ := hz
    exact lst ds ha rfl
end
end MiS
namespace MiO
open PySem PySem.StrLaws Builtin Builtin.Str
theorem occ_stays (s sub : Str) (hi : Nat) : ∀ (l : List Nat) (k f : Nat), (forIn l ((#[k] : Array Nat), f) (occBody s sub hi 1)).run.fst = #[k]
  | [], k, f => rfl
  | a :: l, k, f => by
    rw [List.forIn_cons]
    unfold occBody
    rw [if_neg (by simp)]
    exact occ_stays s sub hi l k f
theorem occ_first (s sub : Str) (hi : Nat) : ∀ (l : List Nat) (free : Nat), (∀ i ∈ l, free ≤ i) →
    (forIn l ((#[] : Array Nat), free) (occBody s sub hi 1)).run.fst = (match l.find? (fun i => decide (i + sub.length ≤ hi) && subAt s sub i) with | some i => #[i] | none => #[])
  | [], free, _ => rfl
  | a :: l, free, hf => by
    rw [List.forIn_cons, List.find?_cons]
    unfold occBody
    have ha : free ≤ a := hf a (List.mem_cons_self ..)
    by_cases hc : a + sub.length ≤ hi ∧ subAt s sub a = true
    · rw [if_pos ⟨⟨⟨by simp, ha⟩, hc.1⟩, hc.2⟩]
      have e : (decide (a + sub.length ≤ hi) && subAt s sub a) = true := by rw [Bool.and_eq_true]; exact ⟨decide_eq_true hc.1, hc.2⟩
      rw [e]
      exact occ_stays s sub hi l a _
    · rw [if_neg (fun h => hc ⟨h.1.2, h.2⟩)]
      have e : (decide (a + sub.length ≤ hi) && subAt s sub a) = false := by
        rw [Bool.eq_false_iff]; intro h; rw [Bool.and_eq_true] at h; exact hc ⟨of_decide_eq_true h.1, h.2⟩
      rw [e]
      exact occ_first s sub hi l free fun i hi' => hf i (List.mem_cons_of_mem _ hi')
theorem occ_sign (x : Str) (c k : Nat) (h : x.cps.toList.findIdx? (· == c) = some k) : occurrences x ⟨#[c]⟩ 0 x.length 1 = [k] := by
  rw [occ_eq, occ_first _ _ _ _ _ fun _ _ => Nat.zero_le _]
  obtain ⟨hk, h1, h2⟩ := List.findIdx?_eq_some_iff_getElem.mp h
  have good : ∀ i, (decide (i + (⟨#[c]⟩ : Str).length ≤ x.length) && subAt x ⟨#[c]⟩ i) = true ↔ x.cps.toList[i]? = some c := fun i => by
    rw [Bool.and_eq_true, decide_eq_true_eq]
    exact subAt_one x c i
  have e : (List.range' 0 (x.length + 1 - 0)).find? (fun i => decide (i + (⟨#[c]⟩ : Str).length ≤ x.length) && subAt x ⟨#[c]⟩ i) = some k := by
    rw [List.find?_range'_eq_some]
    refine ⟨(good k).mpr ?_, by rw [List.mem_range'_1]; simp [Str.length] at hk ⊢; omega, fun j hj hjk => ?_⟩
    · rw [List.getElem?_eq_getElem hk]
      congr 1
      simpa using h1
    · have := h2 j (by omega)
      rw [Bool.not_eq_true']
      rw [Bool.eq_false_iff]
      intro q
      have q := (good j).mp q
      rw [List.getElem?_eq_getElem (by omega)] at q
      have q := Option.some.inj q
      rw [q] at this
      simp at this
  rw [e]
end MiO
namespace MiS
open PySem PySem.Spec PyProof.Rows L2
open Mi (D C ME MS)
def biV : Mi.Bi → Value
  | .len => .builtin "len" | .int => .type "int" | .str => .type "str" | .abs => .builtin "abs" | .max => .builtin "max" | .min => .builtin "min" | .sum => .builtin "sum" | .any => .builtin "any" | .all => .builtin "all"
  | .sorted => .builtin "sorted" | .list => .type "list" | .tuple => .type "tuple" | .lenset => .none | .sortset => .none | .listrng => .none | .listzip => .none
def rBi (T : Tb) (b : Mi.Bi) : List V → Hp → VK → Prop := fun xs H Q => ∃ cs F z, RCs T H cs xs F ∧ Mi.biC b cs = some z ∧ R2N T H Q z
theorem ints_rd {T : Tb} {H : Hp} : ∀ {ds : List D} {vs : List V} {ns : List Int}, RDs T H ds vs → Mi.intsD ds = some ns → vs = ns.map V.int
  | [], _, _, .nil, h => by simp [Mi.intsD] at h; subst h; rfl
  | d :: ds, _, _, .cons hd r, h => by
    cases d <;> simp [Mi.intsD] at h
    obtain ⟨n, h, rfl⟩ := h
    cases hd
    rw [ints_rd r h]; rfl
theorem bools_rd {T : Tb} {H : Hp} : ∀ {ds : List D} {vs : List V} {ns : List Bool}, RDs T H ds vs → Mi.bools ds = some ns → vs = ns.map V.bl
  | [], _, _, .nil, h => by simp [Mi.bools] at h; subst h; rfl
  | d :: ds, _, _, .cons hd r, h => by
    cases d <;> simp [Mi.bools] at h
    obtain ⟨n, h, rfl⟩ := h
    cases hd
    rw [bools_rd r h]; rfl
theorem strs_rd {T : Tb} {H : Hp} : ∀ {ds : List D} {vs : List V} {ns : List (List Nat)}, RDs T H ds vs → Mi.strsD ds = some ns → vs = (ns.map fun s => (⟨s.toArray⟩ : Str)).map V.str ∧ ∀ s ∈ ns, okS s = true
  | [], _, _, .nil, h => by simp [Mi.strsD] at h; subst h; exact ⟨rfl, by simp⟩
  | d :: ds, _, _, .cons hd r, h => by
    cases d <;> simp [Mi.strsD] at h
    obtain ⟨n, h, rfl⟩ := h
    cases hd with
    | str s ok =>
      obtain ⟨a, b⟩ := strs_rd r h
      rw [a]
      exact ⟨rfl, by intro s' m; rcases List.mem_cons.mp m with e | m; exact e ▸ ok; exact b s' m⟩
theorem ints_rds {T : Tb} {H : Hp} : ∀ (ns : List Int), RDs T H (ns.map .int) (ns.map V.int)
  | [] => .nil
  | n :: ns => .cons (.int n) (ints_rds ns)
theorem maxI_spec : ∀ (xs : List Int) (m : Int), (Mi.maxI m xs = m ∨ Mi.maxI m xs ∈ xs) ∧ m ≤ Mi.maxI m xs ∧ ∀ y ∈ xs, y ≤ Mi.maxI m xs
  | [], m => ⟨.inl rfl, Int.le_refl _, fun _ h => nomatch h⟩
  | x :: xs, m => by
    unfold Mi.maxI
    obtain ⟨a, b, c⟩ := maxI_spec xs (if m < x then x else m)
    have h1 : m ≤ (if m < x then x else m) ∧ x ≤ (if m < x then x else m) := by split <;> omega
    refine ⟨?_, by omega, fun y hy => ?_⟩
    · rcases a with a | a
      · rw [a]; split
        · exact .inr List.mem_cons_self
        · exact .inl rfl
      · exact .inr (List.mem_cons_of_mem _ a)
    · rcases List.mem_cons.mp hy with e | hy
      · subst e; omega
      · exact c y hy
theorem minI_spec : ∀ (xs : List Int) (m : Int), (Mi.minI m xs = m ∨ Mi.minI m xs ∈ xs) ∧ Mi.minI m xs ≤ m ∧ ∀ y ∈ xs, Mi.minI m xs ≤ y
  | [], m => ⟨.inl rfl, Int.le_refl _, fun _ h => nomatch h⟩
  | x :: xs, m => by
    unfold Mi.minI
    obtain ⟨a, b, c⟩ := minI_spec xs (if x < m then x else m)
    have h1 : (if x < m then x else m) ≤ m ∧ (if x < m then x else m) ≤ x := by split <;> omega
    refine ⟨?_, by omega, fun y hy => ?_⟩
    · rcases a with a | a
      · rw [a]; split
        · exact .inr List.mem_cons_self
        · exact .inl rfl
      · exact .inr (List.mem_cons_of_mem _ a)
    · rcases List.mem_cons.mp hy with e | hy
      · subst e; omega
      · exact c y hy
theorem ins_perm (x : Int) : ∀ l : List Int, (Mi.ins x l).Perm (x :: l)
  | [] => .refl _
  | y :: l => by
    unfold Mi.ins
    split
    · exact .refl _
    · exact ((ins_perm x l).cons y).trans (.swap x y l)
theorem ins_sorted (x : Int) : ∀ {l : List Int}, l.Pairwise (· ≤ ·) → (Mi.ins x l).Pairwise (· ≤ ·)
  | [], _ => by simp [Mi.ins]
  | y :: l, h => by
    unfold Mi.ins
    split
    · rename_i hxy
      rw [List.pairwise_cons] at h ⊢
      exact ⟨fun z hz => by rcases List.mem_cons.mp hz with e | hz; omega; exact Int.le_trans hxy (h.1 z hz), List.pairwise_cons.mpr h⟩
    · rename_i hxy
      rw [List.pairwise_cons] at h ⊢
      refine ⟨fun z hz => ?_, ins_sorted x h.2⟩
      rcases List.mem_cons.mp ((ins_perm x l).mem_iff.mp hz) with e | hz
      · omega
      · exact h.1 z hz
theorem isort_perm : ∀ l : List Int, (Mi.isort l).Perm l
  | [] => .refl _
  | x :: l => (ins_perm x _).trans ((isort_perm l).cons x)
theorem isort_sorted : ∀ l : List Int, (Mi.isort l).Pairwise (· ≤ ·)
  | [] => .nil
  | x :: l => ins_sorted x (isort_sorted l)
theorem sorted_unique {a b : List Int} (p : a.Perm b) (ha : a.Pairwise (· ≤ ·)) (hb : b.Pairwise (· ≤ ·)) : a = b :=
  List.Perm.eq_of_pairwise (le := (· ≤ ·)) (fun x y _ _ h1 h2 => Int.le_antisymm h1 h2) ha hb p
theorem keysD_len {ks : List D} {vs : List V} {kvs : List (Key × V)} (h : keysD ks vs = some kvs) : kvs.length = ks.length := by
  have := (keysD_of h).2.2
  have := congrArg List.length this
  simpa using this.symm
theorem numOf_spec0 : ∀ (s : List Nat) (a n : Nat), Mi.numOf a s = some n → NumText.AllDigits s ∧ s.foldl (fun acc c => acc * 10 + (c - 48)) a = n
  | [], a, n, h => by simp [Mi.numOf] at h; exact ⟨fun _ m => (nomatch m), h⟩
  | c :: s, a, n, h => by
    unfold Mi.numOf at h
    split at h
    · rename_i hc
      obtain ⟨a1, a2⟩ := numOf_spec0 s _ n h
      exact ⟨fun d m => (List.mem_cons.mp m).elim (fun e => by rw [e]; exact hc) (a1 d), a2⟩
    · cases h
theorem numOf_spec {s : List Nat} {n : Nat} (h : Mi.numOf 0 s = some n) : NumText.AllDigits s ∧ NumText.digitsVal s = n := numOf_spec0 s 0 n h
section
variable {X : Cx} {T : Tb}
theorem call_len_dict : CallR X (.builtin "len") (fun xs H Q => ∃ a kvs, xs = [.ref a] ∧ Rd H a (.dK kvs) ∧ Q (.int kvs.length) H) := by
  intro pins s σ H xs us Q I r h
  obtain ⟨a, kvs, rfl, e, q⟩ := h
  rw [Vals.ref1 r]
  exact d_len I e fun t s' I' => ⟨.int kvs.length, H, I', ⟨t, rfl⟩, q⟩
def okBi : Mi.Bi → Bool
  | .len | .abs | .max | .min | .sum | .any | .all | .sorted | .list | .tuple | .int => true
  | _ => false
theorem RCs.one {H : Hp} {c : C} {xs : List V} {F : List Addr} (r : RCs T H [c] xs F) : ∃ x, xs = [x] ∧ RC T H c x F := by
  cases r with
  | cons h r => cases r with | nil => exact ⟨_, rfl, by rw [List.append_nil]; exact h⟩
theorem RCs.two {H : Hp} {c d : C} {xs : List V} {F : List Addr} (r : RCs T H [c, d] xs F) : ∃ x y G G', xs = [x, y] ∧ RC T H c x G ∧ RC T H d y G' := by
  cases r with
  | cons h r => cases r with | cons h2 r => cases r with | nil => exact ⟨_, _, _, _, rfl, h, h2⟩
/-- which walk what they are given -/
def calmBi : Mi.Bi → Bool
  | .max | .min | .sum | .any | .all => true
  | _ => false
theorem call_bi (hK : T.K = X.K) (b : Mi.Bi) (hc : calmBi b = true → X.calm = true) (hb : okBi b = true) : CallR X (biV b) (rBi T b) := by
  intro pins s σ H xs us Q I r h
  obtain ⟨cs, F, z, hx, hz, q⟩ := h
  have lists : ∀ (c : C) (ns : List Int), cs = [c] → (c.asL.bind Mi.intsD) = some ns → ∃ a, xs = [.ref a] ∧ SqL X.K H a (ns.map V.int) := by
    intro c ns ec h
    subst ec
    obtain ⟨x, rfl, hx1⟩ := RCs.one hx
    rw [Option.bind_eq_some_iff] at h
    obtain ⟨ds, h1, h2⟩ := h
    obtain ⟨a, vs, rfl, sx, r1⟩ := asL_sq hx1 h1
    rw [ints_rd r1 h2, hK] at sx
    exact ⟨a, rfl, sx⟩
  have blists : ∀ (c : C) (ns : List Bool), cs = [c] → (c.asL.bind Mi.bools) = some ns → ∃ a, xs = [.ref a] ∧ SqL X.K H a (ns.map V.bl) := by
    intro c ns ec h
    subst ec
    obtain ⟨x, rfl, hx1⟩ := RCs.one hx
    rw [Option.bind_eq_some_iff] at h
    obtain ⟨ds, h1, h2⟩ := h
    obtain ⟨a, vs, rfl, sx, r1⟩ := asL_sq hx1 h1
    rw [bools_rd r1 h2, hK] at sx
    exact ⟨a, rfl, sx⟩
  unfold Mi.biC at hz
  split at hz <;> try (simp [okBi] at hb; done)
  · -- len
    rename_i c
    rw [Option.map_eq_some_iff] at hz
    obtain ⟨n, hn, rfl⟩ := hz
    obtain ⟨x, rfl, hx1⟩ := RCs.one hx
    cases hx1 with
    | val hd =>
      cases hd with
      | str z hz' =>
        simp only [Mi.C.len] at hn
        split at hn <;> cases hn
        rename_i hl
        exact call_len pins s σ H _ us Q I r ⟨_, _, rfl, ⟨by rw [len_mk, ← lineEq]; exact hl, by rw [len_mk]⟩, q.sc (.int _)⟩
      | lst hf hr =>
        simp only [Mi.C.len, Option.some.injEq] at hn
        subst hn
        exact call_len pins s σ H _ us Q I r ⟨_, _, rfl, .inl ⟨_, by rw [← hK]; exact hf.sq, hr.length⟩, q.sc (.int _)⟩
      | tup hf hr =>
        simp only [Mi.C.len, Option.some.injEq] at hn
        subst hn
        exact call_len pins s σ H _ us Q I r ⟨_, _, rfl, .inr ⟨_, by rw [← hK]; exact hf, hr.length⟩, q.sc (.int _)⟩
      | dct hh hk hr =>
        simp only [Mi.C.len, Option.some.injEq] at hn
        subst hn
        exact call_len_dict pins s σ H _ us Q I r ⟨_, _, rfl, .inr ⟨_, hh⟩, by rw [keysD_len hk]; exact q.sc (.int _)⟩
      | _ => simp [Mi.C.len] at hn
    | lst hh hr =>
      simp only [Mi.C.len, Option.some.injEq] at hn
      subst hn
      exact call_len pins s σ H _ us Q I r ⟨_, _, rfl, .inl ⟨_, .inl (.inl hh), rcs_length hr⟩, q.sc (.int _)⟩
    | tup hh hr =>
      simp only [Mi.C.len, Option.some.injEq] at hn
      subst hn
      exact call_len pins s σ H _ us Q I r ⟨_, _, rfl, .inr ⟨_, by rw [← hK]; exact hh, rcs_length hr⟩, q.sc (.int _)⟩
    | dct hh hk hr =>
      simp only [Mi.C.len, Option.some.injEq] at hn
      subst hn
      exact call_len_dict pins s σ H _ us Q I r ⟨_, _, rfl, .inl hh, by rw [keysD_len hk]; exact q.sc (.int _)⟩
    | obj _ _ _ _ _ => simp [Mi.C.len] at hn
  · cases hz
    obtain ⟨x, rfl, hx1⟩ := RCs.one hx
    cases rcInt hx1
    exact call_int1 pins s σ H _ us Q I r (.inl ⟨_, rfl, q.sc (.int _)⟩)
  · cases hz
    obtain ⟨x, rfl, hx1⟩ := RCs.one hx
    cases rcBl hx1
    exact call_int1 pins s σ H _ us Q I r (.inr ⟨_, rfl, q.sc (.int _)⟩)
  · split at hz
    · cases hz
    · rename_i s' hs
      rw [Option.map_eq_some_iff] at hz
      obtain ⟨n, hn, rfl⟩ := hz
      simp only [Bool.or_eq_true, decide_eq_true_eq, not_or, Bool.not_eq_true] at hs
      obtain ⟨x, rfl, hx1⟩ := RCs.one hx
      obtain ⟨rfl, _⟩ := rcStr hx1
      obtain ⟨d1, d2⟩ := numOf_spec hn
      refine call_int_str pins s σ H _ us Q I r ⟨_, (n : Int), rfl, ?_, by rw [len_mk]; omega, q.sc (.int _)⟩
      have e := PySem.intText_digits (x := (⟨s'.toArray⟩ : Str)) d1 (by intro e; simp at e; subst e; simp at hs) (by rw [len_mk]; omega)
      rw [e]
      exact congrArg some (congrArg Int.ofNat d2)
  · cases hz
    obtain ⟨x, rfl, hx1⟩ := RCs.one hx
    cases rcInt hx1
    exact call_abs pins s σ H _ us Q I r ⟨_, rfl, q.sc (.int _)⟩
  · cases hz
    obtain ⟨x, y, G, G', rfl, h1, h2⟩ := RCs.two hx
    cases rcInt h1; cases rcInt h2
    exact call_max2 (hc rfl) pins s σ H _ us Q I r ⟨_, _, rfl, q.sc (.int _)⟩
  · cases hz
    obtain ⟨x, y, G, G', rfl, h1, h2⟩ := RCs.two hx
    cases rcInt h1; cases rcInt h2
    exact call_min2 (hc rfl) pins s σ H _ us Q I r ⟨_, _, rfl, q.sc (.int _)⟩
  · rw [Option.bind_eq_some_iff] at hz
    obtain ⟨ns, h1, h2⟩ := hz
    obtain ⟨a, rfl, sx⟩ := lists _ ns rfl h1
    cases ns with
    | nil => cases h2
    | cons n ns =>
      cases h2
      obtain ⟨s1, s2, s3⟩ := maxI_spec ns n
      refine cr_max (hc rfl) pins s σ H _ us Q I r ⟨a, n :: ns, rfl, sx, by simp, fun m hm hle => ?_⟩
      have : m = Mi.maxI n ns := by
        refine Int.le_antisymm ?_ ?_
        · rcases List.mem_cons.mp hm with e | hm
          · omega
          · exact s3 m hm
        · rcases s1 with e | e
          · rw [e]; exact hle n List.mem_cons_self
          · exact hle _ (List.mem_cons_of_mem _ e)
      rw [this]
      exact q.sc (.int _)
  · rw [Option.bind_eq_some_iff] at hz
    obtain ⟨ns, h1, h2⟩ := hz
    obtain ⟨a, rfl, sx⟩ := lists _ ns rfl h1
    cases ns with
    | nil => cases h2
    | cons n ns =>
      cases h2
      obtain ⟨s1, s2, s3⟩ := minI_spec ns n
      refine cr_min (hc rfl) pins s σ H _ us Q I r ⟨a, n :: ns, rfl, sx, by simp, fun m hm hle => ?_⟩
      have : m = Mi.minI n ns := by
        refine Int.le_antisymm ?_ ?_
        · rcases s1 with e | e
          · rw [e]; exact hle n List.mem_cons_self
          · exact hle _ (List.mem_cons_of_mem _ e)
        · rcases List.mem_cons.mp hm with e | hm
          · omega
          · exact s3 m hm
      rw [this]
      exact q.sc (.int _)
  · rw [Option.map_eq_some_iff] at hz
    obtain ⟨ns, h1, rfl⟩ := hz
    obtain ⟨a, rfl, sx⟩ := lists _ ns rfl h1
    exact cr_sum (hc rfl) pins s σ H _ us Q I r ⟨a, ns, rfl, sx, q.sc (.int _)⟩
  · rw [Option.map_eq_some_iff] at hz
    obtain ⟨ns, h1, rfl⟩ := hz
    obtain ⟨a, rfl, sx⟩ := blists _ ns rfl h1
    exact cr_any (hc rfl) pins s σ H _ us Q I r ⟨a, ns, rfl, sx, q.sc (.bl _)⟩
  · rw [Option.map_eq_some_iff] at hz
    obtain ⟨ns, h1, rfl⟩ := hz
    obtain ⟨a, rfl, sx⟩ := blists _ ns rfl h1
    exact cr_all (hc rfl) pins s σ H _ us Q I r ⟨a, ns, rfl, sx, q.sc (.bl _)⟩
  · rw [Option.bind_eq_some_iff] at hz
    obtain ⟨ns, h1, h2⟩ := hz
    split at h2 <;> cases h2
    obtain ⟨a, rfl, sx⟩ := lists _ ns rfl h1
    refine cr_sortedI pins s σ H _ us Q I r ⟨a, ns, rfl, sx, fun ns' p hp hs hn => ?_⟩
    have e : ns' = Mi.isort ns := sorted_unique (hp.trans (isort_perm ns).symm) hs (isort_sorted ns)
    subst e
    have q' : R2N T H Q (.lst (((Mi.isort ns).map D.int).map .val)) := by rw [List.map_map]; exact q
    exact q'.lst (ints_rds _) p hn
  · -- list
    rename_i c
    obtain ⟨x, rfl, hx1⟩ := RCs.one hx
    cases ha : c.asL with
    | some ds =>
      rw [ha] at hz
      cases hz
      obtain ⟨a, vs, rfl, sx, r1⟩ := asL_sq hx1 ha
      exact call_list_of pins s σ H _ us Q I r ⟨a, vs, rfl, .inl (by rw [← hK]; exact sx), fun l hl => q.lst r1 l hl⟩
    | none =>
      rw [ha] at hz
      simp only [Option.map_eq_some_iff] at hz
      obtain ⟨ds, ht, rfl⟩ := hz
      obtain ⟨a, vs, rfl, sx, r1⟩ := asT_sq hx1 ht
      exact call_list_of pins s σ H _ us Q I r ⟨a, vs, rfl, .inr (by rw [← hK]; exact sx), fun l hl => q.lst r1 l hl⟩
  · -- tuple
    rename_i c
    obtain ⟨x, rfl, hx1⟩ := RCs.one hx
    cases ha : c.asL with
    | some ds =>
      rw [ha] at hz
      cases hz
      obtain ⟨a, vs, rfl, sx, r1⟩ := asL_sq hx1 ha
      exact call_tuple_of pins s σ H _ us Q I r ⟨a, vs, rfl, .inl ⟨by rw [← hK]; exact sx, fun l hl => q.tup r1 l hl⟩⟩
    | none =>
      rw [ha] at hz
      simp only [Option.map_eq_some_iff] at hz
      obtain ⟨ds, ht, rfl⟩ := hz
      obtain ⟨a, vs, rfl, sx, r1⟩ := asT_sq hx1 ht
      exact call_tuple_of pins s σ H _ us Q I r ⟨a, vs, rfl, .inr ⟨by rw [← hK]; exact sx, q.sc (.tup sx r1)⟩⟩
  · cases hz
end
end MiS
namespace MiS
open PySem PySem.Spec PyProof.Rows L2
open Mi (D C ME MS ev evs evP evA evAnd evOr evC bor pur purs)
section
variable {X : Cx} {T : Tb} {W : WX} {P : Mi.Pr}
abbrev TE' (T : Tb) (W : WX) (P : Mi.Pr) (m : ME) : TE := Tr T W (ev P m) (bor m) (pur m)
/-- the end of a thing that lays new objects -/
theorem fin_new {σ : L2.St} {H H2 : Hp} {O : Addr → Prop} {p b : Bool} {e : Mi.Env} {fp : Nat → List Addr} {Q : VK} {z : C} (s : Sp1 T σ H O p H2 e fp) (q : VQ T σ H O b p Q z e) : R2N T H2 Q z :=
  fun v H' F rc st kp n f => q v H' fp F ⟨s.laid kp st, rc, fun _ => Tmp.laid s n f⟩
theorem fin_sc {σ : L2.St} {H H2 : Hp} {O : Addr → Prop} {p b : Bool} {e : Mi.Env} {fp : Nat → List Addr} {Q : VK} {d : D} {v : V} (s : Sp1 T σ H O p H2 e fp) (q : VQ T σ H O b p Q (.val d) e) (r : RD T H2 d v) : Q v H2 := (fin_new s q).sc r

theorem E_bin (hK : T.K = X.K) {o : Mi.Bop} {a b : ME} {ea eb : Expr} {pos : Pos} (ha : PE X ea (TE' T W P a)) (hb : PE X eb (TE' T W P b)) : PE X (.BinOp ea (trB o) eb pos) (TE' T W P (.bin o a b)) := by
  refine PE.imp (pe_op (op_bin hK o) (PE.lk ha) (PE.lk hb)) fun σ H Q ⟨e, fp, R, hq⟩ => ?_
  rw [ev] at hq
  refine Tr.step (sp0 R) hq fun c e1 v1 H1 fp1 F1 h1 V1 hq => ?_
  refine hold_lk V1 hq fun c' H2 F2 h2 hq => ?_
  refine Tr.step h2.sp hq fun d e2 v2 H3 fp2 F3 h3 V2 hq => ?_
  refine hold_lk V2 hq fun d' H4 F4 h4 hq => ?_
  obtain ⟨z, hz, q⟩ := FinG.opt hq
  exact ⟨c', d', F2, F4, z, h2.next h4.sp id, h4.rc, hz, fin_new (h2.sp.trans h4.sp) q⟩
theorem E_neg {a : ME} {ea : Expr} {pos : Pos} (ha : PE X ea (TE' T W P a)) : PE X (.UnaryOp .USub ea pos) (TE' T W P (.neg a)) := by
  refine PE.imp (pe_un un_neg ha) fun σ H Q ⟨e, fp, R, hq⟩ => ?_
  rw [ev] at hq
  refine Tr.step (sp0 R) hq fun c e1 v1 H1 fp1 F1 h1 V1 hq => ?_
  split at hq
  · cases rcInt V1.rc
    exact ⟨_, rfl, fin_sc V1.sp hq (.int _)⟩
  · exact hq.elim
theorem E_cmp (hK : T.K = X.K) (hu : X.A.units + 64 < cLine) {o : Mi.Cop} {a b : ME} {ea eb : Expr} {pos : Pos} (hm : behindInMarks (trC o) eb = false) (ha : PE X ea (TE' T W P a)) (hb : PE X eb (TE' T W P b)) : PE X (.Compare ea [trC o] [eb] pos) (TE' T W P (.cmp o a b)) := by
  refine PE.imp (pe_cmpR (op_cmp hK hu o) (PE.lk ha) (PE.lk hb) hm) fun σ H Q ⟨e, fp, R, hq⟩ => ?_
  rw [ev] at hq
  refine Tr.step (sp0 R) hq fun c e1 v1 H1 fp1 F1 h1 V1 hq => ?_
  refine hold_lk V1 hq fun c' H2 F2 h2 hq => ?_
  refine Tr.step h2.sp hq fun d e2 v2 H3 fp2 F3 h3 V2 hq => ?_
  refine hold_lk V2 hq fun d' H4 F4 h4 hq => ?_
  obtain ⟨z, hz, q⟩ := FinG.opt hq
  rw [Option.map_eq_some_iff] at hz
  obtain ⟨r, hz, rfl⟩ := hz
  exact ⟨c', d', F2, F4, r, h2.next h4.sp id, h4.rc, hz, fin_sc (h2.sp.trans h4.sp) q (.bl r)⟩
/-- tests -/
def TrT (T : Tb) (W : WX) (m : Mi.Env → Mi.Res C) (p : Bool) : TT := fun σ H Q => ∃ e fp, RE T H e σ fp ∧ FinG T W σ H (own fp) (fun c e' => ∃ b, Mi.truth c = some b ∧ ∀ H' fp', Sp1 T σ H (own fp) p H' e' fp' → Q b H') (m e)
abbrev TT' (T : Tb) (W : WX) (P : Mi.Pr) (m : ME) : TT := TrT T W (ev P m) (pur m)
theorem PT.imp {e : Expr} {t t' : TT} (h : PT X e t) (i : ∀ σ H Q, t' σ H Q → t σ H Q) : PT X e t' := ⟨fun pins s σ H Q I q => h.run pins s σ H Q I (i σ H Q q)⟩
theorem truth_V (hK : T.K = X.K) {H : Hp} {c : C} {v : V} {F : List Addr} {b : Bool} (r : RC T H c v F) (h : Mi.truth c = some b) : TruV X.K v H b := by
  cases r with
  | val hd =>
    cases hd <;> simp [Mi.truth] at h
    case bl b' => exact h.symm
    case lst hf hr =>
      refine .inl ⟨_, by rw [← hK]; exact hf.sq, ?_⟩
      rename_i ds a vs
      have hb : b = !ds.isEmpty := by rw [h]; simp
      rw [hb]
      cases hr <;> rfl
  | lst hh hr =>
    simp [Mi.truth] at h
    refine .inl ⟨_, .inl (.inl hh), ?_⟩
    rename_i cs a vs F
    have hb : b = !cs.isEmpty := by rw [h]; simp
    rw [hb]
    cases hr <;> rfl
  | tup _ _ => simp [Mi.truth] at h
  | dct _ _ _ => simp [Mi.truth] at h
  | obj _ _ _ _ _ => simp [Mi.truth] at h
theorem TrT.step {α : Type} {σ : L2.St} {H H1 : Hp} {O : Addr → Prop} {p0 p1 : Bool} {e1 : Mi.Env} {fp1 : Nat → List Addr} {ok : α → Mi.Env → Prop} {m : Mi.Env → Mi.Res C} {g : Bool → Mi.Env → Mi.Res α} {Q1 : Bool → Hp → Prop} (s : Sp1 T σ H O p0 H1 e1 fp1)
    (hq : FinG T W σ H O ok ((m e1).bind fun c e => (Mi.ofOpt (Mi.truth c) e).bind g))
    (k : ∀ b e2 H2 fp2, Sp1 T σ H1 (own fp1) p1 H2 e2 fp2 → FinG T W σ H O ok (g b e2) → Q1 b H2) : TrT T W m p1 σ H1 Q1 := by
  refine ⟨e1, fp1, s.re, ?_⟩
  cases h : m e1 with
  | ok c e2 =>
    rw [h] at hq
    obtain ⟨b, hb, hq⟩ := FinG.ofOpt hq
    exact ⟨b, hb, fun H2 fp2 x => k b e2 H2 fp2 x hq⟩
  | exc n e2 => rw [h] at hq; exact fun H2 fp2 x => hq H2 fp2 ((s.trans x).weak fun z => by cases z)
  | stuck => rw [h] at hq; exact hq
theorem T_val (hK : T.K = X.K) {a : ME} {ea : Expr} (ha : PE X ea (TE' T W P a)) (he : ∀ whole, isTrue ea X.env whole = (do let v ← whole; standAt ea.pos; holding [v] (truthy v))) : PT X ea (TT' T W P a) := by
  refine PT.imp (pt_truth ha he) fun σ H Q ⟨e, fp, R, hq⟩ => ?_
  refine ⟨e, fp, R, ?_⟩
  cases h : ev P a e with
  | ok c e1 =>
    rw [h] at hq
    obtain ⟨b, hb, q⟩ := hq
    exact fun v H' fp' F V => ⟨b, truth_V hK V.rc hb, q H' fp' V.sp⟩
  | exc n e1 => rw [h] at hq; exact hq
  | stuck => rw [h] at hq; exact hq
theorem T_cmp (hK : T.K = X.K) (hu : X.A.units + 64 < cLine) {o : Mi.Cop} {a b : ME} {ea eb : Expr} {pos : Pos} (hm : behindInMarks (trC o) eb = false) (ha : PE X ea (TE' T W P a)) (hb : PE X eb (TE' T W P b)) : PT X (.Compare ea [trC o] [eb] pos) (TT' T W P (.cmp o a b)) := by
  refine PT.imp (pt_cmpR (op_cmp hK hu o) (PE.lk ha) (PE.lk hb) hm) fun σ H Q ⟨e, fp, R, hq⟩ => ?_
  rw [ev] at hq
  refine Tr.step (sp0 R) hq fun c e1 v1 H1 fp1 F1 h1 V1 hq => ?_
  refine hold_lk V1 hq fun c' H2 F2 h2 hq => ?_
  refine Tr.step h2.sp hq fun d e2 v2 H3 fp2 F3 h3 V2 hq => ?_
  refine hold_lk V2 hq fun d' H4 F4 h4 hq => ?_
  obtain ⟨z, hz, q⟩ := FinG.opt hq
  rw [Option.map_eq_some_iff] at hz
  obtain ⟨r, hz, rfl⟩ := hz
  obtain ⟨b', hb', q⟩ := q
  simp only [Mi.truth, Option.some.injEq] at hb'
  subst hb'
  exact ⟨c', d', F2, F4, r, h2.next h4.sp id, h4.rc, hz, r, rfl, q _ _ (h2.sp.trans h4.sp)⟩
theorem un_not : UnR X (unaryOp .Not) (fun x H Q => ∃ k, TruV X.K x H k ∧ Q (.bl (!k)) H) := by
  intro pins s σ H x v Q I rx h
  obtain ⟨k, e, q⟩ := h
  exact not_of (thn (tru_ok pins s σ H x v (fun c H1 => c = k ∧ Q (.bl (!k)) H1) I rx ⟨k, e, rfl, q⟩) fun c s1 ⟨H1, I1, ec, q1⟩ => ⟨.bl (!k), H1, I1, by rw [ec]; rfl, q1⟩)
theorem E_not (hK : T.K = X.K) {a : ME} {ea : Expr} {pos : Pos} (ha : PE X ea (TE' T W P a)) : PE X (.UnaryOp .Not ea pos) (TE' T W P (.not a)) := by
  refine PE.imp (pe_un un_not ha) fun σ H Q ⟨e, fp, R, hq⟩ => ?_
  rw [ev] at hq
  refine Tr.step (sp0 R) hq fun c e1 v1 H1 fp1 F1 h1 V1 hq => ?_
  obtain ⟨z, hz, q⟩ := FinG.opt hq
  rw [Option.map_eq_some_iff] at hz
  obtain ⟨b, hb, rfl⟩ := hz
  exact ⟨b, truth_V hK V1.rc hb, fin_sc V1.sp q (.bl _)⟩
theorem T_not {a : ME} {ea : Expr} {pos : Pos} (ha : PT X ea (TT' T W P a)) : PT X (.UnaryOp .Not ea pos) (TT' T W P (.not a)) := by
  refine PT.imp (pt_not ha) fun σ H Q ⟨e, fp, R, hq⟩ => ?_
  rw [ev] at hq
  refine ⟨e, fp, R, ?_⟩
  cases h : ev P a e with
  | ok c e1 =>
    rw [h] at hq
    obtain ⟨z, hz, q⟩ := FinG.opt hq
    rw [Option.map_eq_some_iff] at hz
    obtain ⟨b, hb, rfl⟩ := hz
    obtain ⟨b', hb', q⟩ := q
    simp only [Mi.truth, Option.some.injEq] at hb'
    subst hb'
    exact ⟨b, hb, q⟩
  | exc n e1 => rw [h] at hq; exact hq
  | stuck => rw [h] at hq; exact hq
theorem E_ite {c a b : ME} {ec ea eb : Expr} {pos : Pos} (hc : PT X ec (TT' T W P c)) (ha : PE X ea (TE' T W P a)) (hb : PE X eb (TE' T W P b)) : PE X (.IfExp ec ea eb pos) (TE' T W P (.ite c a b)) := by
  refine PE.imp (pe_ifExp hc ha hb) fun σ H Q ⟨e, fp, R, hq⟩ => ?_
  rw [ev] at hq
  refine TrT.step (sp0 R) hq fun t e1 H1 fp1 s1 hq => ?_
  have fin : ∀ (m : ME), (bor m = true → (bor a || bor b) = true) → ((pur a && pur b) = true → pur m = true) → FinG T W σ H (own fp) (VQ T σ H (own fp) (bor (.ite c a b)) (pur (.ite c a b)) Q) (ev P m e1) → TE' T W P m σ H1 Q := by
    intro m hb hp hq
    refine ⟨e1, fp1, s1.re, ?_⟩
    cases h : ev P m e1 with
    | ok d e2 =>
      rw [h] at hq
      refine fun v H2 fp2 F V => hq v H2 fp2 F ⟨(s1.trans V.sp).weak fun z => ?_, V.rc, fun z => ?_⟩
      · simp only [pur, Bool.and_eq_true] at z ⊢
        exact ⟨z.1.1, hp (by rw [Bool.and_eq_true]; exact ⟨z.1.2, z.2⟩)⟩
      · have bm : bor m = false := by
          cases hm : bor m with
          | false => rfl
          | true => have := hb hm; simp only [bor] at z; rw [z] at this; cases this
        have t := (V.tm bm).new s1
        refine ⟨t.nod, t.out, t.sub, fun z => t.pur ?_⟩
        simp only [pur, Bool.and_eq_true] at z ⊢
        exact ⟨z.1.1, hp (by rw [Bool.and_eq_true]; exact ⟨z.1.2, z.2⟩)⟩
    | exc n e2 => rw [h] at hq; exact fun H2 fp2 x => hq H2 fp2 ((s1.trans x).weak fun z => by cases z)
    | stuck => rw [h] at hq; exact hq
  cases t with
  | true => exact fin a (fun z => by rw [z]; rfl) (fun z => ((Bool.and_eq_true _ _).mp z).1) hq
  | false => exact fin b (fun z => by rw [z, Bool.or_true]) (fun z => ((Bool.and_eq_true _ _).mp z).2) hq
end
end MiS
namespace MiS
open PySem PySem.Spec PyProof.Rows L2
open Mi (D C ME MS ev evs evP evA evAnd evOr evC bor pur purs)
section
variable {X : Cx} {T : Tb} {W : WX} {P : Mi.Pr}
/-! ### atoms -/
theorem E_tC {d : D} {v : V} {ea : Expr} {m : ME} (h : PE X ea (tC v)) (hd : ∀ H, RD T H d v) (hm : ∀ e, ev P m e = .ok (.val d) e) : PE X ea (TE' T W P m) := by
  refine PE.imp h fun σ H Q ⟨e, fp, R, hq⟩ => ?_
  rw [hm] at hq
  exact hq v H fp [] ⟨Sp1.refl R, .val (hd H), fun _ => .nil⟩
theorem RE.set_none {H : Hp} {e : Mi.Env} {σ : L2.St} {fp : Nat → List Addr} (r : RE T H e σ fp) (i : Nat) : RE T H (e.set i none) σ (updF fp i []) where
  len := by rw [List.length_set]; exact r.len
  at_ := fun j c h => by
    rw [List.getElem?_set] at h
    by_cases z : i = j
    · rw [if_pos z] at h
      split at h <;> cases h
    · rw [if_neg z] at h
      obtain ⟨v, e1, rc⟩ := r.at_ j c h
      refine ⟨v, e1, ?_⟩
      unfold updF
      rw [if_neg (fun q => z q.symm)]
      exact rc
  nod := fun j => by
    unfold updF
    split
    · exact .nil
    · exact r.nod j
  dis := fun j k a n m m' => by
    unfold updF at m m'
    split at m
    · nomatch m
    · split at m'
      · nomatch m'
      · exact r.dis j k a n m m'
  cel := fun j a m => by
    unfold updF at m
    split at m
    · nomatch m
    · exact r.cel j a m
theorem own_updF_nil {fp : Nat → List Addr} {i : Nat} {a : Addr} (h : own (updF fp i []) a) : own fp a ∧ ∀ m : Unit, ∃ j, j ≠ i ∧ a ∈ fp j := by
  obtain ⟨j, m⟩ := h
  unfold updF at m
  split at m
  · nomatch m
  · exact ⟨⟨j, m⟩, fun _ => ⟨j, by assumption, m⟩⟩
theorem ev_slot {e : Mi.Env} {i : Nat} {α : Type} {f : C → Mi.Res α} {ok : α → Mi.Env → Prop} {σ : L2.St} {H : Hp} {O : Addr → Prop} (h : FinG T W σ H O ok (match e[i]? with | some (some c) => f c | _ => .stuck)) : ∃ c, e[i]? = some (some c) ∧ FinG T W σ H O ok (f c) := by
  split at h
  · exact ⟨_, by assumption, h⟩
  · exact h.elim
theorem E_var {i : Nat} {ea : Expr} (h : PE X ea (tVar i)) : PE X ea (TE' T W P (.var i)) := by
  refine PE.imp h fun σ H Q ⟨e, fp, R, hq⟩ => ?_
  rw [ev] at hq
  obtain ⟨c, hc, hq⟩ := ev_slot (f := fun c => .ok c e) hq
  obtain ⟨v, hv, rc⟩ := R.at_ i c hc
  exact ⟨v, hv, hq v H fp (fp i) ⟨Sp1.refl R, rc, fun z => by cases z⟩⟩
theorem E_mvar {i : Nat} {ea : Expr} (h : PE X ea (tVar i)) : PE X ea (TE' T W P (.mvar i)) := by
  refine PE.imp h fun σ H Q ⟨e, fp, R, hq⟩ => ?_
  rw [ev] at hq
  obtain ⟨c, hc, hq⟩ := ev_slot (f := fun c => .ok c (e.set i none)) hq
  obtain ⟨v, hv, rc⟩ := R.at_ i c hc
  refine ⟨v, hv, hq v H (updF fp i []) (fp i) ⟨⟨R.set_none i, fun a h => .inl (own_updF_nil h).1, Stp.refl, Keep.refl, fun _ => Stp.refl⟩, rc, fun _ => ⟨R.nod i, fun a m h => ?_, fun a m => .inl ⟨i, m⟩, fun z => by cases z⟩⟩⟩
  obtain ⟨j, n, m'⟩ := (own_updF_nil h).2 ()
  exact R.dis i j a (fun z => n z.symm) m m'
/-- a slot gets what is held -/
theorem RE.set_own {H : Hp} {e : Mi.Env} {σ : L2.St} {fp : Nat → List Addr} (r : RE T H e σ fp) {i : Nat} {c : C} {v : V} {F : List Addr} (hi : i < e.length) (hv : σ[i]? = some (some v)) (rc : RC T H c v F) (n : F.Nodup) (d : ∀ j a, j ≠ i → a ∈ F → a ∉ fp j) : RE T H (e.set i (some c)) σ (updF fp i F) where
  len := by rw [List.length_set]; exact r.len
  at_ := fun j c' h => by
    rw [List.getElem?_set] at h
    unfold updF
    by_cases z : i = j
    · subst z
      rw [if_pos rfl, if_pos hi] at h
      cases h
      rw [if_pos rfl]
      exact ⟨v, hv, rc⟩
    · rw [if_neg z] at h
      obtain ⟨v', e1, rc'⟩ := r.at_ j c' h
      rw [if_neg (fun q => z q.symm)]
      exact ⟨v', e1, rc'⟩
  nod := fun j => by
    unfold updF
    split
    · exact n
    · exact r.nod j
  dis := fun j k a ne m m' => by
    unfold updF at m m'
    split at m
    · split at m'
      · rename_i h1 h2; exact ne (h1.trans h2.symm)
      · rename_i h1 h2; exact d k a h2 m m'
    · split at m'
      · rename_i h1 h2; exact d j a h1 m' m
      · exact r.dis j k a ne m m'
  cel := fun j a m => by
    unfold updF at m
    split at m
    · exact rc.cell a m
    · exact r.cel j a m
theorem lt_of_some {α : Type} {l : List α} {i : Nat} {a : α} (h : l[i]? = some a) : i < l.length := (List.getElem?_eq_some_iff.mp h).1
theorem E_fvar {i : Nat} {ea : Expr} (h : PE X ea (tVar i)) : PE X ea (TE' T W P (.fvar i)) := by
  refine PE.imp (PE.lk h) fun σ H Q ⟨e, fp, R, hq⟩ => ?_
  rw [ev] at hq
  obtain ⟨c, hc, hq⟩ := ev_slot (f := fun c => .ok (C.val c.frz) (e.set i (some (.val c.frz)))) hq
  obtain ⟨v, hv, rc⟩ := R.at_ i c hc
  refine ⟨v, hv, RC.lock c rc (R.nod i) fun H2 rd z => hq v H2 (updF fp i []) [] ⟨?_, .val rd, fun _ => .nil⟩⟩
  have kp := z.stp.keep fun a m => rc.cell a m
  have r0 : RE T H (e.set i none) σ (updF fp i []) := R.set_none i
  have r1 : RE T H2 (e.set i none) σ (updF fp i []) := r0.keep kp fun a ha u eu => z.stp a u eu fun m => by
    obtain ⟨j, n, m'⟩ := (own_updF_nil ha).2 ()
    exact R.dis i j a (fun q => n q.symm) m m'
  have r2 := r1.set_own (i := i) (c := C.val c.frz) (F := []) (by rw [List.length_set]; exact lt_of_some hc) hv (.val rd) .nil fun _ _ _ m => nomatch m
  rw [List.set_set] at r2
  have ef : updF (updF fp i []) i [] = updF fp i [] := by funext j; unfold updF; split <;> rfl
  rw [ef] at r2
  exact ⟨r2, fun a h => .inl (own_updF_nil h).1, fun b o eb n => z.stp b o eb fun m => n ⟨i, m⟩, kp, fun z => by cases z⟩
theorem E_frz {a : ME} {ea : Expr} (ha : PE X ea (TE' T W P a)) : PE X ea (TE' T W P (.frz a)) := by
  refine PE.imp (PE.lk ha) fun σ H Q ⟨e, fp, R, hq⟩ => ?_
  rw [ev] at hq
  refine Tr.step (sp0 R) hq fun c e1 v1 H1 fp1 F1 h1 V1 hq => ?_
  obtain ⟨V2, hq⟩ := leak_of V1 hq
  have t := V2.tm rfl
  refine RC.lock c V2.rc t.nod fun H2 rd z => hq v1 H2 fp1 [] ⟨?_, .val rd, fun _ => .nil⟩
  have kp := z.stp.keep fun a m => V2.rc.cell a m
  have re2 : RE T H2 e1 σ fp1 := V2.sp.re.keep kp fun a ha u e => z.stp a u e fun m => t.out a m ha
  refine ⟨re2, V2.sp.sub, fun b o e n => ?_, V2.sp.keep.trans kp, fun hp b o e n => ?_⟩
  · refine z.stp b o (V2.sp.stp b o e n) fun m => ?_
    rcases t.sub b m with h | h
    · exact n h
    · rw [h] at e; cases e
  · refine z.stp b o (V2.sp.pure hp b o e n) fun m => ?_
    rw [t.pur hp b m] at e; cases e
/-! ### lists of things -/
abbrev TAs (T : Tb) (W : WX) (P : Mi.Pr) (ms : List ME) : TA := TrA T W (evs P ms) (purs ms)
theorem Tmp.app {σ : L2.St} {H H1 H2 : Hp} {O : Addr → Prop} {p q : Bool} {e1 e2 : Mi.Env} {fp1 fp2 : Nat → List Addr} {F G : List Addr} (t : Tmp H O p fp1 F) (a : Sp1 T σ H O p H1 e1 fp1) (hc : ∀ a ∈ F, ∃ u, H1 a = some u) (b : Sp1 T σ H1 (own fp1) q H2 e2 fp2) (t2 : Tmp H1 (own fp1) q fp2 G) : Tmp H O (p && q) fp2 (F ++ G) := by
  have x := t.next a hc b
  have y := t2.new a
  have d := t.disj a hc t2
  exact ⟨List.nodup_append.mpr ⟨x.nod, y.nod, fun m hm n hn z => d m hm (z ▸ hn)⟩, fun m hm => (List.mem_append.mp hm).elim (x.out m) (y.out m), fun m hm => (List.mem_append.mp hm).elim (x.sub m) (y.sub m), fun z m hm => (List.mem_append.mp hm).elim (x.pur z m) (y.pur z m)⟩
theorem cell_some {H : Hp} {c : C} {v : V} {F : List Addr} (r : RC T H c v F) : ∀ a ∈ F, ∃ u, H a = some u := fun a m => by obtain ⟨u, e, _⟩ := r.cell a m; exact ⟨u, e⟩
theorem A_nil : PA X [] (TAs T W P []) := PA.imp pa_nil fun σ H Q ⟨e, fp, R, hq⟩ => by
  rw [evs] at hq
  exact hq [] H fp [] ⟨Sp1.refl R, .nil, .nil⟩
theorem A_cons {a : ME} {r : List ME} {ea : Expr} {er : List Expr} (hs : starEach (ea :: er) X.env = (false, eval ea X.env) :: starEach er X.env) (ha : PE X ea (TE' T W P a)) (hr : PA X er (TAs T W P r)) : PA X (ea :: er) (TAs T W P (a :: r)) := by
  refine PA.imp (pa_cons ha hr hs) fun σ H Q ⟨e, fp, R, hq⟩ => ?_
  rw [evs] at hq
  refine Tr.step (sp0 R) hq fun c e1 v1 H1 fp1 F1 h1 V1 hq => ?_
  obtain ⟨V2, hq⟩ := leak_of V1 hq
  refine TrA.step V2.sp hq fun cs e2 vs H2 fp2 F2 h2 V3 hq => ?_
  refine hq (v1 :: vs) H2 fp2 (F1 ++ F2) ⟨V2.sp.trans V3.sp, .cons (V2.rc.stp V3.sp.keep V3.sp.stp fun x m => (V2.tm rfl).out x m) V3.rc, (V2.tm rfl).app V2.sp (cell_some V2.rc) V3.sp V3.tm⟩
theorem bind_ok {α β : Type} {m : Mi.Res α} {f : α → Mi.Env → Mi.Res β} {b : β} {e' : Mi.Env} (h : m.bind f = .ok b e') : ∃ a e, m = .ok a e ∧ f a e = .ok b e' := by
  cases m with
  | ok a e => exact ⟨a, e, rfl, h⟩
  | exc _ _ => cases h
  | stuck => cases h
theorem leak_ok {b : Bool} {c d : C} {e e' : Mi.Env} (h : Mi.leak b c e = .ok d e') : d = c ∧ e' = e := by
  unfold Mi.leak at h
  split at h
  · cases h
  · cases h; exact ⟨rfl, rfl⟩
theorem evs_len : ∀ (ms : List ME) {e e' : Mi.Env} {cs : List C}, evs P ms e = .ok cs e' → cs.length = ms.length
  | [], e, e', cs, h => by rw [evs] at h; cases h; rfl
  | a :: r, e, e', cs, h => by
    rw [evs] at h
    obtain ⟨c, e1, h1, h⟩ := bind_ok h
    obtain ⟨c2, e2, h2, h⟩ := bind_ok h
    obtain ⟨ds, e3, h3, h⟩ := bind_ok h
    cases h
    rw [List.length_cons, evs_len r h3, List.length_cons]
theorem rcs_len {H : Hp} {cs : List C} {vs : List V} {F : List Addr} (r : RCs T H cs vs F) : cs.length = vs.length := rcs_length r
theorem E_lst {es : List ME} {eas : List Expr} {pos : Pos} (hn : es.length ≤ 1000) (h : PA X eas (TAs T W P es)) : PE X (.List eas pos) (TE' T W P (.lst es)) := by
  refine PE.imp (pe_lst h) fun σ H Q ⟨e, fp, R, hq⟩ => ?_
  rw [ev] at hq
  refine TrA.step (sp0 R) hq fun cs e1 vs H1 fp1 F1 h1 V1 hq => ?_
  refine ⟨by rw [← rcs_length V1.rc, evs_len es h1, sizeLine_eq]; omega, fun p hp => ?_⟩
  have sn := stp_new (o := .lst vs) hp
  have kn := keep_new (o := .lst vs) hp
  have rc2 := V1.rc.stp kn sn (fun a m => fun z => z)
  have nF : p ∉ F1 := fun m => by obtain ⟨u, eu, _⟩ := V1.rc.cell p m; rw [hp] at eu; cases eu
  have sp2 := V1.sp.laid kn sn
  have t2 := Tmp.laid V1.sp (F := [p]) (List.nodup_cons.mpr ⟨fun m => (nomatch m), .nil⟩) fun x m => by rw [List.mem_singleton] at m; rw [m]; exact hp
  refine hq (.ref p) _ fp1 (p :: F1) ⟨by exact sp2, .lst upd_same rc2, fun _ => ?_⟩
  have t1 := V1.tm
  refine ⟨List.nodup_cons.mpr ⟨nF, t1.nod⟩, fun a m => ?_, fun a m => ?_, fun z a m => ?_⟩
  · rcases List.mem_cons.mp m with q | q
    · rw [q]; exact t2.out p (List.mem_singleton_self p)
    · exact t1.out a q
  · rcases List.mem_cons.mp m with q | q
    · rw [q]; exact t2.sub p (List.mem_singleton_self p)
    · exact t1.sub a q
  · rcases List.mem_cons.mp m with q | q
    · rw [q]; exact t2.pur (by simpa [pur] using z) p (List.mem_singleton_self p)
    · exact t1.pur (by simpa [pur] using z) a q
theorem E_tup {es : List ME} {eas : List Expr} {x1 : Nat} {pos : Pos} (hn : es.length ≤ 1000) (h : PA X eas (TAs T W P es)) : PE X (.Tuple eas x1 pos) (TE' T W P (.tup es)) := by
  refine PE.imp (pe_tup h) fun σ H Q ⟨e, fp, R, hq⟩ => ?_
  rw [ev] at hq
  refine TrA.step (sp0 R) hq fun cs e1 vs H1 fp1 F1 h1 V1 hq => ?_
  refine ⟨by rw [← rcs_length V1.rc, evs_len es h1, sizeLine_eq]; omega, fun p hp => ?_⟩
  have sn := stp_new (o := .tup vs) hp
  have kn := keep_new (o := .tup vs) hp
  have rc2 := V1.rc.stp kn sn (fun a m => fun z => z)
  have sp2 := V1.sp.laid kn sn
  have hup : SqT T.K (upd H1 p (.tup vs)) p vs := .inl (.inl upd_same)
  refine hq (.ref p) _ fp1 F1 ⟨by exact sp2, ?_, fun _ => ?_⟩
  · unfold Mi.mkTup
    cases hv : Mi.allVal cs with
    | some ds =>
      obtain ⟨rd, rfl⟩ := allVal_rd rc2 hv
      exact .val (.tup hup rd)
    | none => exact .tup hup rc2
  · exact ⟨V1.tm.nod, V1.tm.out, V1.tm.sub, fun z => V1.tm.pur (by simpa [pur] using z)⟩
end
end MiS
namespace MiS
open PySem PySem.Spec PyProof.Rows L2
open Mi (D C ME MS ev evs evP evA evAnd evOr evC bor pur purs)
section
variable {X : Cx} {T : Tb} {W : WX} {P : Mi.Pr}
theorem hold_lk2 {T : Tb} {W : WX} {σ : L2.St} {H H1 : Hp} {O : Addr → Prop} {p : Bool} {e1 : Mi.Env} {fp1 : Nat → List Addr} {α : Type} {ok : α → Mi.Env → Prop} {b q : Bool} {c : C} {v : V} {F : List Addr} {g : C → Mi.Env → Mi.Res α} {R : Hp → Prop} {H0 : Hp} {O0 : Addr → Prop} (x : Val T σ H O b p e1 c v H1 fp1 F)
    (hq : FinG T W σ H0 O0 ok ((Mi.hold b q c e1).bind g)) (k : ∀ c' H2 F', Held T σ H O p q e1 c' v H2 fp1 F' → (b = false → F' = []) → FinG T W σ H0 O0 ok (g c' e1) → R H2) : LkQ R H1 := by
  cases b with
  | true => exact hold_lk x hq fun c' H2 F' h => k c' H2 F' h fun z => by cases z
  | false =>
    have t := x.tm rfl
    unfold Mi.hold at hq
    rw [if_neg Bool.false_ne_true] at hq
    refine RC.lock c x.rc t.nod fun H2 rd z => k (.val c.frz) H2 [] ⟨?_, .val rd, .inl rfl⟩ (fun _ => rfl) hq
    have kp := z.stp.keep fun a m => x.rc.cell a m
    have re2 : RE T H2 e1 σ fp1 := x.sp.re.keep kp fun a ha u e => z.stp a u e fun m => t.out a m ha
    refine ⟨re2, x.sp.sub, fun b o e n => ?_, x.sp.keep.trans kp, fun hp b o e n => ?_⟩
    · refine z.stp b o (x.sp.stp b o e n) fun m => ?_
      rcases t.sub b m with h | h
      · exact n h
      · rw [h] at e; cases e
    · refine z.stp b o (x.sp.pure hp b o e n) fun m => ?_
      rw [t.pur hp b m] at e; cases e
theorem rdOf {H : Hp} {d : D} {v : V} {F : List Addr} (r : RC T H (.val d) v F) : RD T H d v ∧ F = [] := by cases r with | val h => exact ⟨h, rfl⟩
theorem E_sub (hK : T.K = X.K) (hu : X.A.units + 64 < cLine) {a b : ME} {ea eb : Expr} {pos : Pos} (hs : PlainIx eb) (ha : PE X ea (TE' T W P a)) (hb : PE X eb (TE' T W P b)) : PE X (.Subscript ea eb pos) (TE' T W P (.sub a b)) := by
  refine PE.imp (pe_ix (ix_sub hK hu) (PE.lk ha) hb hs) fun σ H Q ⟨e, fp, R, hq⟩ => ?_
  rw [ev] at hq
  refine Tr.step (sp0 R) hq fun c e1 v1 H1 fp1 F1 h1 V1 hq => ?_
  refine hold_lk2 V1 hq fun c' H2 F2 h2 hf hq => ?_
  refine Tr.step h2.sp hq fun d e2 v2 H3 fp2 F3 h3 V2 hq => ?_
  split at hq
  · obtain ⟨z, hz, q⟩ := FinG.opt hq
    refine ⟨c', F2, _, z, h2.next V2.sp id, (rdOf V2.rc).1, hz, fun v G rg sg => q v H3 fp2 G ⟨h2.sp.trans V2.sp, rg, fun hb => ?_⟩⟩
    have : G = [] := by
      have e := hf hb
      subst e
      cases G with
      | nil => rfl
      | cons x _ => exact nomatch sg x List.mem_cons_self
    subst this
    exact .nil
  · exact hq.elim
theorem T_gen (hK : T.K = X.K) {a : ME} {ea : Expr} (he : ∀ whole, isTrue ea X.env whole = (do let v ← whole; standAt ea.pos; holding [v] (truthy v))) (ha : PE X ea (TE' T W P a)) : PE X ea (TE' T W P a) ∧ PT X ea (TT' T W P a) := ⟨ha, T_val hK ha he⟩
/-! ### slices -/
theorem E_slL (hK : T.K = X.K) {a b : ME} {ea eb : Expr} {p2 pos : Pos} (ha : PE X ea (TE' T W P a)) (hb : PE X eb (TE' T W P b)) : PE X (.Subscript ea (.Slice (some eb) none none p2) pos) (TE' T W P (.slL a b)) := by
  refine PE.imp (pe_slice (sl_slc hK) (PE.lk ha) (po_some hb) po_none) fun σ H Q ⟨e, fp, R, hq⟩ => ?_
  rw [ev] at hq
  refine Tr.step (sp0 R) hq fun c e1 v1 H1 fp1 F1 h1 V1 hq => ?_
  refine hold_lk2 V1 hq fun c' H2 F2 h2 hf hq => ?_
  refine Tr.step h2.sp hq fun d e2 v2 H3 fp2 F3 h3 V2 hq => ?_
  split at hq
  · obtain ⟨z, hz, q⟩ := FinG.opt hq
    cases rcInt V2.rc
    exact ⟨_, rfl, c', F2, z, h2.next V2.sp id, hz, fin_new (h2.sp.trans V2.sp) q⟩
  · exact hq.elim
theorem E_slH (hK : T.K = X.K) {a b : ME} {ea eb : Expr} {p2 pos : Pos} (ha : PE X ea (TE' T W P a)) (hb : PE X eb (TE' T W P b)) : PE X (.Subscript ea (.Slice none (some eb) none p2) pos) (TE' T W P (.slH a b)) := by
  refine PE.imp (pe_slice (sl_slc hK) (PE.lk ha) po_none (po_some hb)) fun σ H Q ⟨e, fp, R, hq⟩ => ?_
  rw [ev] at hq
  refine Tr.step (sp0 R) hq fun c e1 v1 H1 fp1 F1 h1 V1 hq => ?_
  refine hold_lk2 V1 hq fun c' H2 F2 h2 hf hq => ?_
  refine Tr.step h2.sp hq fun d e2 v2 H3 fp2 F3 h3 V2 hq => ?_
  split at hq
  · obtain ⟨z, hz, q⟩ := FinG.opt hq
    cases rcInt V2.rc
    exact ⟨_, rfl, c', F2, z, h2.next V2.sp id, hz, fin_new (h2.sp.trans V2.sp) q⟩
  · exact hq.elim
theorem E_slB (hK : T.K = X.K) {a b c : ME} {ea eb ec : Expr} {p2 pos : Pos} (ha : PE X ea (TE' T W P a)) (hb : PE X eb (TE' T W P b)) (hc : PE X ec (TE' T W P c)) : PE X (.Subscript ea (.Slice (some eb) (some ec) none p2) pos) (TE' T W P (.slB a b c)) := by
  refine PE.imp (pe_slice (sl_slc hK) (PE.lk ha) (po_some hb) (po_some hc)) fun σ H Q ⟨e, fp, R, hq⟩ => ?_
  rw [ev] at hq
  refine Tr.step (sp0 R) hq fun c e1 v1 H1 fp1 F1 h1 V1 hq => ?_
  refine hold_lk2 V1 hq fun c' H2 F2 h2 hf hq => ?_
  refine Tr.step h2.sp hq fun d e2 v2 H3 fp2 F3 h3 V2 hq => ?_
  split at hq
  · rename_i i
    cases rcInt V2.rc
    refine ⟨i, rfl, ?_⟩
    refine Tr.step (h2.sp.trans V2.sp) hq fun z e3 v3 H4 fp3 F4 h4 V3 hq => ?_
    split at hq
    · rename_i j
      obtain ⟨z, hz, q⟩ := FinG.opt hq
      cases rcInt V3.rc
      have r1 : RC T H4 c' v1 F2 := by
        rcases h2.hd with e | e
        · subst e
          exact (h2.rc.stp V2.sp.keep V2.sp.stp fun _ m => nomatch m).stp V3.sp.keep V3.sp.stp fun _ m => nomatch m
        · rw [Bool.and_eq_true] at e
          exact (h2.rc.stp V2.sp.keep (V2.sp.pure e.1) fun _ _ z => z).stp V3.sp.keep (V3.sp.pure e.2) fun _ _ z => z
      exact ⟨j, rfl, c', F2, z, r1, hz, fin_new ((h2.sp.trans V2.sp).trans V3.sp) q⟩
    · exact hq.elim
  · exact hq.elim
theorem E_rev (hK : T.K = X.K) {a : ME} {ea : Expr} {k : Nat} {p1 p2 p3 pos : Pos} (ha : PE X ea (TE' T W P a)) : PE X (.Subscript ea (.Slice none none (some (.UnaryOp .USub (.Constant (.int 1) k p1) p2)) p3) pos) (TE' T W P (.rev a)) := by
  refine PE.imp (pe_revL ha) fun σ H Q ⟨e, fp, R, hq⟩ => ?_
  rw [ev] at hq
  refine Tr.step (sp0 R) hq fun c e1 v1 H1 fp1 F1 h1 V1 hq => ?_
  obtain ⟨z, hz, q⟩ := FinG.opt hq
  rw [Option.map_eq_some_iff] at hz
  obtain ⟨ds, hz, rfl⟩ := hz
  obtain ⟨l, xs, rfl, sq, rd⟩ := asL_sq V1.rc hz
  exact ⟨l, xs, rfl, by rw [← hK]; exact sq, fun p hp => (fin_new V1.sp q).lst rd.rev p hp⟩
/-! ### chains -/
theorem E_chn (hK : T.K = X.K) (hu : X.A.units + 64 < cLine) {o o' : Mi.Cop} {a b c : ME} {ea eb ec : Expr} {pos : Pos} (hm : lastMarks [trC o, trC o'] [eb, ec] = false) (ha : PE X ea (TE' T W P a)) (hb : PE X eb (TE' T W P b)) (hc : PE X ec (TE' T W P c)) :
    PE X (.Compare ea [trC o, trC o'] [eb, ec] pos) (TE' T W P (.chn o o' a b c)) ∧ PT X (.Compare ea [trC o, trC o'] [eb, ec] pos) (TT' T W P (.chn o o' a b c)) := by
  have main : ∀ (σ : L2.St) (H : Hp) (e : Mi.Env) (fp : Nat → List Addr) (R : RE T H e σ fp) (ok : C → Mi.Env → Prop) (Q : VK) (hq : FinG T W σ H (own fp) ok (ev P (.chn o o' a b c) e)), (∀ r e' H' fp', ok (.val (.bl r)) e' → Sp1 T σ H (own fp) (pur (.chn o o' a b c)) H' e' fp' → Q (.bl r) H') → tChain (rCmp T o) (rCmp T o') (TE' T W P a) (TE' T W P b) (TE' T W P c) σ H Q := by
    intro σ H e fp R ok Q hq hk
    rw [ev] at hq
    refine Tr.step (sp0 R) hq fun x e1 v1 H1 fp1 F1 h1 V1 hq => ?_
    refine Tr.step V1.sp hq fun y e2 v2 H2 fp2 F2 h2 V2 hq => ?_
    split at hq
    · rename_i dx dy
      obtain ⟨r1, f1⟩ := rdOf V1.rc
      obtain ⟨r2, f2⟩ := rdOf V2.rc
      obtain ⟨r, hr, hq⟩ := FinG.ofOpt hq
      refine ⟨_, _, _, _, r, .val (r1.keep V2.sp.keep), .val r2, hr, r, rfl, ?_⟩
      cases r with
      | true =>
        rw [if_pos rfl] at hq ⊢
        refine Tr.step (V1.sp.trans V2.sp) hq fun z e3 v3 H3 fp3 F3 h3 V3 hq => ?_
        obtain ⟨w, hw, q⟩ := FinG.opt hq
        rw [Option.map_eq_some_iff] at hw
        obtain ⟨r', hr', rfl⟩ := hw
        exact ⟨_, _, _, _, r', .val (r2.keep V3.sp.keep), V3.rc, hr', hk r' e3 H3 fp3 q ((V1.sp.trans V2.sp).trans V3.sp)⟩
      | false =>
        rw [if_neg Bool.false_ne_true] at hq ⊢
        exact hk false e2 H2 fp2 hq ((V1.sp.trans V2.sp).weak fun z => by simp only [pur, Bool.and_eq_true] at z; rw [z.1.1, z.1.2]; rfl)
    · exact hq.elim
  refine ⟨PE.imp (pe_chain (op_cmp hK hu o) (op_cmp hK hu o') ha hb hc hm) fun σ H Q ⟨e, fp, R, hq⟩ => main σ H e fp R _ Q hq fun r e' H' fp' q s => fin_sc s q (.bl r), PT.imp (pt_chain (op_cmp hK hu o) (op_cmp hK hu o') ha hb hc hm) fun σ H Q ⟨e, fp, R, hq⟩ => main σ H e fp R _ _ hq fun r e' H' fp' q s => ?_⟩
  obtain ⟨b', hb', q⟩ := q
  simp only [Mi.truth, Option.some.injEq] at hb'
  subst hb'
  exact ⟨r, rfl, q _ _ s⟩
/-! ### and, or -/
/-- what holds of and: lists -/
def trAnd (T : Tb) (W : WX) (m : Mi.Env → Mi.Res C) (p : Bool) : TE := Tr T W m true p
theorem Val.up {T : Tb} {σ : L2.St} {H H1 H2 : Hp} {O : Addr → Prop} {p0 p b : Bool} {e1 e2 : Mi.Env} {fp1 fp2 : Nat → List Addr} {c : C} {v : V} {F : List Addr} (s : Sp1 T σ H O p0 H1 e1 fp1) (x : Val T σ H1 (own fp1) b p e2 c v H2 fp2 F) {q : Bool} (h : q = true → p0 = true ∧ p = true) : Val T σ H O true q e2 c v H2 fp2 F :=
  ⟨(s.trans x.sp).weak fun z => by rw [(h z).1, (h z).2]; rfl, x.rc, fun z => by cases z⟩
theorem E_and1 {a : ME} {ea : Expr} {pos : Pos} (ha : PE X ea (TE' T W P a)) : PE X (.BoolOp .And [ea] pos) (Tr T W (evAnd P [a]) true (purs [a])) := by
  refine PE.imp (pe_one ha) fun σ H Q ⟨e, fp, R, hq⟩ => ⟨e, fp, R, ?_⟩
  rw [evAnd] at hq
  cases h : ev P a e with
  | ok c e1 =>
    rw [h] at hq
    exact fun v H2 fp2 F x => hq v H2 fp2 F ⟨x.sp.weak fun z => by simpa [purs] using z, x.rc, fun z => by cases z⟩
  | exc n e1 => rw [h] at hq; exact hq
  | stuck => rw [h] at hq; exact hq
theorem E_or1 {a : ME} {ea : Expr} {pos : Pos} (ha : PE X ea (TE' T W P a)) : PE X (.BoolOp .Or [ea] pos) (Tr T W (evOr P [a]) true (purs [a])) := by
  refine PE.imp (pe_one ha) fun σ H Q ⟨e, fp, R, hq⟩ => ⟨e, fp, R, ?_⟩
  rw [evOr] at hq
  cases h : ev P a e with
  | ok c e1 =>
    rw [h] at hq
    exact fun v H2 fp2 F x => hq v H2 fp2 F ⟨x.sp.weak fun z => by simpa [purs] using z, x.rc, fun z => by cases z⟩
  | exc n e1 => rw [h] at hq; exact hq
  | stuck => rw [h] at hq; exact hq
/-- the tail of a row of things -/
theorem Tr.tail {T : Tb} {W : WX} {σ : L2.St} {H H1 : Hp} {O : Addr → Prop} {p0 p1 p : Bool} {e1 : Mi.Env} {fp1 : Nat → List Addr} {m : Mi.Env → Mi.Res C} {Q : VK} (s : Sp1 T σ H O p0 H1 e1 fp1) (hp : p = true → p0 = true ∧ p1 = true) (hq : FinG T W σ H O (VQ T σ H O true p Q) (m e1)) : Tr T W m true p1 σ H1 Q := by
  refine ⟨e1, fp1, s.re, ?_⟩
  cases h : m e1 with
  | ok c e2 => rw [h] at hq; exact fun v H2 fp2 F x => hq v H2 fp2 F (Val.up s x hp)
  | exc n e2 => rw [h] at hq; exact fun H2 fp2 x => hq H2 fp2 ((s.trans x).weak fun z => by cases z)
  | stuck => rw [h] at hq; exact hq
theorem E_andC {a b : ME} {r : List ME} {ea eb : Expr} {er : List Expr} {pos : Pos} (ha : PE X ea (TE' T W P a)) (hb : PE X (.BoolOp .And (eb :: er) pos) (Tr T W (evAnd P (b :: r)) true (purs (b :: r)))) : PE X (.BoolOp .And (ea :: eb :: er) pos) (Tr T W (evAnd P (a :: b :: r)) true (purs (a :: b :: r))) := by
  refine PE.imp (pe_and ha hb) fun σ H Q ⟨e, fp, R, hq⟩ => ?_
  rw [evAnd] at hq
  · refine Tr.step (sp0 R) hq fun c e1 v1 H1 fp1 F1 h1 V1 hq => ?_
    split at hq
    · cases rcBl V1.rc
      refine ⟨true, rfl, ?_⟩
      rw [if_pos rfl]
      exact Tr.tail V1.sp (fun z => by rw [purs, Bool.and_eq_true] at z; exact z) hq
    · cases rcBl V1.rc
      refine ⟨false, rfl, ?_⟩
      rw [if_neg Bool.false_ne_true]
      exact hq _ H1 fp1 [] ⟨V1.sp.weak fun z => by rw [purs, Bool.and_eq_true] at z; exact z.1, .val (.bl _), fun z => by cases z⟩
    · exact hq.elim
  · intro z; cases z
theorem E_orC {a b : ME} {r : List ME} {ea eb : Expr} {er : List Expr} {pos : Pos} (ha : PE X ea (TE' T W P a)) (hb : PE X (.BoolOp .Or (eb :: er) pos) (Tr T W (evOr P (b :: r)) true (purs (b :: r)))) : PE X (.BoolOp .Or (ea :: eb :: er) pos) (Tr T W (evOr P (a :: b :: r)) true (purs (a :: b :: r))) := by
  refine PE.imp (pe_or ha hb) fun σ H Q ⟨e, fp, R, hq⟩ => ?_
  rw [evOr] at hq
  · refine Tr.step (sp0 R) hq fun c e1 v1 H1 fp1 F1 h1 V1 hq => ?_
    split at hq
    · cases rcBl V1.rc
      refine ⟨true, rfl, ?_⟩
      rw [if_pos rfl]
      exact hq _ H1 fp1 [] ⟨V1.sp.weak fun z => by rw [purs, Bool.and_eq_true] at z; exact z.1, .val (.bl _), fun z => by cases z⟩
    · cases rcBl V1.rc
      refine ⟨false, rfl, ?_⟩
      rw [if_neg Bool.false_ne_true]
      exact Tr.tail V1.sp (fun z => by rw [purs, Bool.and_eq_true] at z; exact z) hq
    · exact hq.elim
  · intro z; cases z
/-! tests -/
theorem PW.imp {e : Expr} {t t' : TT} (h : PW X e t) (i : ∀ σ H Q, t' σ H Q → t σ H Q) : PW X e t' := ⟨fun wh pins s σ H Q I q => h.run wh pins s σ H Q I (i σ H Q q)⟩
theorem TrT.weak {T : Tb} {W : WX} {m m' : Mi.Env → Mi.Res C} {p p' : Bool} (hm : ∀ e, m' e = m e) (hp : p' = true → p = true) {σ : L2.St} {H : Hp} {Q : Bool → Hp → Prop} (h : TrT T W m' p' σ H Q) : TrT T W m p σ H Q := by
  obtain ⟨e, fp, R, hq⟩ := h
  refine ⟨e, fp, R, ?_⟩
  rw [hm] at hq
  cases h : m e with
  | ok c e1 =>
    rw [h] at hq
    obtain ⟨b, hb, q⟩ := hq
    exact ⟨b, hb, fun H2 fp2 x => q H2 fp2 (x.weak hp)⟩
  | exc n e1 => rw [h] at hq; exact hq
  | stuck => rw [h] at hq; exact hq
theorem T_and1 {a : ME} {ea : Expr} {pos : Pos} (ha : PT X ea (TT' T W P a)) : PW X (.BoolOp .And [ea] pos) (TrT T W (evAnd P [a]) (purs [a])) :=
  PW.imp (pw_and1 ha) fun σ H Q h => TrT.weak (fun e => by rw [evAnd]) (fun z => by simpa [purs] using z) h
theorem T_or1 {a : ME} {ea : Expr} {pos : Pos} (ha : PT X ea (TT' T W P a)) : PW X (.BoolOp .Or [ea] pos) (TrT T W (evOr P [a]) (purs [a])) :=
  PW.imp (pw_or1 ha) fun σ H Q h => TrT.weak (fun e => by rw [evOr]) (fun z => by simpa [purs] using z) h
theorem TrT.tail {T : Tb} {W : WX} {σ : L2.St} {H H1 : Hp} {O : Addr → Prop} {p0 p1 p : Bool} {e1 : Mi.Env} {fp1 : Nat → List Addr} {m : Mi.Env → Mi.Res C} {Q : Bool → Hp → Prop} (s : Sp1 T σ H O p0 H1 e1 fp1) (hp : p = true → p0 = true ∧ p1 = true) (hq : FinG T W σ H O (fun c e' => ∃ b, Mi.truth c = some b ∧ ∀ H' fp', Sp1 T σ H O p H' e' fp' → Q b H') (m e1)) : TrT T W m p1 σ H1 Q := by
  refine ⟨e1, fp1, s.re, ?_⟩
  cases h : m e1 with
  | ok c e2 =>
    rw [h] at hq
    obtain ⟨b, hb, q⟩ := hq
    exact ⟨b, hb, fun H2 fp2 x => q H2 fp2 ((s.trans x).weak fun z => by rw [(hp z).1, (hp z).2]; rfl)⟩
  | exc n e2 => rw [h] at hq; exact fun H2 fp2 x => hq H2 fp2 ((s.trans x).weak fun z => by cases z)
  | stuck => rw [h] at hq; exact hq
/-- a test's outcome first -/
theorem TrT.first {T : Tb} {W : WX} {α : Type} {σ : L2.St} {H H1 : Hp} {O : Addr → Prop} {p0 p1 : Bool} {e1 : Mi.Env} {fp1 : Nat → List Addr} {ok : α → Mi.Env → Prop} {m : Mi.Env → Mi.Res C} {g : C → Mi.Env → Mi.Res α} {Q1 : Bool → Hp → Prop} (s : Sp1 T σ H O p0 H1 e1 fp1)
    (hq : FinG T W σ H O ok ((m e1).bind g)) (hg : ∀ c e, FinG T W σ H O ok (g c e) → ∃ b, c = .val (.bl b))
    (k : ∀ b e2 H2 fp2, Sp1 T σ H1 (own fp1) p1 H2 e2 fp2 → FinG T W σ H O ok (g (.val (.bl b)) e2) → Q1 b H2) : TrT T W m p1 σ H1 Q1 := by
  refine ⟨e1, fp1, s.re, ?_⟩
  cases h : m e1 with
  | ok c e2 =>
    rw [h] at hq
    obtain ⟨b, rfl⟩ := hg c e2 hq
    exact ⟨b, rfl, fun H2 fp2 x => k b e2 H2 fp2 x hq⟩
  | exc n e2 => rw [h] at hq; exact fun H2 fp2 x => hq H2 fp2 ((s.trans x).weak fun z => by cases z)
  | stuck => rw [h] at hq; exact hq
theorem T_andC {a b : ME} {r : List ME} {ea eb : Expr} {er : List Expr} {pos : Pos} (ha : PT X ea (TT' T W P a)) (hb : PW X (.BoolOp .And (eb :: er) pos) (TrT T W (evAnd P (b :: r)) (purs (b :: r)))) : PW X (.BoolOp .And (ea :: eb :: er) pos) (TrT T W (evAnd P (a :: b :: r)) (purs (a :: b :: r))) := by
  refine PW.imp (pw_and ha hb) fun σ H Q ⟨e, fp, R, hq⟩ => ?_
  rw [evAnd] at hq
  · refine TrT.first (sp0 R) hq (fun c e h => ?_) fun t e1 H1 fp1 V1 hq => ?_
    · split at h
      · exact ⟨_, rfl⟩
      · exact ⟨_, rfl⟩
      · exact h.elim
    · cases t with
      | true =>
        rw [if_pos rfl]
        exact TrT.tail V1 (fun z => by rw [purs, Bool.and_eq_true] at z; exact z) hq
      | false =>
        rw [if_neg Bool.false_ne_true]
        obtain ⟨b', hb', q⟩ := hq
        simp only [Mi.truth, Option.some.injEq] at hb'
        subst hb'
        exact q H1 fp1 (V1.weak fun z => by rw [purs, Bool.and_eq_true] at z; exact z.1)
  · intro z; cases z
theorem T_orC {a b : ME} {r : List ME} {ea eb : Expr} {er : List Expr} {pos : Pos} (ha : PT X ea (TT' T W P a)) (hb : PW X (.BoolOp .Or (eb :: er) pos) (TrT T W (evOr P (b :: r)) (purs (b :: r)))) : PW X (.BoolOp .Or (ea :: eb :: er) pos) (TrT T W (evOr P (a :: b :: r)) (purs (a :: b :: r))) := by
  refine PW.imp (pw_or ha hb) fun σ H Q ⟨e, fp, R, hq⟩ => ?_
  rw [evOr] at hq
  · refine TrT.first (sp0 R) hq (fun c e h => ?_) fun t e1 H1 fp1 V1 hq => ?_
    · split at h
      · exact ⟨_, rfl⟩
      · exact ⟨_, rfl⟩
      · exact h.elim
    · cases t with
      | false =>
        rw [if_neg Bool.false_ne_true]
        exact TrT.tail V1 (fun z => by rw [purs, Bool.and_eq_true] at z; exact z) hq
      | true =>
        rw [if_pos rfl]
        obtain ⟨b', hb', q⟩ := hq
        simp only [Mi.truth, Option.some.injEq] at hb'
        subst hb'
        exact q H1 fp1 (V1.weak fun z => by rw [purs, Bool.and_eq_true] at z; exact z.1)
  · intro z; cases z
end
end MiS
namespace MiS
open PySem PySem.Spec PyProof.Rows L2
open Mi (D C ME MS ev evs evP evA evAnd evOr evC bor pur purs)
/-! a list that is only looked at while an expression runs -/
mutual
theorem same_eq : ∀ (x y : D), D.same x y = true → x = y
  | .non, .non, _ => rfl
  | .bl a, .bl b, h => by rw [beq_iff_eq.mp (show (a == b) = true from h)]
  | .int a, .int b, h => by rw [beq_iff_eq.mp (show (a == b) = true from h)]
  | .str a, .str b, h => by rw [beq_iff_eq.mp (show (a == b) = true from h)]
  | .tup a, .tup b, h => by rw [sames_eq a b h]
  | .lst a, .lst b, h => by rw [sames_eq a b h]
  | .dct a c, .dct b d, h => by
    have h := (Bool.and_eq_true _ _).mp (show (D.sames a b && D.sames c d) = true from h)
    rw [sames_eq a b h.1, sames_eq c d h.2]
  | .obj a c d, .obj b f g, h => by
    have h := (Bool.and_eq_true _ _).mp (show (a == b && c == f && D.sames d g) = true from h)
    have h1 := (Bool.and_eq_true _ _).mp h.1
    rw [beq_iff_eq.mp h1.1, beq_iff_eq.mp h1.2, sames_eq d g h.2]
  | .exc a, .exc b, h => by rw [beq_iff_eq.mp (show (a == b) = true from h)]
  | .non, .bl _, h | .non, .int _, h | .non, .str _, h | .non, .tup _, h | .non, .lst _, h | .non, .dct _ _, h | .non, .obj _ _ _, h | .non, .exc _, h => by cases h
  | .bl _, .non, h | .bl _, .int _, h | .bl _, .str _, h | .bl _, .tup _, h | .bl _, .lst _, h | .bl _, .dct _ _, h | .bl _, .obj _ _ _, h | .bl _, .exc _, h => by cases h
  | .int _, .non, h | .int _, .bl _, h | .int _, .str _, h | .int _, .tup _, h | .int _, .lst _, h | .int _, .dct _ _, h | .int _, .obj _ _ _, h | .int _, .exc _, h => by cases h
  | .str _, .non, h | .str _, .bl _, h | .str _, .int _, h | .str _, .tup _, h | .str _, .lst _, h | .str _, .dct _ _, h | .str _, .obj _ _ _, h | .str _, .exc _, h => by cases h
  | .tup _, .non, h | .tup _, .bl _, h | .tup _, .int _, h | .tup _, .str _, h | .tup _, .lst _, h | .tup _, .dct _ _, h | .tup _, .obj _ _ _, h | .tup _, .exc _, h => by cases h
  | .lst _, .non, h | .lst _, .bl _, h | .lst _, .int _, h | .lst _, .str _, h | .lst _, .tup _, h | .lst _, .dct _ _, h | .lst _, .obj _ _ _, h | .lst _, .exc _, h => by cases h
  | .dct _ _, .non, h | .dct _ _, .bl _, h | .dct _ _, .int _, h | .dct _ _, .str _, h | .dct _ _, .tup _, h | .dct _ _, .lst _, h | .dct _ _, .obj _ _ _, h | .dct _ _, .exc _, h => by cases h
  | .obj _ _ _, .non, h | .obj _ _ _, .bl _, h | .obj _ _ _, .int _, h | .obj _ _ _, .str _, h | .obj _ _ _, .tup _, h | .obj _ _ _, .lst _, h | .obj _ _ _, .dct _ _, h | .obj _ _ _, .exc _, h => by cases h
  | .exc _, .non, h | .exc _, .bl _, h | .exc _, .int _, h | .exc _, .str _, h | .exc _, .tup _, h | .exc _, .lst _, h | .exc _, .dct _ _, h | .exc _, .obj _ _ _, h => by cases h
theorem sames_eq : ∀ (x y : List D), D.sames x y = true → x = y
  | [], [], _ => rfl
  | a :: as, b :: bs, h => by
    have h := (Bool.and_eq_true _ _).mp (show (D.same a b && D.sames as bs) = true from h)
    rw [same_eq a b h.1, sames_eq as bs h.2]
  | [], _ :: _, h => by cases h
  | _ :: _, [], h => by cases h
end
section
variable {T : Tb} {H : Hp} {d : Addr} {od : Obj} {ws : List V}
theorem upd_tup {a : Addr} {vs : List V} (hd : H d = some (.frz od (.lst ws))) (h : SqT T.K H a vs) : SqT T.K (upd H d (.lst ws)) a vs := by
  rcases h with (h | ⟨o, h⟩) | h
  · exact .inl (.inl (by rw [upd_ne (fun z => by rw [z, hd] at h; cases h)]; exact h))
  · exact .inl (.inr ⟨o, by rw [upd_ne (fun z => by rw [z, hd] at h; cases h)]; exact h⟩)
  · exact .inr h
mutual
theorem RD.unl (hd : H d = some (.frz od (.lst ws))) : ∀ {x : D} {v : V}, x.nolist = true → RD T H x v → RD T (upd H d (.lst ws)) x v
  | _, _, _, .non => .non
  | _, _, _, .bl b => .bl b
  | _, _, _, .int i => .int i
  | _, _, _, .str s h => .str s h
  | _, _, n, .tup h r => .tup (upd_tup hd h) (RDs.unl hd n r)
  | _, _, n, .lst _ _ => by cases n
  | _, _, n, .dct _ _ _ => by cases n
  | _, _, n, .obj _ _ _ _ _ => by cases n
  | _, _, _, .exc h => .exc h
theorem RDs.unl (hd : H d = some (.frz od (.lst ws))) : ∀ {x : List D} {v : List V}, D.nolists x = true → RDs T H x v → RDs T (upd H d (.lst ws)) x v
  | _, _, _, .nil => .nil
  | _, _, n, .cons h r => by
    have n := (Bool.and_eq_true _ _).mp n
    exact .cons (RD.unl hd n.1 h) (RDs.unl hd n.2 r)
end
mutual
theorem RC.unl (hd : H d = some (.frz od (.lst ws))) : ∀ {c : C} {v : V} {F : List Addr}, c.leafy = true → RC T H c v F → RC T (upd H d (.lst ws)) c v F
  | _, _, _, n, .val h => .val (RD.unl hd n h)
  | _, _, _, n, .lst h r => .lst (by rw [upd_ne (fun z => by rw [z, hd] at h; cases h)]; exact h) (RCs.unl hd n r)
  | _, _, _, n, .tup h r => .tup (upd_tup hd h) (RCs.unl hd n r)
  | _, _, _, n, .dct h k r => .dct (by rw [upd_ne (fun z => by rw [z, hd] at h; cases h)]; exact h) k (RCs.unl hd n r)
  | _, _, _, n, .obj hc h f r l => .obj hc (by rw [upd_ne (fun z => by rw [z, hd] at h; cases h)]; exact h) f (RCs.unl hd n r) l
theorem RCs.unl (hd : H d = some (.frz od (.lst ws))) : ∀ {c : List C} {v : List V} {F : List Addr}, Mi.C.leafys c = true → RCs T H c v F → RCs T (upd H d (.lst ws)) c v F
  | _, _, _, _, .nil => .nil
  | _, _, _, n, .cons h r => by
    have n := (Bool.and_eq_true _ _).mp n
    exact .cons (RC.unl hd n.1 h) (RCs.unl hd n.2 r)
end
end
theorem lkEnv_at : ∀ (e f : Mi.Env), Mi.lkEnv e f = true → ∀ (j : Nat) (c : C), f[j]? = some (some c) → c.leafy = true ∨ ∃ x, c = .val x ∧ e[j]? = some (some (.val x))
  | [], [], _, j, c, h => by cases h
  | _ :: _, [], h, _, _, _ => by cases h
  | [], none :: _, h, _, _, _ => by cases h
  | [], some _ :: _, h, _, _, _ => by cases h
  | a :: e, none :: f, h, j, c, hj => by
    cases j with
    | zero => cases hj
    | succ j => exact lkEnv_at e f h j c hj
  | a :: e, some b :: f, h, j, c, hj => by
    have h := (Bool.and_eq_true _ _).mp h
    cases j with
    | zero =>
      cases hj
      rcases (Bool.or_eq_true _ _).mp h.1 with z | z
      · exact .inl z
      · cases a with
        | none => cases z
        | some a => cases a with
          | val x => cases b with
            | val y => exact .inr ⟨y, rfl, by rw [same_eq x y z]; rfl⟩
            | _ => cases z
          | _ => cases z
    | succ j => exact lkEnv_at e f h.2 j c hj
section
variable {X : Cx} {T : Tb} {W : WX} {P : Mi.Pr}
theorem E_lk {i : Nat} {a : ME} {ea : Expr} (hb : bor a = false) (h : PE X ea (Tr T W (ev P a) (bor a) (pur a))) : PE X ea (Tr T W (ev P (.lk i a)) false false) := by
  refine PE.imp (pe_lock h) fun σ H Q ⟨e, fp, R, hq⟩ => ?_
  rw [ev] at hq
  split at hq
  · rename_i cs hi
    split at hq
    · rename_i ds hds
      obtain ⟨v, hv, rc⟩ := R.at_ i _ hi
      obtain ⟨d, vs, rfl, hd, rd, hF⟩ : ∃ d vs, v = .ref d ∧ H d = some (.lst vs) ∧ RDs T H ds vs ∧ fp i = [d] := by
        generalize hG : fp i = G at rc
        cases rc with
        | lst h r =>
          obtain ⟨r1, rfl⟩ := allVal_rd r hds
          exact ⟨_, _, rfl, h, r1, rfl⟩
      have rcs0 : RCs T H cs vs [] := by
        generalize hG : fp i = G at rc
        cases rc with
        | lst h r =>
          obtain ⟨r1, rfl⟩ := allVal_rd r hds
          rw [hd] at h
          cases h
          exact r
      refine ⟨d, .lst vs, hd, trivial, fun od => ?_⟩
      have neT : ∀ b ws, H b = some (.tup ws) → b ≠ d := fun b ws q z => by rw [z, hd] at q; cases q
      have neF : ∀ b o u, H b = some (.frz o u) → b ≠ d := fun b o u q z => by rw [z, hd] at q; cases q
      have kp : Keep H (upd H d (.frz od (.lst vs))) := ⟨fun b ws q => by rw [upd_ne (neT b ws q)]; exact q, fun b o u q => by rw [upd_ne (neF b o u q)]; exact q⟩
      have hil : i < e.length := (List.getElem?_eq_some_iff.mp hi).1
      have dO : ∀ j, j ≠ i → d ∉ fp j := fun j n m => R.dis i j d (fun z => n z.symm) (by rw [hF]; exact List.mem_singleton.mpr rfl) m
      have R0 := (R.set_none i).keep kp fun a m u q => by
        rw [upd_ne (fun z => ?_)]
        · exact q
        · obtain ⟨j, n, m'⟩ := (own_updF_nil m).2 ()
          exact dO j n (z ▸ m')
      have eF : updF (updF fp i []) i [] = updF fp i [] := by
        funext j
        unfold updF
        split <;> rfl
      have R1 := RE.set_own (c := .val (.lst ds)) (v := .ref d) (F := []) R0 (i := i) (by rw [List.length_set]; exact hil) hv (.val (.lst (.inl ⟨od, upd_same⟩) (rd.keep kp))) .nil (fun j a _ m => nomatch m)
      rw [List.set_set, eF] at R1
      refine ⟨_, _, R1, ?_⟩
      split at hq
      · rename_i c f hev
        split at hq
        · rename_i hc
          obtain ⟨hlf, hlk⟩ := (Bool.and_eq_true _ _).mp hc
          rw [hev]
          intro v H' fp' F' V
          have hd' : H' d = some (.frz od (.lst vs)) := V.sp.keep.2 _ _ _ upd_same
          refine ⟨hd', hq v (upd H' d (.lst vs)) (updF fp' i [d]) F' ?_⟩
          have K2 : Keep H (upd H' d (.lst vs)) := ⟨fun b ws q => by rw [upd_ne (neT b ws q)]; exact V.sp.keep.1 _ _ (kp.1 _ _ q), fun b o u q => by rw [upd_ne (neF b o u q)]; exact V.sp.keep.2 _ _ _ (kp.2 _ _ _ q)⟩
          have dN : ∀ j, d ∉ fp' j := fun j m => by
            obtain ⟨u, e1, mu⟩ := V.sp.re.cel j d m
            rw [hd'] at e1
            cases e1
            exact mu
          have hlen : f.length = σ.length := V.sp.re.len
          have hlen' : e.length = σ.length := R.len
          have dT : ∀ a ∈ F', a ≠ d := fun a m z => by
            subst z
            rcases (V.tm hb).sub a m with h | h
            · obtain ⟨j, n, m'⟩ := (own_updF_nil h).2 ()
              exact dO j n m'
            · rw [upd_same] at h; cases h
          refine ⟨⟨⟨?_, fun j c' hj => ?_, fun j => ?_, fun j k a n m m' => ?_, fun j a m => ?_⟩, fun a m => ?_, fun b o q n => ?_, K2, fun z => by cases z⟩, RC.unl hd' hlf V.rc, fun _ => ⟨(V.tm hb).nod, fun a m o => ?_, fun a m => ?_, fun z => by cases z⟩⟩
          · rw [List.length_set]; exact hlen
          · rw [List.getElem?_set] at hj
            by_cases z : i = j
            · subst z
              rw [if_pos rfl, if_pos (by omega)] at hj
              cases hj
              refine ⟨.ref d, hv, ?_⟩
              rw [show updF fp' i [d] i = [d] from if_pos rfl]
              exact .lst upd_same (RCs.stp K2 (G := fun _ => True) (fun _ _ _ n => (n trivial).elim) rcs0 fun _ m => nomatch m)
            · rw [if_neg z] at hj
              rw [show updF fp' i [d] j = fp' j from if_neg fun q => z q.symm]
              obtain ⟨w, e1, rc'⟩ := V.sp.re.at_ j c' hj
              rcases lkEnv_at _ _ hlk j c' (by rw [List.getElem?_set, if_neg z]; exact hj) with h | ⟨x, rfl, h⟩
              · exact ⟨w, e1, RC.unl hd' h rc'⟩
              · rw [List.getElem?_set, if_neg z] at h
                obtain ⟨w', e2, rc2⟩ := R.at_ j _ h
                rw [e1] at e2
                cases e2
                refine ⟨w, e1, ?_⟩
                generalize fp' j = G' at rc'
                cases rc'
                generalize fp j = G2 at rc2
                cases rc2 with
                | val r2 => exact .val (r2.keep K2)
          · unfold updF
            split
            · exact .cons (fun _ m => nomatch m) .nil
            · exact V.sp.re.nod j
          · unfold updF at m m'
            split at m
            · split at m'
              · rename_i h1 h2; exact n (h1.trans h2.symm)
              · rw [List.mem_singleton] at m; subst m; exact dN k m'
            · split at m'
              · rw [List.mem_singleton] at m'; subst m'; exact dN j m
              · exact V.sp.re.dis j k a n m m'
          · unfold updF at m
            split at m
            · rw [List.mem_singleton] at m; subst m; exact ⟨_, upd_same, trivial⟩
            · obtain ⟨u, e1, mu⟩ := V.sp.re.cel j a m
              exact ⟨u, by rw [upd_ne (show a ≠ d from fun z => dN j (z ▸ m))]; exact e1, mu⟩
          · obtain ⟨j, m⟩ := m
            unfold updF at m
            split at m
            · rw [List.mem_singleton] at m; subst m; exact .inl ⟨i, by rw [hF]; exact List.mem_singleton.mpr rfl⟩
            · rcases V.sp.sub a ⟨j, m⟩ with h | h
              · exact .inl (own_updF_nil h).1
              · refine .inr ?_
                rw [upd_ne (show a ≠ d from fun z => dN j (z ▸ m))] at h
                exact h
          · have nd : b ≠ d := fun z => n (z ▸ ⟨i, by rw [hF]; exact List.mem_singleton.mpr rfl⟩)
            rw [upd_ne nd]
            exact V.sp.stp b o (by rw [upd_ne nd]; exact q) fun h => n (own_updF_nil h).1
          · obtain ⟨j, m'⟩ := o
            unfold updF at m'
            split at m'
            · rw [List.mem_singleton] at m'; exact dT a m m'
            · exact (V.tm hb).out a m ⟨j, m'⟩
          · rcases (V.tm hb).sub a m with h | h
            · exact .inl (own_updF_nil h).1
            · rw [upd_ne (dT a m)] at h
              exact .inr h
        · exact hq.elim
      · exact hq.elim
    · exact hq.elim
  · exact hq.elim
end
end MiS
namespace MiS
open PySem PySem.Spec PyProof.Rows L2
open Sem (wp)
open AutoSeq1 (wpAny_loadPart')
/-! enumerate of a tuple -/
theorem meets_enum_newT (l : Addr) (items : Array Value) (n : Nat) (dct : Option Addr) (sl : Array (Option Value)) :
    Meets (Builtin.«enumerate.__new__» ⟨[.type "enumerate", .ref l], []⟩) (fun _ R s => s.heap.get? l = some { cls := .type "tuple", dict := dct, data := .seq items n, slots := sl } ∧
      R (.ok (.ret (.ref (s.heap.push { cls := .type "tuple_iterator", data := .fields #[.ref l, .int 0 0] }).objs.size)))
        { s with heap := (s.heap.push { cls := .type "tuple_iterator", data := .fields #[.ref l, .int 0 0] }).push { cls := .type "enumerate", data := .fields #[.none, .bool false, .ref s.heap.objs.size, rawInt 0, .none, .none] } }) :=
  .of_wp fun prog w A R s h => by
    obtain ⟨hp, g, d, tk, os⟩ := s; obtain ⟨hl, h⟩ := h
    have hsub := sub_enumerate
    have hL : Heap.IsTuple (Shared.heap ⟨hp, g, d, tk, os⟩) l items := ⟨_, hl, rfl, n, rfl⟩
    wp_walk using wpAny_loadPart' hl
    refine wpAny_stack_any fun st => wpAny_pure ?_
    split
    · rename_i c _ _ _ _ _
      cases (c == Value.type "enumerate")
      · wp_walk using wpAny_loadPart' hl, wpAny_pyIter_tuple hL
        exact ⟨_, rfl, h⟩
      · wp_walk using wpAny_loadPart' hl, wpAny_pyIter_tuple hL
        exact ⟨_, rfl, h⟩
    · wp_walk using wpAny_loadPart' hl, wpAny_pyIter_tuple hL
      exact ⟨_, rfl, h⟩
section
variable {prog : Program} {w : World} {A : Around} {E : Value → Shared → Prop} {s : Shared}
theorem call_enum_tup {l : Addr} {items : Array Value} {Q : Value → Shared → Prop} (hL : s.heap.IsTuple l items)
    (h : ∀ h', IsEnum h' (s.heap.objs.size + 1) s.heap.objs.size 0 .none → h'.IsTupleIter s.heap.objs.size l 0 → h'.objs.size = s.heap.objs.size + 2 →
      (∀ b o, s.heap.get? b = some o → h'.get? b = some o) → Q (.ref (s.heap.objs.size + 1)) { s with heap := h' }) :
    wpAny (model prog w) A (call (.type "enumerate") [.ref l]) Q E s := by
  obtain ⟨⟨c, dct, dt, sl⟩, hl, hc, n, hd⟩ := hL
  replace hc : c = .type "tuple" := hc
  replace hd : dt = .seq items n := hd
  subst hc hd
  refine callType_new F.called_enumerate (by decide) (F.typeCall_enumerate_1 _) (F.newCall_enumerate_1 _) (fun obj => F.args_object_init_2 obj _) F.entry_enumerate_new
    (meets_enum_newT l items n dct sl) ⟨hl, ?_⟩
  have hz : (s.heap.push { cls := .type "tuple_iterator", data := .fields #[.ref l, .int 0 0] }).objs.size = s.heap.objs.size + 1 := Heap.size_push ..
  show _ ∧ _
  rw [hz]
  have he : IsEnum ((s.heap.push { cls := .type "tuple_iterator", data := .fields #[.ref l, .int 0 0] }).push
      { cls := .type "enumerate", data := .fields #[.none, .bool false, .ref s.heap.objs.size, rawInt 0, .none, .none] }) (s.heap.objs.size + 1) s.heap.objs.size 0 .none := by
    have := Heap.get?_push_size (s.heap.push { cls := .type "tuple_iterator", data := .fields #[.ref l, .int 0 0] })
      (o := { cls := .type "enumerate", data := .fields #[.none, .bool false, .ref s.heap.objs.size, rawInt 0, .none, .none] }) rfl
    rw [hz] at this; exact this
  refine ⟨⟨_, he, rfl⟩, h _ he ⟨_, Heap.get?_push_of_some _ (Heap.get?_push_size _ rfl), rfl, rfl⟩ (by rw [Heap.size_push, hz]) fun b o x => Heap.get?_push_of_some _ (Heap.get?_push_of_some _ x)⟩
theorem drawsT (hh : A.handled = none) (it t : Addr) (hne : t ≠ it) (items : Array Value) :
    Draws prog w A it [it, t] items.size (fun i v => items[i]? = some v) (fun i h => h.IsTupleIter it t i ∧ h.IsTuple t items) where
  live := fun _ _ st => let ⟨o, ho, _⟩ := st.1; ⟨o, ho⟩
  frame := fun _ _ _ st hk => ⟨st.1.at fun o e => hk it (by simp) o e, st.2.at fun o e => hk t (by simp) o e⟩
  item := fun i s Q E hi st hQ => by
    refine RZ.nextOf_tuple_item st.1 st.2 (x := items[i]) (by simp [hi]) fun h' hit' hs' => ?_
    exact hQ _ h' s.toks (by simp [hi]) ⟨hit', st.2.extBut hs'.extBut hne⟩ hs'
  done := fun s Q E st hE => RZ.nextOf_tuple_end hh st.1 st.2 (by simp) hE
end
/-- the tuple at a as it stands at each turn, each item in a new pair -/
def IteT (K : PySem.W.Frag) (a : Addr) : It :=
  ⟨fun i H => ∃ (xs : List V) (x : V), SqT K H a xs ∧ xs[i]? = some x, fun i H v H' => ∃ T x, v = .ref T ∧ H T = none ∧ H' = upd H T (.tup [.int (i : Nat), x]) ∧ ∀ xs, SqT K H a xs → xs[i]? = some x, fun i H => ∃ xs : List V, SqT K H a xs ∧ xs.length = i⟩
theorem enumT_keep {a e it : Addr} : ∀ (i : Nat) (h h' : Heap), ((∃ old, IsEnum h e it ((i : Nat) : Int) old) ∧ h.IsTupleIter it a i ∧ e ≠ it) → (∀ b ∈ [e, it], ∀ o, h.get? b = some o → h'.get? b = some o) → (∃ old, IsEnum h' e it ((i : Nat) : Int) old) ∧ h'.IsTupleIter it a i ∧ e ≠ it := by
  intro i h h' st k
  obtain ⟨⟨old, he⟩, hi, hne⟩ := st
  exact ⟨⟨old, k e (by simp) _ he⟩, hi.at fun o q => k it (by simp) o q, hne⟩
theorem turn_enumT {P : Program} {w : World} {K : PySem.W.Frag} {elts : List Expr} {kk : Nat} {tpos : Pos} (a e it : Addr) (hat : a ≠ e) (hai : a ≠ it) :
    Turn P w K (.Tuple elts kk tpos) (IteT K a) [e, it] e (fun i h => (∃ old, IsEnum h e it ((i : Nat) : Int) old) ∧ h.IsTupleIter it a i ∧ e ≠ it) where
  mem := List.mem_cons_self
  obj := by
    intro i h ⟨⟨old, he⟩, ⟨o, ho, hc, hd⟩, _⟩ b hb
    rcases List.mem_cons.mp hb with z | z
    · subst z; exact ⟨_, he, fun v q => nomatch q⟩
    · have z := List.mem_singleton.mp z; subst z; exact ⟨o, ho, fun v q => by rw [hd] at q; cases q⟩
  keep := fun i h h' st k => enumT_keep i h h' st k
  item := by
    intro X hP hw hK hc i pins s σ H E I hf st ⟨xs, x, hq, hx⟩
    subst hP hw hK
    obtain ⟨⟨old, he⟩, hit, hne⟩ := st
    obtain ⟨its, rv, p, hz⟩ := I.tuple hq
    obtain ⟨u, hu, ru⟩ := rv.get hx
    have hel : e < s.heap.objs.size := Heap.lt_size he
    have hil : it < s.heap.objs.size := by obtain ⟨_, q, _⟩ := hit; exact Heap.lt_size q
    have hlt : i < its.toArray.size := by
      have := (List.getElem?_eq_some_iff.mp hu).1
      simpa using this
    refine wpAny_pyNext_enum_itemD (drawsT (by exact I.ok.hd hc) it a hai its.toArray) he ⟨hit, p⟩ hlt hne (by simp [hne, Ne.symm hat]) fun x' h' tk hx' ho ⟨hit', p'⟩ hT hsz hk => ?_
    have ex : x' = u := by
      have e1 : its.toArray[i]? = some u := by simpa using hu
      rw [e1] at hx'
      exact (Option.some.inj hx').symm
    subst ex
    refine ⟨_, rfl, wpAny_letOwnedTupleGo_enum (s := { s with heap := h', toks := tk + 1 }) ho fun h'' he' sb => ?_⟩
    have hT2 : h''.get? s.heap.objs.size = some { cls := .type "tuple", data := .seq #[.int i tk, x'] } := (sb.2 _ (Nat.ne_of_gt hel)).trans hT
    have kept : ∀ b ob, b ∉ [e, it] → s.heap.get? b = some ob → h''.get? b = some ob := fun b ob hb q =>
      (sb.2 b (fun z => hb (by simp [z]))).trans (hk b ob (fun z => hb (by simp [z])) (fun z => hb (by simp [z])) q)
    have new : ObjOk X.prog X.w (upd H s.heap.objs.size (.tup [.int (i : Nat), x])) h'' s.heap.objs.size (.tup [.int (i : Nat), x]) :=
      ⟨by show 2 ≤ sizeLine; decide, [.int i tk, x'], .cons ⟨_, rfl⟩ (.cons ru .nil), _, hT2, rfl, _, rfl⟩
    have I1 : Inv X pins σ (upd H s.heap.objs.size (.tup [.int (i : Nat), x])) { s with heap := h'', toks := tk + 1 } := I.turnedNew kept hf (Nat.le_refl _) new
    have nx : ((i + 1 : Nat) : Int) = (i : Int) + 1 := by omega
    refine ⟨.ref s.heap.objs.size, _, I1, rfl, ⟨_, x, rfl, I.hok.fresh (Nat.le_refl _), rfl, fun ys hy => ?_⟩, ⟨⟨x', by rw [nx]; exact he'⟩, hit'.at fun o q => (sb.2 it (Ne.symm hne)).trans q, hne⟩, fun b hb => ?_⟩
    · rw [I.tuple_inj hy hq]; exact hx
    · have hb' : b < s.heap.objs.size := by
        rcases List.mem_cons.mp hb with z | z
        · rw [z]; exact hel
        · rw [List.mem_singleton.mp z]; exact hil
      rw [upd_ne (Nat.ne_of_lt hb')]
      exact (hf b hb).1
  done := by
    intro X hP hw hK hc i pins s σ H E I hf st ⟨xs, hq, hx⟩
    subst hP hw hK
    obtain ⟨⟨old, he⟩, hit, hne⟩ := st
    obtain ⟨its, rv, p, hz⟩ := I.tuple hq
    obtain ⟨f0, f1, f2, f3, f4, f5⟩ := hf it (by simp)
    have hl := rv.length
    have hn : its.toArray.size = i := by simp; omega
    exact wpAny_pyNext_enum_endD (drawsT (by exact I.ok.hd hc) it a hai its.toArray) he (by rw [hn]; exact ⟨hit, p⟩) fun h' eb => ⟨rfl, I.turned (t' := s.toks) (fun b o hb q => eb b o hb q) f0 f1 f3 f4 f5⟩
  self := fun A i s Q E st h => let ⟨⟨_, he⟩, _⟩ := st; wpAny_pyIter_enum he h
def iEnumA (K : PySem.W.Frag) (ta : TA) : TI := fun σ H R => ta σ H fun vs H1 => ∃ a xs, vs = [.ref a] ∧ ((SqL K H1 a xs ∧ R (Ite K a) H1) ∨ (SqT K H1 a xs ∧ R (IteT K a) H1))
theorem pi_enumA {X : Cx} {e : Expr} {ta : TA} {p pos tpos : Pos} {elts : List Expr} {kk : Nat} (hg : Gl X "enumerate") (hm : X.mg "enumerate" = none) (ha : PA X [e] ta) (hs : starEach [e] X.env = [(false, eval e X.env)] := by rfl) :
    PI X (.Tuple elts kk tpos) (.Call (.Name "enumerate" p) [e] [] pos) (iEnumA X.K ta) := by
  constructor
  intro pins s σ H R I h
  refine Call_ (ld_blt I hg hm boot_enumerate (PyProof.Rows.callWith_type1 (thn (ha.run pos pins s σ H _ I h) ?_) hs rfl))
  rintro us s1 ⟨vs, H1, I1, r1, a, xs, rfl, q1⟩
  obtain ⟨u, rfl, r⟩ : ∃ u, us = [u] ∧ u = .ref a := by
    cases r1 with
    | cons r rr => cases rr; cases r; exact ⟨_, rfl, rfl⟩
  subst r
  have fr : ∀ b ∈ [s1.heap.objs.size + 1, s1.heap.objs.size], FpOk X pins H1 b := fun b hb => by
    have hle : s1.heap.objs.size ≤ b := by
      rcases List.mem_cons.mp hb with z | z
      · rw [z]; exact Nat.le_add_right _ _
      · rw [List.mem_singleton.mp z]; exact Nat.le_refl _
    exact I1.fpOk hle (I1.hok.fresh hle)
  rcases q1 with ⟨hq, q⟩ | ⟨hq, q⟩
  · obtain ⟨its, rv, p', hz⟩ := I1.list hq
    refine call_enumerate_list p'.isList fun h' he hit hsz hk => wpAny_pyIter_enum he ?_
    exact ⟨_, _, _, _, H1, rfl, I1.kept (t' := s1.toks) hk, turn_enum a _ s1.heap.objs.size, ⟨⟨.none, he⟩, hit, Nat.succ_ne_self _⟩, fr, q⟩
  · obtain ⟨its, rv, p', hz⟩ := I1.tuple hq
    have hal : a < s1.heap.objs.size := by obtain ⟨_, q, _⟩ := p'; exact Heap.lt_size q
    refine call_enum_tup p' fun h' he hit hsz hk => wpAny_pyIter_enum he ?_
    exact ⟨_, _, _, _, H1, rfl, I1.kept (t' := s1.toks) hk, turn_enumT a _ s1.heap.objs.size (Nat.ne_of_lt (Nat.lt_succ_of_lt hal)) (Nat.ne_of_lt hal), ⟨⟨.none, he⟩, hit, Nat.succ_ne_self _⟩, fr, q⟩
end MiS
namespace MiS
open PySem PySem.Spec PyProof.Rows L2
open Mi (D C ME MS ev evs evP evA evAnd evOr evC bor pur purs)
section
variable {X : Cx} {T : Tb} {W : WX} {P : Mi.Pr}
/-! ### things that are looked at, from the left -/
structure Hld (T : Tb) (σ : L2.St) (H : Hp) (O : Addr → Prop) (p q : Bool) (e' : Mi.Env) (cs : List C) (vs : List V) (H' : Hp) (fp' : Nat → List Addr) (F : List Addr) : Prop where
  sp : Sp1 T σ H O p H' e' fp'
  rc : RCs T H' cs vs F
  hd : F = [] ∨ q = true
def VQP (T : Tb) (σ : L2.St) (H : Hp) (O : Addr → Prop) (p q : Bool) (Q : List V → Hp → Prop) : List C → Mi.Env → Prop := fun cs e' => ∀ vs H' fp' F, Hld T σ H O p q e' cs vs H' fp' F → Q vs H'
def TrP (T : Tb) (W : WX) (m : Mi.Env → Mi.Res (List C)) (p q : Bool) : TA := fun σ H Q => ∃ e fp, RE T H e σ fp ∧ FinG T W σ H (own fp) (VQP T σ H (own fp) p q Q) (m e)
abbrev TPs (T : Tb) (W : WX) (P : Mi.Pr) (q : Bool) (ms : List ME) : TA := TrP T W (evP P q ms) (purs ms) q
theorem TrP.step {σ : L2.St} {H H1 : Hp} {O : Addr → Prop} {p0 p1 q : Bool} {e1 : Mi.Env} {fp1 : Nat → List Addr} {α : Type} {ok : α → Mi.Env → Prop} {m : Mi.Env → Mi.Res (List C)} {g : List C → Mi.Env → Mi.Res α} {Q1 : List V → Hp → Prop} (s : Sp1 T σ H O p0 H1 e1 fp1) (hq : FinG T W σ H O ok ((m e1).bind g))
    (k : ∀ cs e2 vs H2 fp2 F, m e1 = .ok cs e2 → Hld T σ H1 (own fp1) p1 q e2 cs vs H2 fp2 F → FinG T W σ H O ok (g cs e2) → Q1 vs H2) : TrP T W m p1 q σ H1 Q1 := by
  refine ⟨e1, fp1, s.re, ?_⟩
  cases h : m e1 with
  | ok c e2 => rw [h] at hq; exact fun v H2 fp2 F x => k c e2 v H2 fp2 F h x hq
  | exc n e2 => rw [h] at hq; exact fun H2 fp2 x => hq H2 fp2 ((s.trans x).weak fun z => by cases z)
  | stuck => rw [h] at hq; exact hq
theorem P_nil {q : Bool} : PA X [] (TPs T W P q []) := PA.imp pa_nil fun σ H Q ⟨e, fp, R, hq⟩ => by
  rw [evP] at hq
  exact hq [] H fp [] ⟨Sp1.refl R, .nil, .inl rfl⟩
theorem P_cons {q : Bool} {a : ME} {r : List ME} {ea : Expr} {er : List Expr} (hs : starEach (ea :: er) X.env = (false, eval ea X.env) :: starEach er X.env) (ha : PE X ea (TE' T W P a)) (hr : PA X er (TPs T W P q r)) : PA X (ea :: er) (TPs T W P q (a :: r)) := by
  refine PA.imp (pa_cons (PE.lk ha) hr hs) fun σ H Q ⟨e, fp, R, hq⟩ => ?_
  rw [evP] at hq
  refine Tr.step (sp0 R) hq fun c e1 v1 H1 fp1 F1 h1 V1 hq => ?_
  refine hold_lk2 V1 hq fun c' H2 F2 h2 hf hq => ?_
  refine TrP.step h2.sp hq fun cs e2 vs H3 fp2 F3 h3 V3 hq => ?_
  refine hq (v1 :: vs) H3 fp2 (F2 ++ F3) ⟨h2.sp.trans V3.sp, .cons (h2.next V3.sp fun z => ((Bool.and_eq_true _ _).mp z).2) V3.rc, ?_⟩
  rcases h2.hd with e | e
  · subst e
    exact V3.hd
  · exact .inr ((Bool.and_eq_true _ _).mp e).1
/-! ### walks -/
def YD (T : Tb) (ds : List D) : Nat → Hp → V → Hp → Prop := fun i H x H' => Stp Emp H H' ∧ Keep H H' ∧ ∃ d, ds[i]? = some d ∧ RD T H' d x
/-- a walk over the things ds while G stands -/
abbrev WkD (T : Tb) (J : It) (ds : List D) (G : Hp → Prop) : Prop := Walk J ds.length G (YD T ds)
theorem rd_at {H : Hp} : ∀ {ds : List D} {vs : List V}, RDs T H ds vs → ∀ {i : Nat} {x : V}, vs[i]? = some x → ∃ d, ds[i]? = some d ∧ RD T H d x
  | _, _, .nil, _, _, h => nomatch h
  | _, _, .cons h1 r, 0, _, h => by cases h; exact ⟨_, rfl, h1⟩
  | _, _, .cons h1 r, i + 1, _, h => rd_at r h
theorem wk_list (hK : T.K = X.K) {a : Addr} {vs : List V} {ds : List D} {G : Hp → Prop} (hn : ds.length = vs.length) (hG : ∀ H, G H → SqL T.K H a vs ∧ RDs T H ds vs) : WkD T (Itl X.K a) ds G := by
  unfold WkD
  rw [hn, ← hK]
  exact (walk_list (K := T.K) (a := a) (xs := vs)).mono (fun H g => (hG H g).1) fun i H x H' hi g ⟨e, y⟩ => by subst e; exact ⟨Stp.refl, Keep.refl, rd_at (hG _ g).2 y⟩
theorem wk_tup (hK : T.K = X.K) {a : Addr} {vs : List V} {ds : List D} {G : Hp → Prop} (hn : ds.length = vs.length) (hG : ∀ H, G H → SqT T.K H a vs ∧ RDs T H ds vs) : WkD T (Itt X.K a) ds G := by
  unfold WkD
  rw [hn, ← hK]
  exact (walk_tup (K := T.K) (a := a) (xs := vs)).mono (fun H g => (hG H g).1) fun i H x H' hi g ⟨e, y⟩ => by subst e; exact ⟨Stp.refl, Keep.refl, rd_at (hG _ g).2 y⟩
theorem wk_str {s : List Nat} (hs : okS s = true) {G : Hp → Prop} : WkD T (Its ⟨s.toArray⟩) (Mi.chars s) G := by
  have e : (Mi.chars s).length = (⟨s.toArray⟩ : Str).cps.size := by simp [Mi.chars]
  unfold WkD
  rw [e]
  refine walk_str.mono (fun H _ => trivial) fun i H x H' hi g ⟨e, c, hc, ex⟩ => ?_
  subst e ex
  have hc' : s[i]? = some c := by simpa using hc
  refine ⟨Stp.refl, Keep.refl, .str [c], by simp [Mi.chars, hc'], .str _ (okS_get hs (List.mem_of_getElem? hc'))⟩
theorem rangeD_len (lo : Int) : ∀ n, (Mi.rangeD lo n).length = n := by
  intro n
  induction n generalizing lo with
  | zero => rfl
  | succ n ih => rw [Mi.rangeD, List.length_cons, ih]
theorem rangeD_get : ∀ (n : Nat) (lo : Int) (i : Nat), i < n → (Mi.rangeD lo n)[i]? = some (.int (lo + i)) := by
  intro n
  induction n with
  | zero => intro lo i h; omega
  | succ n ih =>
    intro lo i h
    cases i with
    | zero => simp [Mi.rangeD]
    | succ i =>
      rw [Mi.rangeD, List.getElem?_cons_succ, ih (lo + 1) i (by omega)]
      have : lo + 1 + (i : Int) = lo + ((i + 1 : Nat) : Int) := by omega
      rw [this]
theorem wk_rng {lo : Int} {n : Nat} {G : Hp → Prop} : WkD T (Itr lo n) (Mi.rangeD lo n) G := by
  unfold WkD
  rw [rangeD_len]
  refine walk_range.mono (fun H _ => trivial) fun i H x H' hi g ⟨e, ex⟩ => ?_
  subst e ex
  exact ⟨Stp.refl, Keep.refl, _, rangeD_get n lo i hi, .int _⟩
theorem enumD_get : ∀ (ds : List D) (n i : Nat) (d : D), ds[i]? = some d → (Mi.enumD n ds)[i]? = some (.tup [.int (n + i : Nat), d]) := by
  intro ds
  induction ds with
  | nil => intro n i d h; cases h
  | cons a ds ih =>
    intro n i d h
    cases i with
    | zero => cases h; rfl
    | succ i =>
      rw [Mi.enumD, List.getElem?_cons_succ, ih (n + 1) i d h]
      have : n + 1 + i = n + (i + 1) := by omega
      rw [this]
theorem enumD_len : ∀ (ds : List D) (n : Nat), (Mi.enumD n ds).length = ds.length := by
  intro ds
  induction ds with
  | nil => intro n; rfl
  | cons a ds ih => intro n; rw [Mi.enumD, List.length_cons, ih, List.length_cons]
theorem pair_new {H : Hp} {t : Addr} {x y : V} {d1 d2 : D} (hT : H t = none) (r1 : RD T H d1 x) (r2 : RD T H d2 y) : Stp Emp H (upd H t (.tup [x, y])) ∧ Keep H (upd H t (.tup [x, y])) ∧ RD T (upd H t (.tup [x, y])) (.tup [d1, d2]) (.ref t) :=
  ⟨stp_new hT, keep_new hT, .tup (.inl (.inl upd_same)) (.cons (r1.keep (keep_new hT)) (.cons (r2.keep (keep_new hT)) .nil))⟩
theorem wk_enum (hK : T.K = X.K) {a : Addr} {vs : List V} {ds : List D} {G : Hp → Prop} (hn : ds.length = vs.length) (hG : ∀ H, G H → SqL T.K H a vs ∧ RDs T H ds vs) : WkD T (Ite X.K a) (Mi.enumD 0 ds) G := by
  unfold WkD
  rw [enumD_len, hn, ← hK]
  refine (walk_enum (K := T.K) (a := a) (xs := vs)).mono (fun H g => (hG H g).1) fun i H x H' hi g ⟨t, x1, x2, ex, hT, e, e1, e2⟩ => ?_
  subst e ex
  cases e1
  obtain ⟨d, hd, rd⟩ := rd_at (hG _ g).2 e2
  obtain ⟨s, k, r⟩ := pair_new hT (.int (i : Nat)) rd
  have := enumD_get ds 0 i d hd
  rw [Nat.zero_add] at this
  exact ⟨s, k, _, this, r⟩
theorem wk_enumT (hK : T.K = X.K) {a : Addr} {vs : List V} {ds : List D} {G : Hp → Prop} (hn : ds.length = vs.length) (hG : ∀ H, G H → SqT T.K H a vs ∧ RDs T H ds vs) : WkD T (IteT X.K a) (Mi.enumD 0 ds) G := by
  unfold WkD
  rw [enumD_len, hn, ← hK]
  have w : Walk (IteT T.K a) vs.length (fun H => SqT T.K H a vs) (fun i H x H' => ∃ t y, x = .ref t ∧ H t = none ∧ H' = upd H t (.tup [.int (i : Nat), y]) ∧ vs[i]? = some y) := by
    refine ⟨fun i H hi q => ⟨vs, vs[i], q, List.getElem?_eq_getElem hi⟩, fun H q => ⟨vs, q, rfl⟩, fun i H x H' hi q ⟨t, y, ex, hT, e, e1⟩ => ⟨t, y, ex, hT, e, e1 _ q⟩⟩
  refine w.mono (fun H g => (hG H g).1) fun i H x H' hi g ⟨t, y, ex, hT, e, e2⟩ => ?_
  subst e ex
  obtain ⟨d, hd, rd⟩ := rd_at (hG _ g).2 e2
  obtain ⟨s, k, r⟩ := pair_new hT (.int (i : Nat)) rd
  have := enumD_get ds 0 i d hd
  rw [Nat.zero_add] at this
  exact ⟨s, k, _, this, r⟩
theorem zipD_get : ∀ (xs ys : List D) (i : Nat) (a b : D), xs[i]? = some a → ys[i]? = some b → (Mi.zipD xs ys)[i]? = some (.tup [a, b]) := by
  intro xs
  induction xs with
  | nil => intro ys i a b h; cases h
  | cons x xs ih =>
    intro ys i a b h h'
    cases ys with
    | nil => cases h'
    | cons y ys => cases i with
      | zero => cases h; cases h'; rfl
      | succ i => exact ih ys i a b h h'
theorem zipD_len : ∀ (xs ys : List D), (Mi.zipD xs ys).length = min xs.length ys.length := by
  intro xs
  induction xs with
  | nil => intro ys; cases ys <;> simp [Mi.zipD]
  | cons x xs ih => intro ys; cases ys with
    | nil => simp [Mi.zipD]
    | cons y ys => simp [Mi.zipD, ih]
theorem wk_zip (hK : T.K = X.K) {a b : Addr} {vs us : List V} {ds es : List D} {G : Hp → Prop} (hn : ds.length = vs.length) (hm : es.length = us.length) (hG : ∀ H, G H → (SqL T.K H a vs ∧ RDs T H ds vs) ∧ SqL T.K H b us ∧ RDs T H es us) : WkD T (Itz X.K a b) (Mi.zipD ds es) G := by
  unfold WkD
  rw [zipD_len, hn, hm, ← hK]
  refine (walk_zip (K := T.K) (a := a) (b := b) (xs := vs) (ys := us) rfl).mono (fun H g => ⟨(hG H g).1.1, (hG H g).2.1⟩) fun i H x H' hi g ⟨t, x1, x2, ex, hT, e, e1, e2⟩ => ?_
  subst e ex
  obtain ⟨d, hd, rd⟩ := rd_at (hG _ g).1.2 e1
  obtain ⟨d', hd', rd'⟩ := rd_at (hG _ g).2.2 e2
  obtain ⟨s, k, r⟩ := pair_new hT rd rd'
  exact ⟨s, k, _, zipD_get ds es i d d' hd hd', r⟩
theorem wk_zipT (hK : T.K = X.K) {a b : Addr} {vs us : List V} {ds es : List D} {G : Hp → Prop} (hn : ds.length = vs.length) (hm : es.length = us.length) (hG : ∀ H, G H → (SqT T.K H a vs ∧ RDs T H ds vs) ∧ SqT T.K H b us ∧ RDs T H es us) : WkD T (RZ.ItzT X.K a b) (Mi.zipD ds es) G := by
  unfold WkD
  rw [zipD_len, hn, hm, ← hK]
  have w : Walk (RZ.ItzT T.K a b) (min vs.length us.length) (fun H => SqT T.K H a vs ∧ SqT T.K H b us) (YPair (fun i => vs[i]?) (fun i => us[i]?)) := by
    refine ⟨fun i H hi ⟨q1, q2⟩ => ⟨vs, us, vs[i], us[i], q1, q2, List.getElem?_eq_getElem (by omega), List.getElem?_eq_getElem (by omega)⟩, fun H ⟨q1, q2⟩ => ⟨vs, us, q1, q2, by omega⟩, fun i H x H' hi ⟨q1, q2⟩ ⟨t, x1, x2, ex, hT, e, e1, e2⟩ => ⟨t, x1, x2, ex, hT, e, e1 _ q1, e2 _ q2⟩⟩
  refine w.mono (fun H g => ⟨(hG H g).1.1, (hG H g).2.1⟩) fun i H x H' hi g ⟨t, x1, x2, ex, hT, e, e1, e2⟩ => ?_
  subst e ex
  obtain ⟨d, hd, rd⟩ := rd_at (hG _ g).1.2 e1
  obtain ⟨d', hd', rd'⟩ := rd_at (hG _ g).2.2 e2
  obtain ⟨s, k, r⟩ := pair_new hT rd rd'
  exact ⟨s, k, _, zipD_get ds es i d d' hd hd', r⟩
/-! ### what an iteration gives -/
def Stab (F : List Addr) (G : Hp → Prop) : Prop := ∀ H H', G H → Keep H H' → (∀ a ∈ F, ∀ u, H a = some u → H' a = some u) → G H'
def ItR (T : Tb) (F : List Addr) (ds : List D) (R : It → Hp → Prop) (H1 : Hp) : Prop := ∀ J G, WkD T J ds G → G H1 → Stab F G → R J H1
abbrev RIt (T : Tb) (it : Mi.It) (n : Nat) (t : TA) : TI := fun σ H R => t σ H fun vs H1 => ∃ cs F ds, RCs T H1 cs vs F ∧ cs.length = n ∧ Mi.itemsC it cs = some ds ∧ Mi.okIt it cs = true ∧ ItR T F ds R H1
abbrev tOne (t : TA) : TE := fun σ H Q => t σ H fun vs H1 => ∀ v, vs = [v] → Q v H1
theorem A_one {a : ME} {ea : Expr} (ha : PE X ea (TE' T W P a)) : PE X ea (tOne (TAs T W P [a])) := by
  refine PE.imp ha fun σ H Q ⟨e, fp, R, hq⟩ => ⟨e, fp, R, ?_⟩
  rw [evs] at hq
  cases h : ev P a e with
  | ok c e1 =>
    rw [h] at hq
    intro v H1 fp1 F V1
    obtain ⟨V2, hq⟩ := leak_of V1 hq
    rw [evs] at hq
    exact hq [v] H1 fp1 (F ++ []) ⟨V2.sp.weak fun z => by simpa [purs] using z, .cons V2.rc .nil, by
      have t := V2.tm rfl
      rw [List.append_nil]
      exact ⟨t.nod, t.out, t.sub, fun z => t.pur (by simpa [purs] using z)⟩⟩ v rfl
  | exc n e1 => rw [h] at hq; exact hq
  | stuck => rw [h] at hq; exact hq
theorem P_one {q : Bool} {a : ME} {ea : Expr} (ha : PE X ea (TE' T W P a)) : PE X ea (tOne (TPs T W P q [a])) := by
  refine PE.imp (PE.lk ha) fun σ H Q ⟨e, fp, R, hq⟩ => ⟨e, fp, R, ?_⟩
  rw [evP] at hq
  cases h : ev P a e with
  | ok c e1 =>
    rw [h] at hq
    intro v H1 fp1 F V1
    refine hold_lk2 V1 hq fun c' H2 F2 h2 hf hq => ?_
    rw [evP] at hq
    refine hq [v] H2 fp1 (F2 ++ []) ⟨h2.sp.weak fun z => by simpa [purs] using z, .cons h2.rc .nil, ?_⟩ v rfl
    rw [List.append_nil]
    rcases h2.hd with z | z
    · exact .inl z
    · exact .inr ((Bool.and_eq_true _ _).mp z).1
  | exc n e1 => rw [h] at hq; exact hq
  | stuck => rw [h] at hq; exact hq
abbrev RItE (T : Tb) (t : TE) : TI := fun σ H R => t σ H fun v H1 => ∃ c F ds, RC T H1 c v F ∧ c.items = some ds ∧ Mi.okIt .seq [c] = true ∧ ItR T F ds R H1
theorem asL_G {c : C} {v : V} {ds : List D} {H1 : Hp} {F : List Addr} (r : RC T H1 c v F) (h : c.asL = some ds) : ∃ (a : Addr) (vs : List V) (G : Hp → Prop), v = .ref a ∧ ds.length = vs.length ∧ G H1 ∧ (∀ H, G H → SqL T.K H a vs ∧ RDs T H ds vs) ∧ Stab F G := by
  cases r with
  | val hd =>
    cases hd with
    | lst hf hr =>
      rename_i es a vs
      have : es = ds := by simpa [Mi.C.asL] using h
      subst this
      exact ⟨a, vs, fun H => FzL T.K H a vs ∧ RDs T H es vs, rfl, RDs.length hr, ⟨hf, hr⟩, fun H g => ⟨g.1.sq, g.2⟩, fun H H' g k _ => ⟨k.fzL g.1, g.2.keep k⟩⟩
    | _ => simp [Mi.C.asL] at h
  | lst hh hr =>
    rename_i cs a vs F
    have hv : Mi.allVal cs = some ds := h
    obtain ⟨rd, rfl⟩ := allVal_rd hr hv
    refine ⟨a, vs, fun H => H a = some (.lst vs) ∧ RDs T H ds vs, rfl, RDs.length rd, ⟨hh, rd⟩, fun H g => ⟨.inl (.inl g.1), g.2⟩, fun H H' g k s => ⟨?_, g.2.keep k⟩⟩
    exact s _ List.mem_cons_self _ g.1
  | tup _ _ => simp [Mi.C.asL] at h
  | dct _ _ _ => simp [Mi.C.asL] at h
  | obj _ _ _ _ _ => simp [Mi.C.asL] at h
theorem asT_G {c : C} {v : V} {ds : List D} {H1 : Hp} {F : List Addr} (r : RC T H1 c v F) (h : c.asT = some ds) : ∃ (a : Addr) (vs : List V) (G : Hp → Prop), v = .ref a ∧ ds.length = vs.length ∧ G H1 ∧ (∀ H, G H → SqT T.K H a vs ∧ RDs T H ds vs) ∧ Stab F G := by
  obtain ⟨a, vs, rfl, sq, rd⟩ := asT_sq r h
  exact ⟨a, vs, fun H => SqT T.K H a vs ∧ RDs T H ds vs, rfl, RDs.length rd, ⟨sq, rd⟩, fun H g => g, fun H H' g k _ => ⟨k.sqT g.1, g.2.keep k⟩⟩
theorem items_cases {c : C} {ds : List D} (h : c.items = some ds) (ok : Mi.okIt .seq [c] = true) : c.asL = some ds ∨ c.asT = some ds ∨ ∃ s, c = .val (.str s) ∧ ds = Mi.chars s := by
  cases c with
  | val d => cases d <;> simp_all [Mi.C.items, Mi.C.asL, Mi.C.asT, Mi.okIt]
  | lst cs => exact .inl h
  | tup cs => exact .inr (.inl h)
  | dct _ _ => simp [Mi.okIt] at ok
  | obj _ _ _ => simp [Mi.C.items] at h
theorem pi_seq {tg l : Expr} {te : TE} (hK : T.K = X.K) (hl : PE X l te) : PI X tg l (RItE T te) := by
  refine ⟨fun pins s σ H R I h => ?_⟩
  refine thn (hl.run pins s σ H _ I h) fun v s1 ⟨x, H1, I1, r1, c, F, ds, rc, hi, ok, q⟩ => ?_
  have fresh : ∀ b ∈ [s1.heap.objs.size], FpOk X pins H1 b := fun b hb => by
    have e : b = s1.heap.objs.size := by simpa using hb
    subst e
    exact I1.fpOk (Nat.le_refl _) (I1.hok.fresh (Nat.le_refl _))
  rcases items_cases hi ok with hx | hx | ⟨z, rfl, rfl⟩
  · obtain ⟨a, vs, G, rfl, hn, g, hG, st⟩ := asL_G rc hx
    cases r1
    obtain ⟨its, rv, p, hz⟩ := I1.list (by rw [← hK]; exact (hG _ g).1)
    refine wpAny_pyIter_list p.isList ?_
    exact ⟨s1.heap.objs.size, [s1.heap.objs.size], _, _, H1, rfl, I1.kept (t' := s1.toks) fun b o e => Heap.get?_push_of_some _ e, turn_list a _, ⟨_, Heap.get?_push_size _ rfl, rfl, rfl⟩, fresh, q _ G (wk_list hK hn hG) g st⟩
  · obtain ⟨a, vs, G, rfl, hn, g, hG, st⟩ := asT_G rc hx
    cases r1
    obtain ⟨its, rv, p, hz⟩ := I1.tuple (by rw [← hK]; exact (hG _ g).1)
    refine wpAny_pyIter_tuple (show s1.heap.IsTuple a its.toArray from p) ?_
    exact ⟨s1.heap.objs.size, [s1.heap.objs.size], _, _, H1, rfl, I1.kept (t' := s1.toks) fun b o e => Heap.get?_push_of_some _ e, turn_tuple a _, ⟨_, Heap.get?_push_size _ rfl, rfl, rfl⟩, fresh, q _ G (wk_tup hK hn hG) g st⟩
  · obtain ⟨rfl, okz⟩ := rcStr rc
    obtain ⟨t, rfl⟩ := r1
    have q1 := q _ (fun _ => True) (wk_str okz) trivial (fun _ _ _ _ _ => trivial)
    cases ha : (⟨z.toArray⟩ : Str).cps.all (· < 128)
    · exact wpAny_pyIter_wide ha (pi_one (tk := s1.toks) I1 _ (turn_str _ _ t "str_iterator" (.inr rfl)) ⟨_, Heap.get?_push_size _ rfl, rfl, rfl⟩ q1)
    · exact wpAny_pyIter_ascii ha (pi_one (tk := s1.toks) I1 _ (turn_str _ _ t "str_ascii_iterator" (.inl rfl)) ⟨_, Heap.get?_push_size _ rfl, rfl, rfl⟩ q1)
theorem PI.imp {tg it : Expr} {t t' : TI} (h : PI X tg it t) (i : ∀ σ H R, t' σ H R → t σ H R) : PI X tg it t' := ⟨fun pins s σ H R I q => h.run pins s σ H R I (i σ H R q)⟩
/-- readings of rows that bear weakening -/
def Mono (ta : TA) : Prop := ∀ σ H (Q Q' : List V → Hp → Prop), (∀ vs H, Q vs H → Q' vs H) → ta σ H Q → ta σ H Q'
theorem FinG.mono {α : Type} {σ : L2.St} {H : Hp} {O : Addr → Prop} {ok ok' : α → Mi.Env → Prop} (i : ∀ a e, ok a e → ok' a e) {r : Mi.Res α} (h : FinG T W σ H O ok r) : FinG T W σ H O ok' r := by
  cases r with
  | ok a e => exact i a e h
  | exc _ _ => exact h
  | stuck => exact h
theorem mono_A {m : Mi.Env → Mi.Res (List C)} {p : Bool} : Mono (TrA T W m p) := fun σ H Q Q' i ⟨e, fp, R, hq⟩ => ⟨e, fp, R, FinG.mono (fun _ _ h vs H' fp' F x => i _ _ (h vs H' fp' F x)) hq⟩
theorem mono_P {m : Mi.Env → Mi.Res (List C)} {p q : Bool} : Mono (TrP T W m p q) := fun σ H Q Q' i ⟨e, fp, R, hq⟩ => ⟨e, fp, R, FinG.mono (fun _ _ h vs H' fp' F x => i _ _ (h vs H' fp' F x)) hq⟩
theorem len1 {H : Hp} {cs : List C} {vs : List V} {F : List Addr} (r : RCs T H cs vs F) (h : cs.length = 1) : ∃ c v, cs = [c] ∧ vs = [v] ∧ RC T H c v F := by
  match cs, h with
  | [c], _ =>
    obtain ⟨x, rfl, rc⟩ := r.one
    cases r with
    | cons h1 r1 => cases r1; rw [List.append_nil] at rc; exact ⟨c, x, rfl, rfl, by rw [List.append_nil]; exact h1⟩
theorem len2 {H : Hp} {cs : List C} {vs : List V} {F : List Addr} (r : RCs T H cs vs F) (h : cs.length = 2) : ∃ c d v w F1 F2, cs = [c, d] ∧ vs = [v, w] ∧ RC T H c v F1 ∧ RC T H d w F2 ∧ F = F1 ++ F2 := by
  match cs, h with
  | [c, d], _ =>
    cases r with
    | cons h1 r1 => cases r1 with
      | cons h2 r2 => cases r2; exact ⟨c, d, _, _, _, _, rfl, rfl, h1, h2, by rw [List.append_nil]⟩
theorem it_rng1 {c : C} {ds : List D} (h : Mi.itemsC .rng [c] = some ds) : ∃ j : Int, c = .val (.int j) ∧ -(2 ^ 62) ≤ j ∧ j < 2 ^ 62 ∧ ds = Mi.rangeD 0 j.toNat := by
  rcases c with (_ | _ | j | _ | _ | _ | _ | _ | _) | _ | _ | _ | _
  all_goals first
    | (simp only [Mi.itemsC] at h; cases h; done)
    | skip
  simp only [Mi.itemsC] at h
  split at h
  · rename_i hj; cases h; have := smallI_of hj; exact ⟨j, rfl, by omega, by omega, rfl⟩
  · cases h
theorem it_rng2 {c d : C} {ds : List D} (h : Mi.itemsC .rng [c, d] = some ds) : ∃ i j : Int, c = .val (.int i) ∧ d = .val (.int j) ∧ (-(2 ^ 62) ≤ i ∧ i < 2 ^ 62 ∧ -(2 ^ 62) ≤ j ∧ j < 2 ^ 62) ∧ ds = Mi.rangeD i (j - i).toNat := by
  rcases c with (_ | _ | i | _ | _ | _ | _ | _ | _) | _ | _ | _ | _
  all_goals first
    | (simp only [Mi.itemsC] at h; cases h; done)
    | skip
  rcases d with (_ | _ | j | _ | _ | _ | _ | _ | _) | _ | _ | _ | _
  all_goals first
    | (simp only [Mi.itemsC] at h; cases h; done)
    | skip
  simp only [Mi.itemsC] at h
  split at h
  · rename_i hj; cases h; rw [Bool.and_eq_true] at hj; have h1 := smallI_of hj.1; have h2 := smallI_of hj.2; exact ⟨i, j, rfl, rfl, ⟨by omega, by omega, by omega, by omega⟩, rfl⟩
  · cases h
theorem asL_items {c : C} {ds : List D} (h : c.asL = some ds) : c.items = some ds := by
  cases c with
  | val d => cases d <;> simp_all [Mi.C.items, Mi.C.asL]
  | lst cs => exact h
  | tup cs => simp [Mi.C.asL] at h
  | dct _ _ => simp [Mi.C.asL] at h
  | obj _ _ _ => simp [Mi.C.asL] at h
theorem asT_items {c : C} {ds : List D} (h : c.asT = some ds) : c.items = some ds := by
  cases c with
  | val d => cases d <;> simp_all [Mi.C.items, Mi.C.asT]
  | tup cs => exact h
  | lst cs => simp [Mi.C.asT] at h
  | dct _ _ => simp [Mi.C.asT] at h
  | obj _ _ _ => simp [Mi.C.asT] at h
theorem pi_rng1 {tg a : Expr} {ta : TA} {p pos : Pos} (hg : Gl X "range") (hm : X.mg "range" = none) (mt : Mono ta) (ha : PA X [a] ta) (hs : starEach [a] X.env = [(false, eval a X.env)]) : PI X tg (.Call (.Name "range" p) [a] [] pos) (RIt T .rng 1 ta) := by
  refine PI.imp (pi_range1 hg hm ha hs) fun σ H R h => mt σ H _ _ (fun vs H1 ⟨cs, F, ds, r, hn, hi, ok, q⟩ => ?_) h
  obtain ⟨c, v, rfl, rfl, rc⟩ := len1 r hn
  obtain ⟨j, rfl, h1, h2, rfl⟩ := it_rng1 hi
  cases rcInt rc
  exact ⟨j, rfl, h1, h2, q _ (fun _ => True) wk_rng trivial fun _ _ _ _ _ => trivial⟩
theorem pi_rng2 {tg a b : Expr} {ta : TA} {p pos : Pos} (hg : Gl X "range") (hm : X.mg "range" = none) (mt : Mono ta) (ha : PA X [a, b] ta) (hs : starEach [a, b] X.env = [(false, eval a X.env), (false, eval b X.env)]) (hs2 : starEach [b] X.env = [(false, eval b X.env)]) : PI X tg (.Call (.Name "range" p) [a, b] [] pos) (RIt T .rng 2 ta) := by
  refine PI.imp (pi_range2 hg hm ha hs hs2) fun σ H R h => mt σ H _ _ (fun vs H1 ⟨cs, F, ds, r, hn, hi, ok, q⟩ => ?_) h
  obtain ⟨c, d, v, w, F1, F2, rfl, rfl, rc1, rc2, rfl⟩ := len2 r hn
  obtain ⟨i, j, rfl, rfl, hb, rfl⟩ := it_rng2 hi
  cases rcInt rc1
  cases rcInt rc2
  exact ⟨i, j, rfl, hb, q _ (fun _ => True) wk_rng trivial fun _ _ _ _ _ => trivial⟩
theorem pi_en {a : Expr} {ta : TA} {p pos tpos : Pos} {elts : List Expr} {kk : Nat} (hK : T.K = X.K) (hg : Gl X "enumerate") (hm : X.mg "enumerate" = none) (mt : Mono ta) (ha : PA X [a] ta) (hs : starEach [a] X.env = [(false, eval a X.env)]) : PI X (.Tuple elts kk tpos) (.Call (.Name "enumerate" p) [a] [] pos) (RIt T .enum 1 ta) := by
  refine PI.imp (pi_enumA hg hm ha hs) fun σ H R h => mt σ H _ _ (fun vs H1 ⟨cs, F, ds, r, hn, hi, ok, q⟩ => ?_) h
  obtain ⟨c, v, rfl, rfl, rc⟩ := len1 r hn
  simp only [Mi.okIt, Bool.or_eq_true, Option.isSome_iff_exists] at ok
  rcases ok with ⟨es, he⟩ | ⟨es, he⟩
  · obtain ⟨a, vs, G, rfl, hn, g, hG, st⟩ := asL_G rc he
    simp only [Mi.itemsC, asL_items he, Option.map_some, Option.some.injEq] at hi
    subst hi
    exact ⟨a, vs, rfl, .inl ⟨by rw [← hK]; exact (hG _ g).1, q _ G (wk_enum hK hn hG) g st⟩⟩
  · obtain ⟨a, vs, G, rfl, hn, g, hG, st⟩ := asT_G rc he
    simp only [Mi.itemsC, asT_items he, Option.map_some, Option.some.injEq] at hi
    subst hi
    exact ⟨a, vs, rfl, .inr ⟨by rw [← hK]; exact (hG _ g).1, q _ G (wk_enumT hK hn hG) g st⟩⟩
theorem pi_zp {a b : Expr} {ta : TA} {p pos tpos : Pos} {elts : List Expr} {kk : Nat} (hK : T.K = X.K) (hg : Gl X "zip") (hm : X.mg "zip" = none) (mt : Mono ta) (ha : PA X [a, b] ta) (hs : starEach [a, b] X.env = (false, eval a X.env) :: starEach [b] X.env) (hpl : (backTo pos (starEach [b] X.env)).any (·.1) = false) : PI X (.Tuple elts kk tpos) (.Call (.Name "zip" p) [a, b] [] pos) (RIt T .zip 2 ta) := by
  refine PI.imp (RZ.pi_zipA hg hm ha hs hpl) fun σ H R h => mt σ H _ _ (fun vs H1 ⟨cs, F, ds, r, hn, hi, ok, q⟩ => ?_) h
  obtain ⟨c, d, v, w, F1, F2, rfl, rfl, rc1, rc2, rfl⟩ := len2 r hn
  simp only [Mi.okIt, Bool.or_eq_true, Bool.and_eq_true, Option.isSome_iff_exists] at ok
  rcases ok with ⟨⟨x, hx⟩, y, hy⟩ | ⟨⟨x, hx⟩, y, hy⟩
  · simp only [Mi.itemsC, asL_items hx, asL_items hy, Option.bind_some, Option.map_some, Option.some.injEq] at hi
    subst hi
    obtain ⟨a, vs, G, rfl, hn, g, hG, st⟩ := asL_G rc1 hx
    obtain ⟨b, us, G', rfl, hn', g', hG', st'⟩ := asL_G rc2 hy
    refine ⟨a, b, vs, us, rfl, .inl ⟨by rw [← hK]; exact (hG _ g).1, by rw [← hK]; exact (hG' _ g').1, q _ (fun H => G H ∧ G' H) (wk_zip hK hn hn' fun H z => ⟨hG H z.1, hG' H z.2⟩) ⟨g, g'⟩ fun H H' z k m => ⟨st H H' z.1 k ?_, st' H H' z.2 k ?_⟩⟩⟩
    · exact fun a z => m a (List.mem_append_left _ z)
    · exact fun a z => m a (List.mem_append_right _ z)
  · simp only [Mi.itemsC, asT_items hx, asT_items hy, Option.bind_some, Option.map_some, Option.some.injEq] at hi
    subst hi
    obtain ⟨a, vs, G, rfl, hn, g, hG, st⟩ := asT_G rc1 hx
    obtain ⟨b, us, G', rfl, hn', g', hG', st'⟩ := asT_G rc2 hy
    refine ⟨a, b, vs, us, rfl, .inr ⟨by rw [← hK]; exact (hG _ g).1, by rw [← hK]; exact (hG' _ g').1, q _ (fun H => G H ∧ G' H) (wk_zipT hK hn hn' fun H z => ⟨hG H z.1, hG' H z.2⟩) ⟨g, g'⟩ fun H H' z k m => ⟨st H H' z.1 k ?_, st' H H' z.2 k ?_⟩⟩⟩
    · exact fun a z => m a (List.mem_append_left _ z)
    · exact fun a z => m a (List.mem_append_right _ z)
end
end MiS
namespace MiS
open PySem PySem.Spec PyProof.Rows L2
open Mi (D C ME MS ev evs evP evA evAnd evOr evC bor pur purs)
section
variable {X : Cx} {T : Tb} {W : WX} {P : Mi.Pr}
/-! ### targets -/
theorem RE.put {H : Hp} {e : Mi.Env} {σ : L2.St} {fp : Nat → List Addr} (r : RE T H e σ fp) {i : Nat} {c : C} {v : V} {F : List Addr} (rc : RC T H c v F) (n : F.Nodup) (d : ∀ a ∈ F, ¬ own fp a) : RE T H (e.set i (some c)) (σ.set i (some v)) (updF fp i F) where
  len := by rw [List.length_set, List.length_set]; exact r.len
  at_ := fun j c' h => by
    rw [List.getElem?_set] at h
    unfold updF
    by_cases z : i = j
    · subst z
      rw [if_pos rfl] at h
      split at h
      · rename_i hl
        cases h
        rw [if_pos rfl]
        refine ⟨v, ?_, rc⟩
        rw [List.getElem?_set, if_pos rfl, if_pos (by rw [← r.len]; exact hl)]
      · cases h
    · rw [if_neg z] at h
      obtain ⟨v', e1, rc'⟩ := r.at_ j c' h
      rw [if_neg (fun q => z q.symm), List.getElem?_set, if_neg z]
      exact ⟨v', e1, rc'⟩
  nod := fun j => by
    unfold updF
    split
    · exact n
    · exact r.nod j
  dis := fun j k a ne m m' => by
    unfold updF at m m'
    split at m
    · split at m'
      · rename_i h1 h2; exact ne (h1.trans h2.symm)
      · exact d a m ⟨k, m'⟩
    · split at m'
      · exact d a m' ⟨j, m⟩
      · exact r.dis j k a ne m m'
  cel := fun j a m => by
    unfold updF at m
    split at m
    · exact rc.cell a m
    · exact r.cel j a m
theorem own_put {fp : Nat → List Addr} {i : Nat} {F : List Addr} {a : Addr} (h : own (updF fp i F) a) : own fp a ∨ a ∈ F := by
  obtain ⟨j, m⟩ := h
  unfold updF at m
  split at m
  · exact .inr m
  · exact .inl ⟨j, m⟩
/-- what a target does -/
def TgOk (T : Tb) (g : TG) (tg : Mi.Tg) : Prop := ∀ (σ : L2.St) (H : Hp) (e e' : Mi.Env) (fp : Nat → List Addr) (c : C) (v : V) (F : List Addr) (Q : L2.St → Hp → Prop), RE T H e σ fp → RC T H c v F → F.Nodup → (∀ a ∈ F, ¬ own fp a) → Mi.bindTg tg c e = some e' →
  (∀ σ' fp', RE T H e' σ' fp' → (∀ a, own fp' a → own fp a ∨ a ∈ F) → (∀ vs : List Nat, (∀ i ∈ tg.slots, i ∈ vs) → wipe σ' vs = wipe σ vs) → Q σ' H) → g v σ H Q
theorem wipe_get (σ : L2.St) : ∀ (vs : List Nat) (j : Nat), (wipe σ vs)[j]? = if j ∈ vs then (if j < σ.length then some none else none) else σ[j]?
  | [], j => by rw [if_neg (fun z => nomatch z)]; rfl
  | v :: vs, j => by
    rw [wipe, List.getElem?_set, wipe_length]
    by_cases h : v = j
    · subst h
      rw [if_pos rfl, if_pos List.mem_cons_self]
    · rw [if_neg h, wipe_get σ vs j]
      by_cases hm : j ∈ vs
      · rw [if_pos hm, if_pos (List.mem_cons_of_mem _ hm)]
      · rw [if_neg hm, if_neg (fun z => (List.mem_cons.mp z).elim (fun q => h q.symm) hm)]
theorem wipe_set {σ : L2.St} {i : Nat} {x : Option V} {vs : List Nat} (h : i ∈ vs) : wipe (σ.set i x) vs = wipe σ vs := by
  apply List.ext_getElem?
  intro j
  rw [wipe_get, wipe_get, List.length_set, List.getElem?_set]
  by_cases hj : j ∈ vs
  · rw [if_pos hj, if_pos hj]
  · rw [if_neg hj, if_neg hj, if_neg (show ¬ i = j from fun z => hj (z ▸ h))]
theorem tg_nm {i : Nat} : TgOk T (gName i) (.nm i) := fun σ H e e' fp c v F Q re rc n d hb k => by
  simp only [Mi.bindTg, Option.some.injEq] at hb
  subst hb
  exact k _ _ (re.put rc n d) (fun a h => own_put h) fun vs hv => wipe_set (hv i List.mem_cons_self)
def gNames : List Nat → TGs
  | [] => gNil
  | i :: is => gCons (gName i) (gNames is)
theorem gNames_ok : ∀ (is : List Nat) (cs : List C) (vs : List V) (F : List Addr) (σ : L2.St) (H : Hp) (e : Mi.Env) (fp : Nat → List Addr) (Q : L2.St → Hp → Prop), RE T H e σ fp → RCs T H cs vs F → F.Nodup → (∀ a ∈ F, ¬ own fp a) → cs.length = is.length →
    (∀ σ' fp', RE T H ((is.zip cs).foldl (fun e p => e.set p.1 (some p.2)) e) σ' fp' → (∀ a, own fp' a → own fp a ∨ a ∈ F) → (∀ ws : List Nat, (∀ i ∈ is, i ∈ ws) → wipe σ' ws = wipe σ ws) → Q σ' H) → gNames is vs σ H Q
  | [], [], _, _, σ, H, e, fp, Q, re, .nil, n, d, hl, k => ⟨rfl, k σ fp re (fun a h => .inl h) fun _ _ => rfl⟩
  | i :: is, c :: cs, _, _, σ, H, e, fp, Q, re, .cons (v := v) (vs := vs) (F := F) (G := G) rc r, n, d, hl, k => by
    obtain ⟨n1, n2, n3⟩ := List.nodup_append.mp n
    refine ⟨v, vs, rfl, ?_⟩
    refine gNames_ok is cs vs G (σ.set i (some v)) H (e.set i (some c)) (updF fp i F) Q (re.put rc n1 fun a m => d a (List.mem_append_left _ m)) r n2 (fun a m h => ?_) (by simpa using hl) fun σ' fp' re' ho hw => k σ' fp' re' (fun a h => ?_) fun ws hi => ?_
    · rcases own_put h with h | h
      · exact d a (List.mem_append_right _ m) h
      · exact n3 a h a m rfl
    · rcases ho a h with h | h
      · rcases own_put h with h | h
        · exact .inl h
        · exact .inr (List.mem_append_left _ h)
      · exact .inr (List.mem_append_right _ h)
    · rw [hw ws fun j hj => hi j (List.mem_cons_of_mem _ hj)]
      exact wipe_set (hi i List.mem_cons_self)
theorem foldl_val : ∀ (is : List Nat) (ds : List D) (e : Mi.Env), (is.zip ds).foldl (fun e p => e.set p.1 (some (C.val p.2))) e = (is.zip (ds.map C.val)).foldl (fun e p => e.set p.1 (some p.2)) e
  | [], _, _ => rfl
  | _ :: _, [], _ => rfl
  | i :: is, d :: ds, e => foldl_val is ds _
theorem tg_tp (hK : T.K = X.K) {is : List Nat} : TgOk T (gTup X.K is.length (gNames is)) (.tp is) := fun σ H e e' fp c v F Q re rc n d hb k => by
  cases rc with
  | val hd =>
    cases hd with
    | tup h r =>
      rename_i ds a vs
      simp only [Mi.bindTg] at hb
      split at hb
      · rename_i hl
        cases hb
        refine ⟨a, vs, rfl, by rw [← hK]; exact h, by rw [← RDs.length r]; exact hl, ?_⟩
        refine gNames_ok is (ds.map .val) vs [] σ H e fp Q re (RDs.ofC r) .nil (fun _ m => nomatch m) (by rw [List.length_map]; exact hl) fun σ' fp' re' ho hw => k σ' fp' (by rw [foldl_val]; exact re') ho hw
      · cases hb
    | _ => simp [Mi.bindTg] at hb
  | tup h r =>
    rename_i cs a vs
    simp only [Mi.bindTg] at hb
    split at hb
    · rename_i hl
      cases hb
      exact ⟨a, vs, rfl, by rw [← hK]; exact h, by rw [← rcs_length r]; exact hl, gNames_ok is cs vs F σ H e fp Q re r n d hl k⟩
    · cases hb
  | lst _ _ => simp [Mi.bindTg] at hb
  | dct _ _ _ => simp [Mi.bindTg] at hb
  | obj _ _ _ _ _ => simp [Mi.bindTg] at hb
theorem PGs_names {N : List Str} (hN : X.N = N) (nd : X.N.Nodup) : ∀ (is : List Nat) (es : List Expr), (∀ p ∈ is.zip es, ∃ x pos, p.2 = .Name x pos ∧ X.N[p.1]? = some x ∧ Loc X.env.scope x ∧ (X.fn x = true ∨ X.env.scope.names.lookup x = some .local)) → is.length = es.length → PGs X es (gNames is)
  | [], [], _, _ => pgs_nil
  | i :: is, e :: es, h, hl => by
    obtain ⟨x, pos, e1, h1, h2, h3⟩ := h (i, e) List.mem_cons_self
    cases e1
    exact pgs_cons (pg_name nd h1 h2 h3) (PGs_names hN nd is es (fun p m => h p (List.mem_cons_of_mem _ m)) (by simpa using hl)) (by rfl)
theorem assignEach_len (env : Env) : ∀ es : List Expr, (assignEach es env).length = es.length
  | [] => rfl
  | e :: es => by
    have : assignEach (e :: es) env ≠ [] := by cases e <;> simp [assignEach]
    cases e <;> simp [assignEach, assignEach_len env es]
/-! ### slots that are wiped -/
def wipeF (fp : Nat → List Addr) (vs : List Nat) : Nat → List Addr := fun j => if j ∈ vs then [] else fp j
theorem wipeE_get (e : Mi.Env) : ∀ (vs : List Nat) (j : Nat) (c : C), (Mi.wipeE e vs)[j]? = some (some c) → e[j]? = some (some c) ∧ j ∉ vs
  | [], j, c, h => ⟨h, fun z => nomatch z⟩
  | v :: vs, j, c, h => by
    rw [Mi.wipeE, List.getElem?_set] at h
    by_cases z : v = j
    · rw [if_pos z] at h
      split at h <;> cases h
    · rw [if_neg z] at h
      obtain ⟨h1, h2⟩ := wipeE_get e vs j c h
      exact ⟨h1, fun q => (List.mem_cons.mp q).elim (fun q => z q.symm) h2⟩
theorem wipeE_len (e : Mi.Env) : ∀ vs : List Nat, (Mi.wipeE e vs).length = e.length
  | [] => rfl
  | v :: vs => by rw [Mi.wipeE, List.length_set, wipeE_len e vs]
theorem own_wipe {fp : Nat → List Addr} {vs : List Nat} {a : Addr} (h : own (wipeF fp vs) a) : own fp a := by
  obtain ⟨j, m⟩ := h
  unfold wipeF at m
  split at m
  · nomatch m
  · exact ⟨j, m⟩
theorem RE.wipe {H : Hp} {e : Mi.Env} {σ σ' : L2.St} {fp : Nat → List Addr} (r : RE T H e σ fp) {vs : List Nat} (h : L2.wipe σ vs = L2.wipe σ' vs) : RE T H (Mi.wipeE e vs) σ' (wipeF fp vs) where
  len := by
    rw [wipeE_len, r.len, ← wipe_length σ vs, h, wipe_length]
  at_ := fun j c hc => by
    obtain ⟨h1, h2⟩ := wipeE_get e vs j c hc
    obtain ⟨v, hv, rc⟩ := r.at_ j c h1
    refine ⟨v, ?_, ?_⟩
    · rw [← wipe_out h2, ← h, wipe_out h2]; exact hv
    · unfold wipeF
      rw [if_neg h2]
      exact rc
  nod := fun j => by
    unfold wipeF
    split
    · exact .nil
    · exact r.nod j
  dis := fun j k a n m m' => by
    unfold wipeF at m m'
    split at m
    · nomatch m
    · split at m'
      · nomatch m'
      · exact r.dis j k a n m m'
  cel := fun j a m => by
    unfold wipeF at m
    split at m
    · nomatch m
    · exact r.cel j a m
end
end MiS
namespace MiS
open PySem PySem.Spec PyProof.Rows L2
open Mi (D C ME MS ev evs evP evA evAnd evOr evC bor pur purs)
section
variable {X : Cx} {T : Tb} {W : WX} {P : Mi.Pr}
def W0 : WX := fun _ _ _ _ => False
section
variable {σ σ' : L2.St} {H H1 H2 : Hp} {O : Addr → Prop} {p q : Bool} {e e1 e2 : Mi.Env} {fp fp1 fp2 : Nat → List Addr} {F G : List Addr}
theorem Sp1.re' (a : Sp1 T σ H O p H1 e1 fp1) (r : RE T H1 e2 σ' fp2) (h : ∀ x, own fp2 x → own fp1 x) : Sp1 T σ' H O p H1 e2 fp2 := ⟨r, fun x m => a.sub x (h x m), a.stp, a.keep, a.pure⟩
theorem Tmp.ow (t : Tmp H O p fp1 F) (h : ∀ x, own fp2 x → own fp1 x) : Tmp H O p fp2 F := ⟨t.nod, fun a m z => t.out a m (h a z), t.sub, t.pur⟩
theorem Tmp.weak (t : Tmp H O p fp1 F) (h : q = true → p = true) : Tmp H O q fp1 F := ⟨t.nod, t.out, t.sub, fun z => t.pur (h z)⟩
theorem upd_stay {D : Addr} {u' : HO} {b : Addr} {o : HO} (h : b ≠ D) (e : H b = some o) : upd H D u' b = some o := by rw [upd_ne h]; exact e
/-- a cell of ours is changed -/
theorem Sp1.poke (a : Sp1 T σ H O p H1 e1 fp1) (t : Tmp H O p fp1 F) {D : Addr} {u u' : HO} (hD : D ∈ F) (h : H1 D = some u) (mu : Mut (some u)) : Sp1 T σ H O p (upd H1 D u') e1 fp1 := by
  have kp : Keep H1 (upd H1 D u') := ⟨fun b vs eb => upd_stay (fun z => by rw [z, h] at eb; cases eb; exact mu) eb, fun b o x eb => upd_stay (fun z => by rw [z, h] at eb; cases eb; exact mu) eb⟩
  have nO : ¬ own fp1 D := t.out D hD
  refine ⟨a.re.keep kp fun x hx u eu => upd_stay (fun z => nO (z ▸ hx)) eu, a.sub, fun b o eb n => ?_, a.keep.trans kp, fun hp b o eb n => ?_⟩
  · refine upd_stay (fun z => ?_) (a.stp b o eb n)
    subst z
    rcases t.sub b hD with x | x
    · exact n x
    · rw [x] at eb; cases eb
  · refine upd_stay (fun z => ?_) (a.pure hp b o eb n)
    subst z
    rw [t.pur hp b hD] at eb; cases eb
end
theorem RCs.app {H : Hp} : ∀ {cs ds : List C} {vs us : List V} {F G : List Addr}, RCs T H cs vs F → RCs T H ds us G → RCs T H (cs ++ ds) (vs ++ us) (F ++ G)
  | [], _, _, _, _, _, .nil, r => r
  | _ :: _, _, _, _, _, _, .cons h r, r2 => by rw [List.append_assoc]; exact .cons h (RCs.app r r2)
/-- tests of a comprehension -/
def trCs (T : Tb) (W : WX) (m : Mi.Env → Mi.Res Bool) (p : Bool) : TT := fun σ H Q => ∃ e fp, RE T H e σ fp ∧ FinG T W σ H (own fp) (fun b e' => ∀ H' fp', Sp1 T σ H (own fp) p H' e' fp' → Q b H') (m e)
theorem PTs.imp {es : List Expr} {t t' : TT} (h : PTs X es t) (i : ∀ σ H Q, t' σ H Q → t σ H Q) : PTs X es t' := ⟨fun pins s σ H Q I q => h.run pins s σ H Q I (i σ H Q q)⟩
theorem C_nil : PTs X [] (trCs T W (evC P []) (purs [])) := PTs.imp pts_nil fun σ H Q ⟨e, fp, R, hq⟩ => by
  rw [evC] at hq
  exact hq H fp (Sp1.refl R)
theorem C_one {a : ME} {ea : Expr} (h : PT X ea (TT' T W P a)) : PTs X [ea] (trCs T W (evC P [a]) (purs [a])) := PTs.imp (pts_one h) fun σ H Q ⟨e, fp, R, hq⟩ => by
  refine ⟨e, fp, R, ?_⟩
  rw [evC] at hq
  cases h : ev P a e with
  | ok c e1 =>
    rw [h] at hq
    obtain ⟨b, hb, q⟩ := FinG.opt hq
    exact ⟨b, hb, fun H' fp' x => q H' fp' (x.weak fun z => by simpa [purs] using z)⟩
  | exc n e1 => rw [h] at hq; exact hq
  | stuck => rw [h] at hq; exact hq
/-- a turn -/
def turn (P : Mi.Pr) (elt : ME) (tg : Mi.Tg) (cond : List ME) : D → Mi.Env → Mi.Res (Option C) := fun d e => match Mi.bindTg tg (.val d) e with
  | some e => (evC P cond e).bind fun b e => if b then (ev P elt e).bind fun c e => (Mi.leak (bor elt) c e).bind fun c e => .ok (some c) (Mi.wipeE e tg.slots) else .ok none (Mi.wipeE e tg.slots)
  | none => .stuck
theorem ev_comp (elt : ME) (tg : Mi.Tg) (it : Mi.It) (src cond : List ME) (e : Mi.Env) : ev P (.comp elt tg it src cond) e = (evP P (pur elt && purs cond) src e).bind fun cs e => match Mi.itemsK it cs with
    | some ds => if ds.length ≤ Mi.line then (Mi.noexc (Mi.compLoop (turn P elt tg cond) ds (Mi.wipeE e tg.slots))).bind fun cs e => .ok (.lst cs) e else .stuck
    | none => .stuck := by rw [ev]; rfl
theorem turn_ok {elt : ME} {tg : Mi.Tg} {cond : List ME} {d : D} {e e' : Mi.Env} {o : Option C} (h : turn P elt tg cond d e = .ok o e') :
    ∃ e2, Mi.bindTg tg (.val d) e = some e2 ∧ ∃ b e3, evC P cond e2 = .ok b e3 ∧ ((b = false ∧ o = none ∧ e' = Mi.wipeE e3 tg.slots) ∨ (b = true ∧ ∃ c e4, ev P elt e3 = .ok c e4 ∧ (bor elt && !c.isVal) = false ∧ o = some c ∧ e' = Mi.wipeE e4 tg.slots)) := by
  unfold turn at h
  split at h
  · rename_i e2 hb
    refine ⟨e2, hb, ?_⟩
    obtain ⟨b, e3, h3, h⟩ := bind_ok h
    refine ⟨b, e3, h3, ?_⟩
    cases b with
    | false =>
      rw [if_neg Bool.false_ne_true] at h
      cases h
      exact .inl ⟨rfl, rfl, rfl⟩
    | true =>
      rw [if_pos rfl] at h
      obtain ⟨c, e4, h4, h⟩ := bind_ok h
      obtain ⟨c', e5, h5, h⟩ := bind_ok h
      cases h
      unfold Mi.leak at h5
      split at h5
      · cases h5
      · rename_i hn
        cases h5
        exact .inr ⟨rfl, _, _, h4, by simpa using hn, rfl, rfl⟩
  · cases h
theorem wipe_idem (σ : L2.St) (vs : List Nat) : wipe (wipe σ vs) vs = wipe σ vs := by
  apply List.ext_getElem?
  intro j
  rw [wipe_get, wipe_get, wipe_length]
  by_cases hj : j ∈ vs
  · rw [if_pos hj, if_pos hj]
  · rw [if_neg hj, if_neg hj]
theorem comp_rd {elt : ME} {tg : Mi.Tg} {it : Mi.It} {src cond : List ME} {own : List (Str × Nat)} {wi : TI} {g : TG} (ho : own.map (·.2) = tg.slots) (tgo : TgOk T g tg)
    (wr : ∀ σ H (R : It → Hp → Prop), TPs T W P (pur elt && purs cond) src σ H (fun vs H1 => ∃ cs F ds, RCs T H1 cs vs F ∧ Mi.itemsK it cs = some ds ∧ ItR T F ds R H1) → wi σ H R) (σ : L2.St) (H : Hp) (Q : VK) (h : TE' T W P (.comp elt tg it src cond) σ H Q) :
    tLc wi g (trCs T W0 (evC P cond) (purs cond)) (TE' T W0 P elt) (own.map (·.2)) σ H Q := by
  obtain ⟨e0, fp0, R0, hq⟩ := h
  rw [ev_comp] at hq
  unfold tLc
  refine wr σ H _ ?_
  refine TrP.step (sp0 R0) hq fun cs0 e1 vs0 H1 fp1 F0 h1 V1 hq => ?_
  split at hq
  · rename_i ds hds
    refine ⟨cs0, F0, ds, V1.rc, hds, ?_⟩
    intro J G wk g1 stab D hD
    split at hq
    · rename_i hl
      cases hr : Mi.compLoop (turn P elt tg cond) ds (Mi.wipeE e1 tg.slots) with
      | exc n e' => rw [hr] at hq; exact hq.elim
      | stuck => rw [hr] at hq; exact hq.elim
      | ok CS eE =>
        rw [hr] at hq
        have hq : VQ T σ H (MiS.own fp0) false (pur (.comp elt tg it src cond)) Q (.lst CS) eE := hq
        rw [ho]
        have dF0 : ∀ a ∈ F0, a ≠ D := fun a m z => by
          have := RCs.cell V1.rc a m
          obtain ⟨u, eu, _⟩ := this
          rw [z, hD] at eu; cases eu
        let p : Bool := pur (.comp elt tg it src cond)
        have hp1 : p = true → (true && purs src) = true := fun z => by
          have z : pur (.comp elt tg it src cond) = true := z
          simp only [pur, Bool.and_eq_true] at z; rw [z.1.2]; rfl
        have hpe : p = true → pur elt = true := fun z => by
          have z : pur (.comp elt tg it src cond) = true := z
          simp only [pur, Bool.and_eq_true] at z; exact z.1.1
        have hpc : p = true → purs cond = true := fun z => by
          have z : pur (.comp elt tg it src cond) = true := z
          simp only [pur, Bool.and_eq_true] at z; exact z.2
        let Inv' : Nat → Hp → Prop := fun i Hi => ∃ e fp cs vs F CS', Sp1 T σ H (MiS.own fp0) p Hi e fp ∧ RE T Hi e (wipe σ tg.slots) fp ∧ Hi D = some (.lst vs) ∧ RCs T Hi cs vs F ∧ Tmp H (MiS.own fp0) p fp (D :: F) ∧ Mi.compLoop (turn P elt tg cond) (ds.drop i) e = .ok CS' eE ∧ CS = cs ++ CS' ∧ cs.length ≤ i ∧ G Hi
        refine lc_it wk Inv' ?_ (fun i Hi _ ⟨_, _, _, _, _, _, _, _, _, _, _, _, _, _, g⟩ => g) ?_ ?_
        · have sn := stp_new (o := .lst []) hD
          have kn := keep_new (o := .lst []) hD
          have s1 : Sp1 T σ H (MiS.own fp0) p H1 e1 fp1 := V1.sp.weak fun z => by have := hp1 z; simpa using this
          have s2 := s1.laid kn sn
          have rw1 := s2.re.wipe (vs := tg.slots) (σ' := σ) rfl
          have t := Tmp.laid s1 (F := [D]) (List.nodup_cons.mpr ⟨fun m => (nomatch m), .nil⟩) fun x m => by rw [List.mem_singleton] at m; rw [m]; exact hD
          exact ⟨_, _, [], [], [], CS, s2.re' rw1 fun x => own_wipe, s2.re.wipe (wipe_idem σ _).symm, upd_same, .nil, t.ow fun x => own_wipe, hr, rfl, Nat.zero_le _, stab _ _ g1 kn fun a m u eu => upd_stay (dF0 a m) eu⟩
        · intro i x Hi H' hi ⟨e, fp, cs, vs, F, CS', sp, re, hDi, rc, tm, hrun, hCS, hlen, g⟩ ⟨sy, ky, d, hd, rd⟩
          rw [List.drop_eq_getElem_cons hi] at hrun
          have hdd : ds[i] = d := by rw [List.getElem?_eq_getElem hi] at hd; exact Option.some.inj hd
          rw [hdd, Mi.compLoop] at hrun
          obtain ⟨o, e5, htn, hrun⟩ := bind_ok hrun
          obtain ⟨CS2, e6, hrest, hrun⟩ := bind_ok hrun
          have hCS' : CS' = (o.toList ++ CS2) ∧ eE = e6 := by cases o <;> (cases hrun; exact ⟨rfl, rfl⟩)
          obtain ⟨hCS', rfl⟩ := hCS'
          obtain ⟨e2, hb, b, e3, hc3, alt⟩ := turn_ok htn
          have sp' := sp.laid ky sy
          have re' : RE T H' e (wipe σ tg.slots) fp := re.keep ky fun a _ u eu => sy a u eu fun z => z
          refine tgo (wipe σ tg.slots) H' e e2 fp (.val d) x [] _ re' (.val rd) .nil (fun _ m => nomatch m) hb fun σ2 fp2 re2 ho2 hw2 => ?_
          have hws : wipe σ2 tg.slots = wipe σ tg.slots := (hw2 _ fun i m => m).trans (wipe_idem σ _)
          refine ⟨hws, e2, fp2, re2, ?_⟩
          have ho2' : ∀ a, MiS.own fp2 a → MiS.own fp a := fun a h => (ho2 a h).elim id fun m => nomatch m
          have a2 : Sp1 T σ2 H (MiS.own fp0) p H' e2 fp2 := sp'.re' re2 ho2'
          have rc2 : RCs T H' cs vs F := rc.stp ky sy fun _ _ z => z
          have hD2 : H' D = some (.lst vs) := sy _ _ hDi fun z => z
          have t2 : Tmp H (MiS.own fp0) p fp2 (D :: F) := tm.ow ho2'
          have hc2 : ∀ a ∈ D :: F, ∃ u, H' a = some u := fun a m => (List.mem_cons.mp m).elim (fun z => z.symm ▸ ⟨_, hD2⟩) fun m => by obtain ⟨u, eu, _⟩ := RCs.cell rc2 a m; exact ⟨u, eu⟩
          have g2 : G H' := stab _ _ g ky fun a m u eu => sy a u eu fun z => z
          rw [hc3]
          intro H3 fp3 b3
          have a3 := a2.trans b3
          have t3 := t2.next a2 hc2 b3
          have nD3 : ¬ MiS.own fp2 D := t2.out D List.mem_cons_self
          have hD3 : H3 D = some (.lst vs) := b3.stp _ _ hD2 nD3
          have rc3 : RCs T H3 cs vs F := rc2.stp b3.keep b3.stp fun a m => t2.out a (List.mem_cons_of_mem _ m)
          have g3 : G H3 := stab _ _ g2 b3.keep fun a m u eu => by
            rcases V1.hd with z | z
            · rw [z] at m; cases m
            · rw [Bool.and_eq_true] at z; exact b3.pure z.2 a u eu fun z => z
          have wre3 : ∀ {e4 : Mi.Env} {fp4 : Nat → List Addr} {H4 : Hp}, RE T H4 e4 σ2 fp4 → RE T H4 (Mi.wipeE e4 tg.slots) (wipe σ tg.slots) (wipeF fp4 tg.slots) := fun r => r.wipe (hws.trans (wipe_idem σ _).symm)
          have wre4 : ∀ {e4 : Mi.Env} {fp4 : Nat → List Addr} {H4 : Hp}, RE T H4 e4 σ2 fp4 → RE T H4 (Mi.wipeE e4 tg.slots) σ (wipeF fp4 tg.slots) := fun r => r.wipe hws
          rcases alt with ⟨rfl, rfl, rfl⟩ | ⟨rfl, c, e4, hev, hbv, rfl, rfl⟩
          · rw [if_neg Bool.false_ne_true]
            have wk3 : p = true → (p && purs cond) = true := fun z => by rw [z, hpc z]; rfl
            refine ⟨_, _, cs, vs, F, _, (a3.weak wk3).re' (wre4 a3.re) fun _ => own_wipe, wre3 a3.re, hD3, rc3, (t3.weak wk3).ow fun _ => own_wipe, hrest, hCS.trans (by rw [hCS']; rfl), Nat.le_succ_of_le hlen, g3⟩
          · rw [if_pos rfl]
            refine ⟨e3, fp3, a3.re, ?_⟩
            rw [hev]
            intro y H4 fp4 Fy V4
            have tmy : Tmp H3 (MiS.own fp3) (pur elt) fp4 Fy := by
              cases hbo : bor elt with
              | false => exact V4.tm hbo
              | true =>
                rw [hbo] at hbv
                have : c.isVal = true := by simpa using hbv
                rw [isVal_fp V4.rc this]
                exact .nil
            have b4 := V4.sp
            have hc3' : ∀ a ∈ D :: F, ∃ u, H3 a = some u := fun a m => (List.mem_cons.mp m).elim (fun z => z.symm ▸ ⟨_, hD3⟩) fun m => by obtain ⟨u, eu, _⟩ := RCs.cell rc3 a m; exact ⟨u, eu⟩
            have wk4 : p = true → ((p && purs cond) && pur elt) = true := fun z => by rw [z, hpc z, hpe z]; rfl
            have a4 := (a3.trans b4).weak wk4
            have t4 := (t3.app a3 hc3' b4 tmy).weak wk4
            have nD4 : ¬ MiS.own fp3 D := t3.out D List.mem_cons_self
            have hD4 : H4 D = some (.lst vs) := b4.stp _ _ hD3 nD4
            have rc4 : RCs T H4 cs vs F := rc3.stp b4.keep b4.stp fun a m => t3.out a (List.mem_cons_of_mem _ m)
            have hvl : vs.length < sizeLine := by
              rw [← rcs_length rc]
              have : Mi.line = sizeLine := lineEq
              omega
            refine ⟨vs, hD4, hvl, ?_⟩
            have a5 := a4.poke (u' := .lst (vs ++ [y])) t4 (D := D) List.mem_cons_self hD4 trivial
            have nd := t4.nod
            rw [List.cons_append, List.nodup_cons] at nd
            have nDF : D ∉ F := fun m => nd.1 (List.mem_append_left _ m)
            have nDy : D ∉ Fy := fun m => nd.1 (List.mem_append_right _ m)
            have kpD : Keep H4 (upd H4 D (.lst (vs ++ [y]))) := ⟨fun b ws eb => upd_stay (fun z => by rw [z, hD4] at eb; cases eb) eb, fun b o x eb => upd_stay (fun z => by rw [z, hD4] at eb; cases eb) eb⟩
            have stD : Stp (· = D) H4 (upd H4 D (.lst (vs ++ [y]))) := fun b o eb n => upd_stay n eb
            have rc5 : RCs T (upd H4 D (.lst (vs ++ [y]))) (cs ++ [c]) (vs ++ [y]) (F ++ (Fy ++ [])) := (rc4.stp kpD stD fun a m z => nDF (z ▸ m)).app (.cons (V4.rc.stp kpD stD fun a m z => nDy (z ▸ m)) .nil)
            rw [List.append_nil] at rc5
            have g4 : G H4 := stab _ _ g3 b4.keep fun a m u eu => by
              rcases V1.hd with z | z
              · rw [z] at m; cases m
              · rw [Bool.and_eq_true] at z; exact b4.pure z.1 a u eu fun z => z
            refine ⟨_, _, cs ++ [c], vs ++ [y], F ++ Fy, _, a5.re' (wre4 a5.re) fun _ => own_wipe, wre3 a5.re, upd_same, rc5, t4.ow fun _ => own_wipe, hrest, ?_, ?_, stab _ _ g4 kpD fun a m u eu => upd_stay (dF0 a m) eu⟩
            · rw [hCS, hCS']; simp
            · rw [List.length_append, List.length_singleton]; omega
        · intro Hn ⟨e, fp, cs, vs, F, CS', sp, re, hDi, rc, tm, hrun, hCS, hlen, g⟩
          rw [List.drop_length, Mi.compLoop] at hrun
          cases hrun
          rw [List.append_nil] at hCS
          subst hCS
          exact hq (.ref D) Hn fp (D :: F) ⟨sp, .lst hDi rc, fun _ => tm⟩
    · exact hq.elim
  · exact hq.elim
theorem E_comp {elt : ME} {tg : Mi.Tg} {it : Mi.It} {src cond : List ME} {e tge iter : Expr} {ifs : List Expr} {scope : Scope} {own : List (Str × Nat)} {pos : Pos} {wi : TI} {g : TG}
    (hc : X.calm = true) (hN : X.N.Nodup) (hi : PI X tge iter wi) (ok : BlkOk X.N X.env.scope scope own) (hg : ∀ (s : Shared) (H : Hp) (C : Addr) (cl : List (Str × Addr)) (fp : List Addr), PG (X.blk s H scope (compEnvC scope cl C X.env) fp) tge g)
    (ht : ∀ (s : Shared) (H : Hp) (C : Addr) (cl : List (Str × Addr)) (fp : List Addr), PTs (X.blk s H scope (compEnvC scope cl C X.env) fp) ifs (trCs T W0 (evC P cond) (purs cond)))
    (he : ∀ (s : Shared) (H : Hp) (C : Addr) (cl : List (Str × Addr)) (fp : List Addr), PE (X.blk s H scope (compEnvC scope cl C X.env) fp) e (TE' T W0 P elt))
    (hs : ∀ x, foldedSetIterable iter X.env x = pure x) (ho : own.map (·.2) = tg.slots) (tgo : TgOk T g tg)
    (wr : ∀ σ H (R : It → Hp → Prop), TPs T W P (pur elt && purs cond) src σ H (fun vs H1 => ∃ cs F ds, RCs T H1 cs vs F ∧ Mi.itemsK it cs = some ds ∧ ItR T F ds R H1) → wi σ H R) :
    PE X (.ListComp e [⟨tge, iter, ifs, 0⟩] scope pos) (TE' T W P (.comp elt tg it src cond)) := by
  exact PE.imp (pe_lc hc hN hi ok hg ht he hs) fun σ H Q h => comp_rd ho tgo wr σ H Q h
end
end MiS
namespace MiS
open PySem PySem.Spec PyProof.Rows L2
open Mi (D C ME MS ev evs evP evA evAnd evOr evC bor pur purs)
section
variable {X : Cx} {T : Tb} {W : WX} {P : Mi.Pr}
/-! ### builtins -/
theorem bi_rd {b : Mi.Bi} {ms : List ME} {σ : L2.St} {H : Hp} {Q : VK} (h : TE' T W P (.bi b ms) σ H Q) : TPs T W P true ms σ H (fun vs H1 => rBi T b vs H1 Q) := by
  obtain ⟨e, fp, R, hq⟩ := h
  rw [ev] at hq
  refine TrP.step (sp0 R) hq fun cs e1 vs H1 fp1 F1 h1 V1 hq => ?_
  obtain ⟨z, hz, q⟩ := FinG.opt hq
  exact ⟨cs, F1, z, V1.rc, hz, fin_new V1.sp q⟩
theorem E_biB {b : Mi.Bi} {id : String} {x : Str} {ms : List ME} {e : Expr} {es : List Expr} {p pos : Pos} (hK : T.K = X.K) (hc : calmBi b = true → X.calm = true) (hb : okBi b = true) (hid : biV b = .builtin id) (hg : Gl X x) (hm : X.mg x = none) (hv : bootBuiltins x = some (.builtin id)) (hn : x ≠ "__name__") (hdb : (x == ("__debug__" : Str)) = false)
    (ha : PA X (e :: es) (TPs T W P true ms)) (he : starEach (e :: es) X.env = (false, eval e X.env) :: starEach es X.env) (hpl : (backTo pos (starEach es X.env)).any (·.1) = false) : PE X (.Call (.Name x p) (e :: es) [] pos) (TE' T W P (.bi b ms)) :=
  PE.imp (pe_callB (by rw [← hid]; exact call_bi hK b hc hb) hg hm hv ha hn hdb he hpl) fun σ H Q h => bi_rd h
theorem E_biT {b : Mi.Bi} {ty : String} {x : Str} {ms : List ME} {e : Expr} {es : List Expr} {p pos : Pos} (hK : T.K = X.K) (hc : calmBi b = true → X.calm = true) (hb : okBi b = true) (hid : biV b = .type ty) (hg : Gl X x) (hm : X.mg x = none) (hv : bootBuiltins x = some (.type ty)) (hn : x ≠ "__name__") (hdb : (x == ("__debug__" : Str)) = false)
    (ha : PA X (e :: es) (TPs T W P true ms)) (he : starEach (e :: es) X.env = (false, eval e X.env) :: starEach es X.env) (hpl : (backTo pos (starEach es X.env)).any (·.1) = false) : PE X (.Call (.Name x p) (e :: es) [] pos) (TE' T W P (.bi b ms)) :=
  PE.imp (pe_callTy (by rw [← hid]; exact call_bi hK b hc hb) hg hm hv ha hn hdb he hpl) fun σ H Q h => bi_rd h
/-! ### methods of texts -/
theorem strs_map {T : Tb} {H : Hp} {ds : List D} {vs : List V} {xs : List (List Nat)} (r : RDs T H ds vs) (h : Mi.strsD ds = some xs) : vs = (xs.map fun s => (⟨s.toArray⟩ : Str)).map V.str ∧ ∀ s ∈ xs, okS s = true := strs_rd r h
theorem joinS_tl (s : List Nat) : ∀ xs : List (List Nat), Txt.join ⟨s.toArray⟩ (xs.map fun s => (⟨s.toArray⟩ : Str)) = ⟨(Mi.joinS s xs).toArray⟩
  | [] => by rw [TL.join_eq]; rfl
  | [x] => by rw [TL.join_eq]; rfl
  | x :: y :: r => by
    have ih := joinS_tl s (y :: r)
    rw [TL.join_eq] at ih ⊢
    show (⟨x.toArray⟩ : Str) ++ (⟨s.toArray⟩ : Str) ++ Str.join _ ((y :: r).map fun s => (⟨s.toArray⟩ : Str)) = _
    rw [ih, strV_app, strV_app]
    rfl
theorem okS_join {s : List Nat} (hs : okS s = true) : ∀ {xs : List (List Nat)}, (∀ x ∈ xs, okS x = true) → okS (Mi.joinS s xs) = true
  | [], _ => rfl
  | [x], h => h x List.mem_cons_self
  | x :: y :: r, h => okS_app (okS_app (h x List.mem_cons_self) hs) (okS_join hs fun z m => h z (List.mem_cons_of_mem _ m))
/-- a method's reading -/
def rMt (T : Tb) (m : Mi.Mt) : V → List V → Hp → VK → Prop := fun x xs H Q => ∃ cs F z, RCs T H cs (x :: xs) F ∧ Mi.mtC m cs = some z ∧ R2N T H Q z
theorem mt_rd {m : Mi.Mt} {a : ME} {r : List ME} {σ : L2.St} {H : Hp} {Q : VK} (h : TE' T W P (.mt m (a :: r)) σ H Q) : tLk (TE' T W P a) σ H (fun x H1 => (∃ c F, RC T H1 c x F ∧ Mi.recvOk m c = true) ∧ TPs T W P true r σ H1 fun xs H2 => rMt T m x xs H2 Q) := by
  obtain ⟨e, fp, R, hq⟩ := h
  rw [ev] at hq
  refine Tr.step (sp0 R) hq fun c e1 v1 H1 fp1 F1 h1 V1 hq => ?_
  refine hold_lk2 V1 hq fun c' H2 F2 h2 hf hq => ?_
  split at hq
  · rename_i hr
    refine ⟨⟨c', F2, h2.rc, hr⟩, ?_⟩
    refine TrP.step h2.sp hq fun cs e2 vs H3 fp2 F3 h3 V3 hq => ?_
    obtain ⟨z, hz, q⟩ := FinG.opt hq
    exact ⟨c' :: cs, F2 ++ F3, z, .cons (h2.next V3.sp id) V3.rc, hz, fin_new (h2.sp.trans V3.sp) q⟩
  · exact hq.elim
theorem inv_join {cs : List C} {z : C} (h : Mi.mtC .join cs = some z) : ∃ s c ds xs, cs = [.val (.str s), c] ∧ c.asL = some ds ∧ Mi.strsD ds = some xs ∧ (xs.map List.length).sum + xs.length * s.length ≤ Mi.line ∧ z = .val (.str (Mi.joinS s xs)) := by
  unfold Mi.mtC at h
  split at h
  all_goals first
    | (rename_i hm _; cases hm; done)
    | (rename_i hm; cases hm; done)
    | (cases h; done)
    | skip
  rename_i s c _
  rw [Option.bind_eq_some_iff] at h
  obtain ⟨xs, h1, h2⟩ := h
  rw [Option.bind_eq_some_iff] at h1
  obtain ⟨ds, h1, h3⟩ := h1
  split at h2
  · cases h2; exact ⟨s, c, ds, xs, rfl, h1, h3, by assumption, rfl⟩
  · cases h2
theorem inv_index {cs : List C} {z : C} (h : Mi.mtC .index cs = some z) : ∃ (s : List Nat) (c n : Nat), cs = [.val (.str s), .val (.str [c])] ∧ s.length ≤ Mi.line ∧ s.findIdx? (· == c) = some n ∧ z = .val (.int n) := by
  unfold Mi.mtC at h
  split at h
  all_goals first
    | (rename_i hm _; cases hm; done)
    | (rename_i hm; cases hm; done)
    | (cases h; done)
    | skip
  rename_i s c _
  split at h
  · rename_i hl
    rw [Option.map_eq_some_iff] at h
    obtain ⟨n, hn, rfl⟩ := h
    exact ⟨s, c, n, rfl, hl, hn, rfl⟩
  · cases h
theorem mt_joinM (hK : T.K = X.K) : MtR X "str.join" (rMt T .join) := by
  intro pins s σ H x xs v us Q I rx rs ⟨cs, F, z, rc, hz, q⟩
  obtain ⟨a, c, ds, ys, rfl, h1, h2, h3, rfl⟩ := inv_join hz
  cases rc with
  | cons hx r => cases r with
    | cons hy r => cases r
                   obtain ⟨rfl, oka⟩ := rcStr hx
                   obtain ⟨p, vs, rfl, sq, rd⟩ := asL_sq hy h1
                   obtain ⟨rfl, oks⟩ := strs_rd rd h2
                   refine mt_join pins s σ H _ _ v us Q I rx rs ⟨_, p, ys.map fun s => (⟨s.toArray⟩ : Str), rfl, rfl, .inl (by rw [← hK]; exact sq), ?_, ?_⟩
                   · rw [List.map_map, List.length_map, len_mk]
                     have : (Str.length ∘ fun s : List Nat => (⟨s.toArray⟩ : Str)) = List.length := by funext s; exact len_mk s
                     rw [this]
                     exact h3
                   · rw [joinS_tl]
                     exact q.sc (.str _ (okS_join oka oks))
theorem mt_indexM : MtR X "str.index" (rMt T .index) := by
  intro pins s σ H x xs v us Q I rx rs ⟨cs, F, z, rc, hz, q⟩
  obtain ⟨a, c, n, rfl, h1, h2, rfl⟩ := inv_index hz
  cases rc with
  | cons hx r => cases r with
    | cons hy r => cases r
                   obtain ⟨rfl, oka⟩ := rcStr hx
                   obtain ⟨rfl, okb⟩ := rcStr hy
                   exact mt_sindex pins s σ H _ _ v us Q I rx rs ⟨_, _, n, [], rfl, rfl, MiO.occ_sign _ c n (by simpa using h2), q.sc (.int _)⟩
theorem mono_E {m : Mi.Env → Mi.Res C} {b p : Bool} {σ : L2.St} {H : Hp} {Q Q' : VK} (i : ∀ v H, Q v H → Q' v H) (h : Tr T W m b p σ H Q) : Tr T W m b p σ H Q' := by
  obtain ⟨e, fp, R, hq⟩ := h
  exact ⟨e, fp, R, FinG.mono (fun _ _ h v H' fp' F x => i _ _ (h v H' fp' F x)) hq⟩
theorem mono_L {m : Mi.Env → Mi.Res C} {b p : Bool} {σ : L2.St} {H : Hp} {Q Q' : VK} (i : ∀ v H, Q v H → Q' v H) (h : tLk (Tr T W m b p) σ H Q) : tLk (Tr T W m b p) σ H Q' := mono_E (fun v H q => q.imp fun H' => i v H') h
theorem mt_rd1 {m : Mi.Mt} (hm : m = .join ∨ m = .index) {a b : ME} {σ : L2.St} {H : Hp} {Q : VK} (h : TE' T W P (.mt m [a, b]) σ H Q) : tM1 (rMt T m) (tLk (TE' T W P a)) (tOne (TPs T W P true [b])) σ H Q := by
  refine mono_L (fun v H ⟨⟨c, F, rc, ok⟩, h⟩ => ⟨?_, ?_⟩) (mt_rd h)
  · rcases hm with rfl | rfl
    · rcases c with (_ | _ | _ | s | _ | _ | _ | _ | _) | _ | _ | _ | _ <;> first | (exact ⟨_, (rcStr rc).1⟩) | (simp [Mi.recvOk] at ok)
    · rcases c with (_ | _ | _ | s | _ | _ | _ | _ | _) | _ | _ | _ | _ <;> first | (exact ⟨_, (rcStr rc).1⟩) | (simp [Mi.recvOk] at ok)
  · exact mono_P _ _ _ _ (fun vs H1 r v e => by subst e; exact r) h
theorem E_join {a b : ME} {ea eb : Expr} {apos pos : Pos} (hK : T.K = X.K) (ha : PE X ea (TE' T W P a)) (hb : PE X eb (TE' T W P b)) (hs : starEach [eb] X.env = [(false, eval eb X.env)]) (hbase : attributeBase ea "join" X.env (eval ea X.env) = eval ea X.env) (hline : (apos.endLine == pos.line) = true) :
    PE X (.Call (.Attribute ea "join" apos) [eb] [] pos) (TE' T W P (.mt .join [a, b])) :=
  PE.imp (pe_m1 PySem.F.slot_str_join PySem.F.type_str_join (mt_joinM hK) (PE.lk ha) (P_one (q := true) hb) hs hbase hline) fun σ H Q h => mt_rd1 (.inl rfl) h
theorem E_index {a b : ME} {ea eb : Expr} {apos pos : Pos} (ha : PE X ea (TE' T W P a)) (hb : PE X eb (TE' T W P b)) (hs : starEach [eb] X.env = [(false, eval eb X.env)]) (hbase : attributeBase ea "index" X.env (eval ea X.env) = eval ea X.env) (hline : (apos.endLine == pos.line) = true) :
    PE X (.Call (.Attribute ea "index" apos) [eb] [] pos) (TE' T W P (.mt .index [a, b])) :=
  PE.imp (pe_m1 PySem.F.slot_str_index PySem.F.type_str_index mt_indexM (PE.lk ha) (P_one (q := true) hb) hs hbase hline) fun σ H Q h => mt_rd1 (.inr rfl) h
/-! ### isinstance -/
def tyN : Mi.Ty → String
  | .int => "int" | .bool => "bool" | .str => "str" | .tuple => "tuple" | .list => "list" | .cls _ => ""
theorem k5 {n : String} {f : Mi.Ty → Bool} {a b c d e : Bool} (h : (kitB n "int", kitB n "bool", kitB n "str", kitB n "tuple", kitB n "list") = (some a, some b, some c, some d, some e)) (h1 : f .int = a) (h2 : f .bool = b) (h3 : f .str = c) (h4 : f .tuple = d) (h5 : f .list = e) : ∀ t : Mi.Ty, (∀ c, t ≠ .cls c) → kitB n (tyN t) = some (f t) := by
  intro t ht
  simp only [Prod.mk.injEq] at h
  obtain ⟨a1, a2, a3, a4, a5⟩ := h
  cases t with
  | int => rw [h1]; exact a1
  | bool => rw [h2]; exact a2
  | str => rw [h3]; exact a3
  | tuple => rw [h4]; exact a4
  | list => rw [h5]; exact a5
  | cls c => exact absurd rfl (ht c)
theorem k5N {f : Mi.Ty → Bool} (h1 : f .int = false) (h2 : f .bool = false) (h3 : f .str = false) (h4 : f .tuple = false) (h5 : f .list = false) : ∀ t : Mi.Ty, (∀ c, t ≠ .cls c) → kitB "NoneType" (tyN t) = some (f t) := k5 (by decide +kernel) h1 h2 h3 h4 h5
theorem k5B {f : Mi.Ty → Bool} (h1 : f .int = true) (h2 : f .bool = true) (h3 : f .str = false) (h4 : f .tuple = false) (h5 : f .list = false) : ∀ t : Mi.Ty, (∀ c, t ≠ .cls c) → kitB "bool" (tyN t) = some (f t) := k5 (by decide +kernel) h1 h2 h3 h4 h5
theorem k5I {f : Mi.Ty → Bool} (h1 : f .int = true) (h2 : f .bool = false) (h3 : f .str = false) (h4 : f .tuple = false) (h5 : f .list = false) : ∀ t : Mi.Ty, (∀ c, t ≠ .cls c) → kitB "int" (tyN t) = some (f t) := k5 (by decide +kernel) h1 h2 h3 h4 h5
theorem k5S {f : Mi.Ty → Bool} (h1 : f .int = false) (h2 : f .bool = false) (h3 : f .str = true) (h4 : f .tuple = false) (h5 : f .list = false) : ∀ t : Mi.Ty, (∀ c, t ≠ .cls c) → kitB "str" (tyN t) = some (f t) := k5 (by decide +kernel) h1 h2 h3 h4 h5
theorem k5T {f : Mi.Ty → Bool} (h1 : f .int = false) (h2 : f .bool = false) (h3 : f .str = false) (h4 : f .tuple = true) (h5 : f .list = false) : ∀ t : Mi.Ty, (∀ c, t ≠ .cls c) → kitB "tuple" (tyN t) = some (f t) := k5 (by decide +kernel) h1 h2 h3 h4 h5
theorem k5L {f : Mi.Ty → Bool} (h1 : f .int = false) (h2 : f .bool = false) (h3 : f .str = false) (h4 : f .tuple = false) (h5 : f .list = true) : ∀ t : Mi.Ty, (∀ c, t ≠ .cls c) → kitB "list" (tyN t) = some (f t) := k5 (by decide +kernel) h1 h2 h3 h4 h5
theorem k5D {f : Mi.Ty → Bool} (h1 : f .int = false) (h2 : f .bool = false) (h3 : f .str = false) (h4 : f .tuple = false) (h5 : f .list = false) : ∀ t : Mi.Ty, (∀ c, t ≠ .cls c) → kitB "dict" (tyN t) = some (f t) := k5 (by decide +kernel) h1 h2 h3 h4 h5
theorem tyx_tup (hK : T.K = X.K) {H : Hp} {a : Addr} {vs : List V} (h : SqT T.K H a vs) : TyX X.K H (.ref a) (.type "tuple") := by
  rcases h with (h | ⟨o, h⟩) | h
  · exact .base (.tup h)
  · exact .fTuple h
  · obtain ⟨o, its, n, h1, h2, _⟩ := h
    rw [hK] at h1
    exact .kTuple h1 h2
theorem ty_of (hK : T.K = X.K) {H : Hp} {c : C} {v : V} {F : List Addr} {t : Mi.Ty} (r : RC T H c v F) (ht : ∀ c, t ≠ .cls c) (hk : Mi.isiT t c.top = true) : ∃ n, TyX X.K H v (.type n) ∧ kitB n (tyN t) = some (Mi.tyD P.sub c.top t) := by
  cases r with
  | val r =>
    cases r with
    | non => exact ⟨"NoneType", .base .non, k5N rfl rfl rfl rfl rfl t ht⟩
    | bl b => exact ⟨"bool", .base (.bl b), k5B rfl rfl rfl rfl rfl t ht⟩
    | int i => exact ⟨"int", .base (.int i), k5I rfl rfl rfl rfl rfl t ht⟩
    | str s _ => exact ⟨"str", .base (.str _), k5S rfl rfl rfl rfl rfl t ht⟩
    | tup h r =>
      exact ⟨"tuple", tyx_tup hK h, k5T rfl rfl rfl rfl rfl t ht⟩
    | lst h r =>
      refine ⟨"list", ?_, k5L rfl rfl rfl rfl rfl t ht⟩
      rcases h with ⟨o, h⟩ | ⟨o, its, n, h1, h2, _⟩
      · exact .base (.frz h)
      · rw [hK] at h1; exact .kList h1 h2
    | dct h k r =>
      exact ⟨"dict", .fDict h, k5D rfl rfl rfl rfl rfl t ht⟩
    | obj _ _ _ _ _ => cases t <;> simp [Mi.isiT, Mi.C.top] at hk
    | exc _ =>
      cases t with
      | cls c => exact absurd rfl (ht c)
      | _ => simp [Mi.isiT, Mi.C.top] at hk
  | lst h r => exact ⟨"list", .base (.lst h), k5L rfl rfl rfl rfl rfl t ht⟩
  | tup h r => exact ⟨"tuple", tyx_tup hK h, k5T rfl rfl rfl rfl rfl t ht⟩
  | dct h _ r => exact ⟨"dict", .base (.dK h), k5D rfl rfl rfl rfl rfl t ht⟩
  | obj _ _ _ _ _ => cases t <;> simp [Mi.isiT, Mi.C.top] at hk
theorem E_isi (hK : T.K = X.K) {a : ME} {t : Mi.Ty} {ea : Expr} {p p2 pos : Pos} {x : Str} (ht : ∀ c, t ≠ .cls c) (hg : Gl X "isinstance") (hm : X.mg "isinstance" = none) (hx : PE X (.Name x p2) (tC (.ty (tyN t)))) (ha : PE X ea (TE' T W P a))
    (he : starEach [ea, .Name x p2] X.env = (false, eval ea X.env) :: starEach [.Name x p2] X.env) : PE X (.Call (.Name "isinstance" p) [ea, .Name x p2] [] pos) (TE' T W P (.isi a [t])) := by
  refine PE.imp (pe_callB call_isi hg hm rfl (pa_cons ha (pa_cons hx pa_nil rfl) he) (by decide) (by decide) he rfl) fun σ H Q ⟨e, fp, R, hq⟩ => ?_
  rw [ev] at hq
  refine Tr.step (sp0 R) hq fun c e1 v1 H1 fp1 F1 h1 V1 hq => ?_
  dsimp only at hq
  split at hq
  · rename_i h
    obtain ⟨n, tx, kb⟩ := ty_of (P := P) hK V1.rc ht h
    exact ⟨v1, .ty (tyN t), _, _, _, rfl, .ty _, tx, kit_ty kb, fin_sc V1.sp hq (.bl _)⟩
  · exact hq.elim
end
end MiS
namespace MiS
open PySem PySem.Spec PyProof.Rows L2
open Sem (wp)
/-! list(zip(a, b)) of two tuples: each pair is still held when the next one is made -/
section
variable {prog : Program} {w : World} {A : Around} {E : Value → Shared → Prop} {s : Shared}
theorem zipT_item_held {z TI TO T i1 i2 l1 l2 : Addr} {f : Bool} {oT : Obj} {k1 k2 : Nat} {xs ys : Array Value} {x y : Value} {Q : Value → Shared → Prop} (D : ZipApart z TI TO i1 i2 l1 l2)
    (hz : IsZipHeld s.heap z TI TO T f) (hT : s.heap.get? T = some oT) (hTI : IsPair s.heap TI (.ref i1) (.ref i2))
    (h1 : s.heap.IsTupleIter i1 l1 k1) (h2 : s.heap.IsTupleIter i2 l2 k2) (hl1 : s.heap.IsTuple l1 xs) (hl2 : s.heap.IsTuple l2 ys) (hx : xs[k1]? = some x) (hy : ys[k2]? = some y)
    (hQ : ∀ h', IsZipHeld h' z TI TO T true → h'.IsTupleIter i1 l1 (k1 + 1) → h'.IsTupleIter i2 l2 (k2 + 1) → IsPair h' s.heap.objs.size x y → h'.objs.size = s.heap.objs.size + 1 →
      (∀ c o, c ≠ z → c ≠ i1 → c ≠ i2 → s.heap.get? c = some o → h'.get? c = some o) → Q (.ref s.heap.objs.size) { s with heap := h' }) :
    wpAny (model prog w) A (Builtin.«zip.__next__» ⟨[.ref z], []⟩) (fun fin s' => ∃ v, fin = .done (.ret v) ∧ Q v s') E s := by
  show wpAny _ _ (field (.ref z) 2 >>= _) _ _ _
  refine wpAny_bind (wpAny_field hz rfl (x := .bool false) rfl ?_)
  show wpAny _ _ (field (.ref z) 3 >>= _) _ _ _
  refine wpAny_bind (wpAny_field hz rfl (x := .ref TI) rfl (wpAny_bind (wpAny_seqItems hTI rfl ?_)))
  show wpAny _ _ (Builtin.SmallTypes.ownedTupleIsFree (.ref z) >>= _) _ _ _
  refine wpAny_bind (wpAny_tupleHeld_zip hz hT fun g1 z1 b1 => ?_)
  simp only [Bool.false_eq_true, if_false]
  refine wpAny_bind ?_
  rw [← Array.forIn_toList]
  simp only [List.forIn_cons, List.forIn_nil]
  refine wpAny_bind (wpAny_bind (wpAny_holding ?_))
  show wpAny _ _ (Builtin.SmallTypes.nextOf (.ref i1) >>= _) _ _ _
  refine wpAny_bind (RZ.nextOf_tuple_item (s := { s with heap := g1 }) (h1.extBut b1.extBut D.i1z) (hl1.extBut b1.extBut D.l1z) hx fun g2 p2 b2 => wpAny_pure (wpAny_pure ?_))
  refine wpAny_bind (wpAny_bind (wpAny_holding ?_))
  show wpAny _ _ (Builtin.SmallTypes.nextOf (.ref i2) >>= _) _ _ _
  refine wpAny_bind (RZ.nextOf_tuple_item (s := { s with heap := g2 }) ((h2.extBut b1.extBut D.i2z).extBut b2.extBut D.i12.symm) ((hl2.extBut b1.extBut D.l2z).extBut b2.extBut D.l2i1) hy fun g3 p3 b3 => wpAny_pure (wpAny_pure (wpAny_pure ?_)))
  show wpAny _ _ (newTuple [x, y] >>= _) _ _ _
  refine wpAny_bind (wpAny_newTuple (wpAny_pure ⟨_, rfl, ?_⟩))
  have hsz : g3.objs.size = s.heap.objs.size := by rw [b3.1, b2.1, b1.1]
  have z3 : IsZipHeld g3 z TI TO T true := b3.extBut _ _ D.i2z.symm (b2.extBut _ _ D.i1z.symm z1)
  have p23 : g3.IsTupleIter i1 l1 (k1 + 1) := p2.extBut b3.extBut D.i12
  have np : IsPair (g3.push { cls := .type "tuple", data := .seq #[x, y] }) g3.objs.size x y := Heap.get?_push_size _ rfl
  have ns : (g3.push { cls := .type "tuple", data := .seq #[x, y] }).objs.size = g3.objs.size + 1 := Heap.size_push ..
  show Q (.ref g3.objs.size) _
  rw [hsz] at np ns ⊢
  exact hQ _ (Heap.get?_push_of_some _ z3) (p23.at fun o e => Heap.get?_push_of_some _ e) (p3.at fun o e => Heap.get?_push_of_some _ e) np ns
    fun c o c1 c2 c3 e => Heap.get?_push_of_some _ (b3.extBut _ _ c3 (b2.extBut _ _ c2 (b1.extBut _ _ c1 e)))
theorem zipT_end_held {z TI TO T i1 i2 l1 l2 : Addr} {f : Bool} {oT : Obj} {k1 k2 : Nat} {xs ys : Array Value} {Q : Fin → Shared → Prop} (hh : A.handled = none) (D : ZipApart z TI TO i1 i2 l1 l2)
    (hz : IsZipHeld s.heap z TI TO T f) (hT : s.heap.get? T = some oT) (hTI : IsPair s.heap TI (.ref i1) (.ref i2))
    (h1 : s.heap.IsTupleIter i1 l1 k1) (h2 : s.heap.IsTupleIter i2 l2 k2) (hl1 : s.heap.IsTuple l1 xs) (hl2 : s.heap.IsTuple l2 ys) (hend : xs[k1]? = none ∨ ys[k2]? = none)
    (hE : ∀ h' e, (∀ c o, c ≠ z → c ≠ i1 → c ≠ i2 → s.heap.get? c = some o → h'.get? c = some o) → (∃ o, h'.get? e = some o ∧ o.cls = .type "StopIteration") → E (.ref e) { s with heap := h' }) :
    wpAny (model prog w) A (Builtin.«zip.__next__» ⟨[.ref z], []⟩) Q E s := by
  show wpAny _ _ (field (.ref z) 2 >>= _) _ _ _
  refine wpAny_bind (wpAny_field hz rfl (x := .bool false) rfl ?_)
  show wpAny _ _ (field (.ref z) 3 >>= _) _ _ _
  refine wpAny_bind (wpAny_field hz rfl (x := .ref TI) rfl (wpAny_bind (wpAny_seqItems hTI rfl ?_)))
  show wpAny _ _ (Builtin.SmallTypes.ownedTupleIsFree (.ref z) >>= _) _ _ _
  refine wpAny_bind (wpAny_tupleHeld_zip hz hT fun g1 z1 b1 => ?_)
  simp only [Bool.false_eq_true, if_false]
  refine wpAny_bind ?_
  rw [← Array.forIn_toList]
  simp only [List.forIn_cons, List.forIn_nil]
  refine wpAny_bind (wpAny_bind (wpAny_holding ?_))
  show wpAny _ _ (Builtin.SmallTypes.nextOf (.ref i1) >>= _) _ _ _
  cases hx : xs[k1]? with
  | none =>
    exact wpAny_bind (RZ.nextOf_tuple_end (s := { s with heap := g1 }) hh (h1.extBut b1.extBut D.i1z) (hl1.extBut b1.extBut D.l1z) hx fun g2 e b2 he =>
      hE g2 e (fun c o c1 c2 _ q => b2 _ _ c2 (b1.extBut _ _ c1 q)) he)
  | some x =>
    have hy : ys[k2]? = none := hend.resolve_left fun h => by rw [hx] at h; cases h
    refine wpAny_bind (RZ.nextOf_tuple_item (s := { s with heap := g1 }) (h1.extBut b1.extBut D.i1z) (hl1.extBut b1.extBut D.l1z) hx fun g2 p2 b2 => wpAny_pure (wpAny_pure ?_))
    refine wpAny_bind (wpAny_bind (wpAny_holding ?_))
    show wpAny _ _ (Builtin.SmallTypes.nextOf (.ref i2) >>= _) _ _ _
    exact wpAny_bind (RZ.nextOf_tuple_end (s := { s with heap := g2 }) hh ((h2.extBut b1.extBut D.i2z).extBut b2.extBut D.i12.symm) ((hl2.extBut b1.extBut D.l2z).extBut b2.extBut D.l2i1) hy fun g3 e b3 he =>
      hE g3 e (fun c o c1 c2 c3 q => b3 _ _ c3 (b2.extBut _ _ c2 (b1.extBut _ _ c1 q))) he)
/-- the zip at z as it stands at turn i -/
def ZS (S z TI TO i1 i2 l1 l2 : Addr) (i : Nat) (h : Heap) : Prop :=
  IsPair h TI (.ref i1) (.ref i2) ∧ h.IsTupleIter i1 l1 i ∧ h.IsTupleIter i2 l2 i ∧ ((IsZip h z TI TO .none ∧ ∃ a b, IsPair h TO a b) ∨ ∃ T f oT, IsZipHeld h z TI TO T f ∧ h.get? T = some oT ∧ T ≠ z ∧ T ≠ TO ∧ T ≠ i1 ∧ T ≠ i2 ∧ T ≠ S)
theorem ZS.type {S z TI TO i1 i2 l1 l2 : Addr} {i : Nat} (st : ZS S z TI TO i1 i2 l1 l2 i s.heap) : s.TypeIs (.ref z) "zip" := by
  obtain ⟨_, _, _, ⟨h, _⟩ | ⟨_, _, _, h, _⟩⟩ := st
  · exact ⟨_, h, rfl⟩
  · exact ⟨_, h, rfl⟩
theorem ZS.next {S z TI TO i1 i2 l1 l2 : Addr} {i : Nat} {xs ys : Array Value} {x y : Value} {Q : Option Value → Shared → Prop} (D : ZipApart z TI TO i1 i2 l1 l2) (st : ZS S z TI TO i1 i2 l1 l2 i s.heap)
    (hl1 : s.heap.IsTuple l1 xs) (hl2 : s.heap.IsTuple l2 ys) (hx : xs[i]? = some x) (hy : ys[i]? = some y)
    (hS : ∃ o, s.heap.get? S = some o) (hQ : ∀ h', ZS S z TI TO i1 i2 l1 l2 (i + 1) h' → IsPair h' s.heap.objs.size x y → h'.objs.size = s.heap.objs.size + 1 →
      (∀ c o, c ∉ [z, TO, i1, i2] → s.heap.get? c = some o → h'.get? c = some o) → Q (some (.ref s.heap.objs.size)) { s with heap := h' }) : wpAny (model prog w) A (pyNext (.ref z)) Q E s := by
  have hTy := st.type
  obtain ⟨hTI, h1, h2, hz⟩ := st
  have lt : ∀ {c o}, s.heap.get? c = some o → s.heap.objs.size ≠ c := fun e => Nat.ne_of_gt (Heap.lt_size e)
  have n1 : s.heap.objs.size ≠ i1 := let ⟨_, e, _⟩ := h1; lt e
  have n2 : s.heap.objs.size ≠ i2 := let ⟨_, e, _⟩ := h2; lt e
  rcases hz with ⟨hz, a, b, hTO⟩ | ⟨T, f, oT, hz, hT, r1, rO, r2, r3, r4⟩
  · refine RZ.pyNext_zipT_item D hz hTI hTO h1 h2 hl1 hl2 hx hy fun h' a1 a2 a3 a4 a5 a6 hk => ?_
    exact hQ h' ⟨hk _ _ D.TIz D.TITO D.TIi1 D.TIi2 hTI, a3, a4, .inr ⟨_, false, _, a1, a5, lt hz, lt hTO, n1, n2, (let ⟨_, e⟩ := hS; lt e)⟩⟩ a5 a6 fun c o hc e => hk c o (fun q => hc (by simp [q])) (fun q => hc (by simp [q])) (fun q => hc (by simp [q])) (fun q => hc (by simp [q])) e
  · unfold pyNext
    refine wpAny_bind (wpAny_attempt (wpAny_callSpecial?_slot (name := Str.ofString "__next__") hTy F.slot_zip_next (wpAny_call_entry F.slot_zip_next hTy F.entry_zip_next
      (zipT_item_held D hz hT hTI h1 h2 hl1 hl2 hx hy fun h' a1 a3 a4 a5 a6 hk => wpAny_pure ?_) (F.args_zip_next_1 _))))
    exact hQ h' ⟨hk _ _ D.TIz D.TIi1 D.TIi2 hTI, a3, a4, .inr ⟨T, true, oT, a1, hk _ _ r1 r2 r3 hT, r1, rO, r2, r3, r4⟩⟩ a5 a6 fun c o hc e => hk c o (fun q => hc (by simp [q])) (fun q => hc (by simp [q])) (fun q => hc (by simp [q])) e
theorem ZS.done {S z TI TO i1 i2 l1 l2 : Addr} {i : Nat} {xs ys : Array Value} {Q : Option Value → Shared → Prop} (hh : A.handled = none) (D : ZipApart z TI TO i1 i2 l1 l2) (st : ZS S z TI TO i1 i2 l1 l2 i s.heap)
    (hl1 : s.heap.IsTuple l1 xs) (hl2 : s.heap.IsTuple l2 ys) (hend : xs[i]? = none ∨ ys[i]? = none)
    (hQ : ∀ h', (∀ c o, c ∉ [z, TO, i1, i2] → s.heap.get? c = some o → h'.get? c = some o) → Q none { s with heap := h' }) : wpAny (model prog w) A (pyNext (.ref z)) Q E s := by
  have hTy := st.type
  obtain ⟨hTI, h1, h2, hz⟩ := st
  rcases hz with ⟨hz, a, b, hTO⟩ | ⟨T, f, oT, hz, hT, r1, rO, r2, r3, r4⟩
  · exact RZ.pyNext_zipT_end hh D hz hTI hTO h1 h2 hl1 hl2 hend fun h' hk => hQ h' fun c o hc e => hk c o (fun q => hc (by simp [q])) (fun q => hc (by simp [q])) (fun q => hc (by simp [q])) (fun q => hc (by simp [q])) e
  · unfold pyNext
    refine wpAny_bind (wpAny_attempt (wpAny_callSpecial?_slot (name := Str.ofString "__next__") hTy F.slot_zip_next (wpAny_call_entry F.slot_zip_next hTy F.entry_zip_next
      (zipT_end_held hh D hz hT hTI h1 h2 hl1 hl2 hend fun h' e hk ⟨o, ho, hc⟩ => ?_) (F.args_zip_next_1 _))))
    refine wpAny_bind (wpAny_isInstance (T := "StopIteration") (b := true) ⟨o, ho, hc⟩ isSubtype_stop ?_)
    exact wpAny_pure (hQ _ fun c o hc e => hk c o (fun q => hc (by simp [q])) (fun q => hc (by simp [q])) (fun q => hc (by simp [q])) e)
end
theorem ZS.keep {S z TI TO i1 i2 l1 l2 : Addr} {i : Nat} {h h' : Heap} (st : ZS S z TI TO i1 i2 l1 l2 i h) (n : S ∉ [z, TI, TO, i1, i2]) (k : ∀ b o, b ≠ S → h.get? b = some o → h'.get? b = some o) : ZS S z TI TO i1 i2 l1 l2 i h' := by
  simp only [List.mem_cons, List.not_mem_nil, or_false, not_or] at n
  obtain ⟨nz, nTI, nTO, n1, n2⟩ := n
  obtain ⟨hTI, h1, h2, hz⟩ := st
  refine ⟨k _ _ (Ne.symm nTI) hTI, h1.at fun o e => k _ o (Ne.symm n1) e, h2.at fun o e => k _ o (Ne.symm n2) e, ?_⟩
  rcases hz with ⟨hz, a, b, hTO⟩ | ⟨T, f, oT, hz, hT, r1, rO, r2, r3, r4⟩
  · exact .inl ⟨k _ _ (Ne.symm nz) hz, a, b, k _ _ (Ne.symm nTO) hTO⟩
  · exact .inr ⟨T, f, oT, k _ _ (Ne.symm nz) hz, k _ _ r4 hT, r1, rO, r2, r3, r4⟩
/-- the pairs laid so far -/
def PrA (H : Hp) (Ts : List Addr) (xs ys : List V) : Prop := ∀ (j : Nat) (T : Addr), Ts[j]? = some T → ∃ x y, xs[j]? = some x ∧ ys[j]? = some y ∧ H T = some (.tup [x, y])
section
variable {X : Cx} {pins : List (Addr × Obj)} {σ : L2.St} {A : Around} {R : Result → Shared → Prop}
theorem lz_loop (hh : A.handled = none) {S z TI TO i1 i2 l1 l2 : Addr} (D : ZipApart z TI TO i1 i2 l1 l2) (res : Value) (xs ys : List V) (hxl : xs.length ≤ sizeLine) (hSn : S ∉ [z, TI, TO, i1, i2]) :
    ∀ (k : Nat) (Ts : List Addr) (H : Hp) (s : Shared), Ts.length + k = min xs.length ys.length → Inv X pins σ H s → SqT X.K H l1 xs → SqT X.K H l2 ys → ZS S z TI TO i1 i2 l1 l2 Ts.length s.heap → H S = some (.lst (Ts.map V.ref)) → PrA H Ts xs ys → (∀ b ∈ [z, TO, i1, i2], FpOk X pins H b ∧ b < s.heap.objs.size) →
    (∀ (Ts' : List Addr) (H' : Hp) (s' : Shared), Ts'.length = min xs.length ys.length → Inv X pins σ H' s' → (∀ b o, b ≠ S → H b = some o → H' b = some o) → H' S = some (.lst (Ts'.map V.ref)) → PrA H' Ts' xs ys → R (.ok (.ret res)) s') →
    codeAny (model X.prog X.w) A (.builtin "list.extend.loop" ⟨[.ref S, .ref z, res], []⟩) R s := by
  intro k
  induction k with
  | zero =>
    intro Ts H s hk I q1 q2 st hS hP hf hR
    obtain ⟨its1, rv1, p1, _⟩ := I.tuple q1
    obtain ⟨its2, rv2, p2, _⟩ := I.tuple q2
    have e1 := rv1.length
    have e2 := rv2.length
    refine codeAny_builtin F.entry_extend_loop ?_
    rw [Around.under_plainId F.plain_extend_loop _]
    show wpAny _ A.in1 (pyNext (.ref z) >>= _) _ _ s
    have hend : its1.toArray[Ts.length]? = none ∨ its2.toArray[Ts.length]? = none := by
      rcases Nat.le_total xs.length ys.length with h | h
      · exact .inl (by simp; omega)
      · exact .inr (by simp; omega)
    refine wpAny_bind (ZS.done (A := A.in1) hh D st (show s.heap.IsTuple l1 its1.toArray from p1) (show s.heap.IsTuple l2 its2.toArray from p2) hend fun h' kp => ?_)
    exact wpAny_pure (hR Ts H _ hk (I.turnedL (t' := s.toks) (ch := [z, TO, i1, i2]) kp fun b hb => (hf b hb).1) (fun b o _ e => e) hS hP)
  | succ k ih =>
    intro Ts H s hk I q1 q2 st hS hP hf hR
    obtain ⟨its1, rv1, p1, _⟩ := I.tuple q1
    obtain ⟨its2, rv2, p2, _⟩ := I.tuple q2
    have e1 := rv1.length
    have e2 := rv2.length
    have l1' : Ts.length < xs.length := by omega
    have l2' : Ts.length < ys.length := by omega
    have gx : xs[Ts.length]? = some xs[Ts.length] := List.getElem?_eq_getElem l1'
    have gy : ys[Ts.length]? = some ys[Ts.length] := List.getElem?_eq_getElem l2'
    obtain ⟨u1, hu1, ru1⟩ := rv1.get gx
    obtain ⟨u2, hu2, ru2⟩ := rv2.get gy
    refine codeAny_builtin F.entry_extend_loop ?_
    rw [Around.under_plainId F.plain_extend_loop _]
    show wpAny _ A.in1 (pyNext (.ref z) >>= _) _ _ s
    obtain ⟨hz, itsS, cS, rvS, gS⟩ := I.hok S _ hS
    have hSlt : S < s.heap.objs.size := Heap.lt_size gS
    refine wpAny_bind (ZS.next (A := A.in1) D st (show s.heap.IsTuple l1 its1.toArray from p1) (show s.heap.IsTuple l2 its2.toArray from p2) (x := u1) (y := u2) (by simpa using hu1) (by simpa using hu2) ⟨_, gS⟩ fun h' st' hT hsz kp => ?_)
    have hTn : H s.heap.objs.size = none := I.hok.fresh (Nat.le_refl _)
    have hSw : S ∉ [z, TO, i1, i2] := fun m => hSn (by
      simp only [List.mem_cons, List.not_mem_nil, or_false] at m ⊢
      rcases m with m | m | m | m <;> simp [m])
    have gS' := kp S _ hSw gS
    have I1 : Inv X pins σ (upd H s.heap.objs.size (.tup [xs[Ts.length], ys[Ts.length]])) { s with heap := h', toks := s.toks } :=
      I.turnedNew (ch := [z, TO, i1, i2]) kp (fun b hb => (hf b hb).1) (Nat.le_refl _) ⟨by show 2 ≤ sizeLine; decide, [u1, u2], .cons ru1 (.cons ru2 .nil), _, hT, rfl, _, rfl⟩
    show wpAny _ A.in1 (updateSeq S (·.push (Value.ref s.heap.objs.size)) >>= _) _ _ _
    refine wpAny_bind ?_
    have lenS : itsS.toArray.size = Ts.length := by
      have := rvS.length
      rw [List.length_map] at this
      rw [List.size_toArray]
      omega
    have hSH : upd H s.heap.objs.size (.tup [xs[Ts.length], ys[Ts.length]]) S = some (.lst (Ts.map V.ref)) := by rw [upd_ne (Nat.ne_of_lt hSlt)]; exact hS
    have upS := Heap.get?_update_self (Obj.mapSeq (·.push (Value.ref s.heap.objs.size))) gS' rfl
    refine wpAny_updateSeq gS' rfl (wpAny_pure ⟨plainId_quiet F.plain_extend_loop _, ?_⟩) (by rw [lenS]; omega) (by show (itsS.toArray.push _).size ≤ sizeLine + 1; rw [Array.size_push, lenS]; omega)
    obtain ⟨c', ec'⟩ : ∃ c', Obj.mapSeq (·.push (Value.ref s.heap.objs.size)) { cls := .type "list", data := .seq itsS.toArray cS } = { cls := .type "list", data := .seq (itsS ++ [Value.ref s.heap.objs.size]).toArray c' } := ⟨_, by simp only [Obj.mapSeq, List.push_toArray]; rfl⟩
    rw [ec'] at upS
    have I2 : Inv X pins σ (upd (upd H s.heap.objs.size (.tup [xs[Ts.length], ys[Ts.length]])) S (.lst ((Ts ++ [s.heap.objs.size]).map V.ref))) { s with heap := h'.update S (Obj.mapSeq (·.push (Value.ref s.heap.objs.size))), toks := s.toks } := by
      refine I1.write (x := S) (e := S) (t' := s.toks) (by rw [hSH]; trivial) (.inl rfl) (fun b u n e => (Heap.get?_update_other _ _ (Ne.symm n)).trans e) ⟨_, upS⟩ ⟨?_, itsS ++ [Value.ref s.heap.objs.size], c', ?_, upS⟩
      · rw [List.length_map, List.length_append, List.length_singleton]; omega
      · rw [List.map_append]
        exact rvS.append (.cons rfl .nil)
    have kH : ∀ b o, b ≠ S → H b = some o → upd (upd H s.heap.objs.size (.tup [xs[Ts.length], ys[Ts.length]])) S (.lst ((Ts ++ [s.heap.objs.size]).map V.ref)) b = some o := fun b o n e => by
      rw [upd_ne n, upd_ne (fun z => by rw [z, hTn] at e; cases e)]
      exact e
    have kS : ∀ b o, b ≠ S → h'.get? b = some o → (h'.update S (Obj.mapSeq (·.push (Value.ref s.heap.objs.size)))).get? b = some o := fun b o n e => (Heap.get?_update_other _ _ (Ne.symm n)).trans e
    have sqk : ∀ {a : Addr} {vs : List V}, SqT X.K H a vs → SqT X.K (upd (upd H s.heap.objs.size (.tup [xs[Ts.length], ys[Ts.length]])) S (.lst ((Ts ++ [s.heap.objs.size]).map V.ref))) a vs := fun {a vs} q => by
      have nS : ∀ o : HO, H a = some o → (∀ ws, o ≠ .lst ws) → a ≠ S := fun o e ne z => by rw [z, hS] at e; cases e; exact ne _ rfl
      rcases q with (q | ⟨o, q⟩) | q
      · exact .inl (.inl (kH _ _ (nS _ q (fun _ z => nomatch z)) q))
      · exact .inl (.inr ⟨o, kH _ _ (nS _ q (fun _ z => nomatch z)) q⟩)
      · exact .inr q
    have hlen1 : (Ts ++ [s.heap.objs.size]).length = Ts.length + 1 := by rw [List.length_append, List.length_singleton]
    refine ih (Ts ++ [s.heap.objs.size]) _ _ (by rw [hlen1]; omega) I2 (sqk q1) (sqk q2) (by rw [hlen1]; exact st'.keep hSn kS) upd_same (fun j T hj => ?_) (fun b hb => ?_) fun Ts' H' s' a1 a2 a3 a4 a5 => hR Ts' H' s' a1 a2 (fun b o n e => a3 b o n (kH b o n e)) a4 a5
    · by_cases hjl : j < Ts.length
      · rw [List.getElem?_append_left hjl] at hj
        obtain ⟨x, y, ex, ey, eT⟩ := hP j T hj
        exact ⟨x, y, ex, ey, kH T _ (fun z => by rw [z, hS] at eT; cases eT) eT⟩
      · rw [List.getElem?_append_right (by omega)] at hj
        have : j - Ts.length = 0 := by
          cases h0 : j - Ts.length with
          | zero => rfl
          | succ m => rw [h0] at hj; cases hj
        have hj0 : j = Ts.length := by omega
        rw [this] at hj
        cases hj
        subst hj0
        exact ⟨_, _, gx, gy, by rw [upd_ne (Ne.symm (Nat.ne_of_lt hSlt)), upd_same]⟩
    · obtain ⟨⟨f0, f1, f2, f3, f4, f5⟩, fl⟩ := hf b hb
      refine ⟨⟨?_, f1, f2, f3, f4, f5⟩, ?_⟩
      · rw [upd_ne (show b ≠ S from fun q => hSw (q ▸ hb)), upd_ne (Nat.ne_of_lt fl)]
        exact f0
      · have e1 : (h'.update S (Obj.mapSeq (·.push (Value.ref s.heap.objs.size)))).objs.size = h'.objs.size := (Heap.SameBut.update (h := h') ..).1
        show b < (h'.update S (Obj.mapSeq (·.push (Value.ref s.heap.objs.size)))).objs.size
        rw [e1, hsz]
        exact Nat.lt_succ_of_lt fl
theorem zip_no_len : typeLookup (.type "zip") "__len__" = pure none := am_miss_of_fast (by decide +kernel)
theorem zip_no_hint : typeLookup (.type "zip") "__length_hint__" = pure none := am_miss_of_fast (by decide +kernel)
theorem lz_extend (hh : A.handled = none) {S z TI TO i1 i2 l1 l2 : Addr} (D : ZipApart z TI TO i1 i2 l1 l2) (res : Value) (xs ys : List V) (hxl : xs.length ≤ sizeLine) (hSn : S ∉ [z, TI, TO, i1, i2]) {H : Hp} {s : Shared} {c0 : Nat}
    (I : Inv X pins σ H s) (q1 : SqT X.K H l1 xs) (q2 : SqT X.K H l2 ys) (st : ZS S z TI TO i1 i2 l1 l2 0 s.heap) (hz : IsZip s.heap z TI TO .none) (gS : s.heap.get? S = some { cls := .type "list", data := .seq #[] c0 }) (hS : H S = some (.lst [])) (hf : ∀ b ∈ [z, TO, i1, i2], FpOk X pins H b ∧ b < s.heap.objs.size)
    (hR : ∀ (Ts' : List Addr) (H' : Hp) (s' : Shared), Ts'.length = min xs.length ys.length → Inv X pins σ H' s' → (∀ b o, b ≠ S → H b = some o → H' b = some o) → H' S = some (.lst (Ts'.map V.ref)) → PrA H' Ts' xs ys → R (.ok (.ret res)) s') :
    wpAny (model X.prog X.w) A.in1 (Builtin.List.listExtendWith (.ref S) (.ref z) res)
      (fun fin s' => match fin with | .done f => R (.ok f) s' | .again c' => c'.quiet = true ∧ codeAny (model X.prog X.w) A c' R s') (fun e s' => R (.error e) s') s := by
  have hSI : S ≠ z := fun e => hSn (by simp [e])
  have ty := st.type
  unfold Builtin.List.listExtendWith
  refine wpAny_bind (wpAny_typeOf ty ?_)
  have h1 : Builtin.List.listSameRef (.ref S) (.ref z) = false := by simp [Builtin.List.listSameRef, hSI]
  have h2 : (Value.type "zip" == Value.type "list") = false := by decide
  have h3 : (Value.type "zip" == Value.type "tuple") = false := by decide
  simp only [h1, h2, h3, Bool.or_false, Bool.false_eq_true, if_false]
  refine wpAny_bind (wpAny_pyIter_zip hz ?_)
  refine wpAny_bind (wpAny_holding ?_)
  unfold Builtin.List.listLengthHint
  refine wpAny_bind (wpAny_specialOf ty zip_no_len ?_)
  show wpAny _ A.in1 (specialOf (Value.ref z) (Str.ofString "__length_hint__") >>= _) _ _ _
  refine wpAny_bind (wpAny_specialOf ty zip_no_hint ?_)
  refine wpAny_pure ?_
  show wpAny _ A.in1 (rule "list.extend.makes-room" >>= fun _ => Builtin.List.listTouch (.ref S) >>= fun _ => again (.builtin "list.extend.loop" ⟨[.ref S, .ref z, res], []⟩)) _ _ _
  refine wpAny_bind (wpAny_rule ?_)
  refine wpAny_bind ?_
  show wpAny _ A.in1 (updateSeq S (·.push .none) >>= fun _ => updateSeq S (·.pop)) _ _ _
  refine wpAny_bind (wpAny_updateSeq gS rfl ?_)
  have g2 := Heap.get?_update_self (Obj.mapSeq (·.push Value.none)) gS rfl
  refine wpAny_updateSeq (hz := by seq_fits) g2 rfl ?_
  have g3 := Heap.get?_update_self (Obj.mapSeq (·.pop)) g2 rfl
  have oth : ∀ b o, b ≠ S → s.heap.get? b = some o → ((s.heap.update S (Obj.mapSeq (·.push Value.none))).update S (Obj.mapSeq (·.pop))).get? b = some o :=
    fun b o hb e => (Heap.get?_update_other _ _ (Ne.symm hb)).trans ((Heap.get?_update_other _ _ (Ne.symm hb)).trans e)
  have I2 : Inv X pins σ (upd H S (.lst [])) { s with heap := (s.heap.update S (Obj.mapSeq (·.push Value.none))).update S (Obj.mapSeq (·.pop)), toks := s.toks } :=
    I.write (x := S) (e := S) (t' := s.toks) (by rw [hS]; trivial) (.inl rfl) oth ⟨_, g3⟩ ⟨Nat.zero_le _, [], _, .nil, g3⟩
  have eH : upd H S (.lst []) = H := by
    funext b
    by_cases e : b = S
    · rw [e, upd_same, hS]
    · rw [upd_ne e]
  rw [eH] at I2
  refine wpAny_pure ⟨plainId_quiet F.plain_extend_loop _, lz_loop hh D res xs ys hxl hSn (min xs.length ys.length) [] H _ (by simp) I2 q1 q2 (st.keep hSn oth) hS (fun j T e => by cases e) (fun b hb => ⟨(hf b hb).1, ?_⟩) hR⟩
  have e1 : ((s.heap.update S (Obj.mapSeq (·.push Value.none))).update S (Obj.mapSeq (·.pop))).objs.size = s.heap.objs.size := by
    rw [(Heap.SameBut.update (h := s.heap.update S (Obj.mapSeq (·.push Value.none))) ..).1, (Heap.SameBut.update (h := s.heap) ..).1]
  show b < ((s.heap.update S (Obj.mapSeq (·.push Value.none))).update S (Obj.mapSeq (·.pop))).objs.size
  rw [e1]
  exact (hf b hb).2
theorem five (n b : Nat) (hb : b = n + 4 ∨ b = n + 3 ∨ b = n ∨ b = n + 1) : n ≤ b ∧ b < n + 5 := by omega
/-- list(zip(a, b)) of two tuples -/
def tLz (K : PySem.W.Frag) (ta : TA) : TE := fun σ H Q => ta σ H fun vs H1 => ∃ a b xs ys, vs = [.ref a, .ref b] ∧ SqT K H1 a xs ∧ SqT K H1 b ys ∧
  ∀ (S : Addr) (Ts : List Addr) (H' : Hp), H1 S = none → Ts.length = min xs.length ys.length → (∀ b o, H1 b = some o → H' b = some o) → H' S = some (.lst (Ts.map V.ref)) → PrA H' Ts xs ys → Q (.ref S) H'
theorem pe_lz {e e2 : Expr} {ta : TA} {p p2 q pos : Pos} (hc : X.calm = true) (hg : Gl X "list") (hm : X.mg "list" = none) (hg2 : Gl X "zip") (hm2 : X.mg "zip" = none) (ha : PA X [e, e2] ta)
    (hs : starEach [e, e2] X.env = (false, eval e X.env) :: starEach [e2] X.env := by rfl) (hpl : (backTo q (starEach [e2] X.env)).any (·.1) = false := by rfl)
    (na : starEach [.Call (.Name "zip" p2) [e, e2] [] q] X.env = (false, eval (.Call (.Name "zip" p2) [e, e2] [] q) X.env) :: starEach [] X.env := by rfl) :
    PE X (.Call (.Name "list" p) [.Call (.Name "zip" p2) [e, e2] [] q] [] pos) (tLz X.K ta) := by
  refine ⟨fun pins s σ H Q I h => ?_⟩
  refine Call_ (ld_blt I hg hm boot_list ?_)
  refine PyProof.Rows.callWith_type1 (PyProof.Rows.args_cons ?_ na) na rfl
  refine Call_ (ld_blt I hg2 hm2 PyProof.Rows.boot_zip (PyProof.Rows.callWith_type1 (thn (ha.run q pins s σ H _ I h) fun us s1 ⟨vs, H1, I1, r1, q1⟩ => ?_) hs hpl))
  obtain ⟨a, b, xs, ys, rfl, qx, qy, hq⟩ := q1
  cases r1 with
  | cons r rr =>
  cases rr with
  | cons r' rr =>
  cases rr
  cases r
  cases r'
  obtain ⟨its, rv, p1, hzx⟩ := I1.tuple qx
  obtain ⟨its2, rv2, p2, _⟩ := I1.tuple qy
  obtain ⟨o1, ho1, _⟩ := id p1
  obtain ⟨o2, ho2, _⟩ := id p2
  refine RZ.call_zipT (show s1.heap.IsTuple a its.toArray from p1) (show s1.heap.IsTuple b its2.toArray from p2) fun h' hz hTI hTO h1 h2 hsz hk => PyProof.Rows.args_nil ?_
  have D := PySem.W.ktu_apart s1.heap.objs.size a b (Heap.lt_size ho1) (Heap.lt_size ho2)
  have I2 : Inv X pins σ H1 { s1 with heap := h' } := I1.kept (t' := s1.toks) hk
  refine callType_codes (Q₁ := fun obj s₁ => obj = .ref h'.objs.size ∧ s₁ = { s1 with heap := h'.push { cls := .type "list", data := .seq #[] } }) F.called_list (F.typeCall_list_1 _) F.entry_list_init (code_list_new _ ⟨rfl, rfl⟩) fun obj s₂ h₂ => ?_
  obtain ⟨rfl, rfl⟩ := h₂
  have gS : (h'.push { cls := .type "list", data := .seq #[] }).get? h'.objs.size = some { cls := .type "list", data := .seq #[] } := Heap.get?_push_size _ rfl
  refine ⟨⟨_, gS, rfl⟩, F.args_list_init_2 _ _, ?_⟩
  show wpAny _ _ (do let old ← Builtin.List.listItems (.ref h'.objs.size); Builtin.List.listUpdate (.ref h'.objs.size) (fun _ => #[]); letGo old.toList.reverse; Builtin.List.listExtendWith (.ref h'.objs.size) (.ref (s1.heap.objs.size + 4)) .none) _ _ _
  refine wpAny_bind ?_
  unfold Builtin.List.listItems
  refine wpAny_bind (wpAny_seqItems gS rfl (wpAny_pure ?_))
  show wpAny _ _ (updateSeq h'.objs.size (fun _ => #[]) >>= fun _ => letGo (#[] : Array Value).toList.reverse >>= fun _ => Builtin.List.listExtendWith (.ref h'.objs.size) (.ref (s1.heap.objs.size + 4)) .none) _ _ _
  refine wpAny_bind (wpAny_updateSeq gS rfl ?_)
  have g2 := Heap.get?_update_self (Obj.mapSeq (fun _ => (#[] : Array Value))) gS rfl
  refine wpAny_bind (wpAny_letGo ?_)
  have kp : ∀ b o, h'.get? b = some o → ((h'.push { cls := .type "list", data := .seq #[] }).update h'.objs.size (Obj.mapSeq (fun _ => (#[] : Array Value)))).get? b = some o :=
    fun b o e => (Heap.get?_update_other _ _ (Nat.ne_of_gt (Heap.lt_size e))).trans (Heap.get?_push_of_some _ e)
  have esz : ((h'.push { cls := .type "list", data := .seq #[] }).update h'.objs.size (Obj.mapSeq (fun _ => (#[] : Array Value)))).objs.size = h'.objs.size + 1 := by
    rw [(Heap.SameBut.update (h := h'.push { cls := .type "list", data := .seq #[] }) ..).1, Heap.size_push]
  have hSnone : H1 h'.objs.size = none := I2.hok.fresh (Nat.le_refl _)
  have I3 : Inv X pins σ (upd H1 h'.objs.size (.lst [])) { s1 with heap := (h'.push { cls := .type "list", data := .seq #[] }).update h'.objs.size (Obj.mapSeq (fun _ => (#[] : Array Value))) } :=
    I2.laid (t' := s1.toks) kp (Nat.le_refl _) ⟨Nat.zero_le _, [], _, .nil, g2⟩
  have neH : ∀ b o, H1 b = some o → b ≠ h'.objs.size := fun b o e z => by rw [z, hSnone] at e; cases e
  have sqk : ∀ {a : Addr} {vs : List V}, SqT X.K H1 a vs → SqT X.K (upd H1 h'.objs.size (.lst [])) a vs := fun {a vs} q => by
    rcases q with (q | ⟨o, q⟩) | q
    · exact .inl (.inl (by rw [upd_ne (neH _ _ q)]; exact q))
    · exact .inl (.inr ⟨o, by rw [upd_ne (neH _ _ q)]; exact q⟩)
    · exact .inr q
  have lt5 : ∀ b, b ∈ [s1.heap.objs.size + 4, s1.heap.objs.size + 3, s1.heap.objs.size, s1.heap.objs.size + 1] → s1.heap.objs.size ≤ b ∧ b < h'.objs.size := fun b hb => by
    rw [hsz]
    simp only [List.mem_cons, List.not_mem_nil, or_false] at hb
    exact five _ b hb
  have hSn : h'.objs.size ∉ [s1.heap.objs.size + 4, s1.heap.objs.size + 2, s1.heap.objs.size + 3, s1.heap.objs.size, s1.heap.objs.size + 1] := fun m => by
    rw [hsz] at m
    simp only [List.mem_cons, List.not_mem_nil, or_false] at m
    rcases m with m | m | m | m | m
    · exact absurd (Nat.add_left_cancel m) (by decide)
    · exact absurd (Nat.add_left_cancel m) (by decide)
    · exact absurd (Nat.add_left_cancel m) (by decide)
    · exact absurd m (Nat.ne_of_gt (Nat.lt_add_of_pos_right (by decide)))
    · exact absurd (Nat.add_left_cancel m) (by decide)
  refine lz_extend (A := X.A.in1) (by exact I2.ok.hd hc) D .none xs ys hzx hSn I3 (sqk qx) (sqk qy) ⟨kp _ _ hTI, h1.at fun o e => kp _ o e, h2.at fun o e => kp _ o e, .inl ⟨kp _ _ hz, _, _, kp _ _ hTO⟩⟩ (kp _ _ hz) g2 upd_same (fun b hb => ?_) fun Ts' H' s' a1 a2 a3 a4 a5 => ?_
  · obtain ⟨b1, b2⟩ := lt5 b hb
    refine ⟨I1.fpOk b1 (by rw [upd_ne (Nat.ne_of_lt b2)]; exact I1.hok.fresh b1), ?_⟩
    show b < ((h'.push { cls := .type "list", data := .seq #[] }).update h'.objs.size (Obj.mapSeq (fun _ => (#[] : Array Value)))).objs.size
    rw [esz]
    exact Nat.lt_succ_of_lt b2
  · exact ⟨rfl, .ref h'.objs.size, H', a2, rfl, hq _ Ts' H' hSnone a1 (fun b o e => a3 b o (neH b o e) (by rw [upd_ne (neH b o e)]; exact e)) a4 a5⟩
end
end MiS
namespace MiS
open PySem PySem.Spec PyProof.Rows L2
open Mi (D C ME MS ev evs evP evA evAnd evOr evC bor pur purs)
section
variable {X : Cx} {T : Tb} {W : WX} {P : Mi.Pr}
theorem RDs.of {H : Hp} : ∀ {ds : List D} {vs : List V}, ds.length = vs.length → (∀ (j : Nat) (d : D) (v : V), ds[j]? = some d → vs[j]? = some v → RD T H d v) → RDs T H ds vs
  | [], [], _, _ => .nil
  | d :: ds, v :: vs, h, k => .cons (k 0 d v rfl rfl) (RDs.of (by simpa using h) fun j d v e1 e2 => k (j + 1) d v e1 e2)
  | [], _ :: _, h, _ => by cases h
  | _ :: _, [], h, _ => by cases h
theorem lz_rd {H : Hp} {Q : VK} {vs : List V} (hK : T.K = X.K) (h : rBi T .listzip vs H Q) : ∃ a b xs ys, vs = [.ref a, .ref b] ∧ SqT X.K H a xs ∧ SqT X.K H b ys ∧
    ∀ (S : Addr) (Ts : List Addr) (H' : Hp), H S = none → Ts.length = min xs.length ys.length → (∀ b o, H b = some o → H' b = some o) → H' S = some (.lst (Ts.map V.ref)) → PrA H' Ts xs ys → Q (.ref S) H' := by
  obtain ⟨cs, F, z, r, hz, q⟩ := h
  match cs, hz with
  | [c, d], hz =>
    obtain ⟨v, w, G, G', rfl, r1, r2⟩ := r.two
    have hz : (c.asT.bind fun x => d.asT.map fun y => C.lst ((Mi.zipD x y).map .val)) = some z := hz
    rw [Option.bind_eq_some_iff] at hz
    obtain ⟨ds, hd, hz⟩ := hz
    rw [Option.map_eq_some_iff] at hz
    obtain ⟨es, he, rfl⟩ := hz
    obtain ⟨a, xs, rfl, sx, rx⟩ := asT_sq r1 hd
    obtain ⟨b, ys, rfl, sy, ry⟩ := asT_sq r2 he
    refine ⟨a, b, xs, ys, rfl, hK ▸ sx, hK ▸ sy, fun S Ts H' hS hl hk hL hP => ?_⟩
    have kp : Keep H H' := ⟨fun b vs e => hk _ _ e, fun b o u e => hk _ _ e⟩
    have lx := rx.length
    have ly := ry.length
    have rr : RDs T H' (Mi.zipD ds es) (Ts.map V.ref) := RDs.of (by rw [zipD_len, List.length_map, hl, lx, ly]) fun j d v e1 e2 => by
      rw [List.getElem?_map, Option.map_eq_some_iff] at e2
      obtain ⟨t, ht, rfl⟩ := e2
      obtain ⟨x, y, ex, ey, eT⟩ := hP j t ht
      obtain ⟨d1, hd1, q1⟩ := rd_at rx ex
      obtain ⟨d2, hd2, q2⟩ := rd_at ry ey
      rw [zipD_get ds es j d1 d2 hd1 hd2] at e1
      cases e1
      exact .tup (.inl (.inl eT)) (.cons (q1.keep kp) (.cons (q2.keep kp) .nil))
    exact q (.ref S) H' [S] (.lst hL rr.ofC) (fun b o e _ => hk b o e) kp (by simp) fun a m => by rw [List.mem_singleton.mp m]; exact hS
  | [], hz => cases hz
  | [_], hz => cases hz
  | _ :: _ :: _ :: _, hz => cases hz
theorem E_lz {ms : List ME} {e1 e2 : Expr} {p p2 q pos : Pos} (hK : T.K = X.K) (hc : X.calm = true) (hg : Gl X "list") (hm : X.mg "list" = none) (hg2 : Gl X "zip") (hm2 : X.mg "zip" = none) (ha : PA X [e1, e2] (TPs T W P true ms))
    (hs : starEach [e1, e2] X.env = (false, eval e1 X.env) :: starEach [e2] X.env) (hpl : (backTo q (starEach [e2] X.env)).any (·.1) = false) : PE X (.Call (.Name "list" p) [.Call (.Name "zip" p2) [e1, e2] [] q] [] pos) (TE' T W P (.bi .listzip ms)) :=
  PE.imp (pe_lz hc hg hm hg2 hm2 ha hs hpl) fun σ H Q h => mono_P σ H _ _ (fun vs H1 z => lz_rd hK z) (bi_rd h)
end
end MiS
namespace MiS
open PySem PySem.Spec PyProof.Rows L2
open Mi (D C ME MS ev evs evP evA evAnd evOr evC bor pur purs Ag)
section
variable {X : Cx} {T : Tb} {W : WX} {P : Mi.Pr}
/-! ### arguments -/
inductive AgR (T : Tb) (H : Hp) (σ : L2.St) : List Ag → List V → List Addr → Prop
  | nil : AgR T H σ [] [] []
  | v {d : D} {x : V} {as : List Ag} {vs : List V} {G : List Addr} (h : RD T H d x) (r : AgR T H σ as vs G) : AgR T H σ (.v (.val d) :: as) (x :: vs) G
  | io {i : Nat} {x : V} {as : List Ag} {vs : List V} {G : List Addr} (h : σ[i]? = some (some x)) (r : AgR T H σ as vs G) : AgR T H σ (.io i :: as) (x :: vs) G
  | tm {c : C} {x : V} {F : List Addr} {as : List Ag} {vs : List V} {G : List Addr} (h : RC T H c x F) (r : AgR T H σ as vs G) : AgR T H σ (.tm c :: as) (x :: vs) (F ++ G)
theorem AgR.cell {H : Hp} {σ : L2.St} {as : List Ag} {vs : List V} {G : List Addr} (r : AgR T H σ as vs G) : ∀ a ∈ G, ∃ u, H a = some u := by
  induction r with
  | nil => exact fun _ m => nomatch m
  | v h r ih => exact ih
  | io h r ih => exact ih
  | tm h r ih => exact fun a m => (List.mem_append.mp m).elim (fun z => by obtain ⟨u, e, _⟩ := h.cell a z; exact ⟨u, e⟩) (ih a)
def VQG (T : Tb) (σ : L2.St) (H : Hp) (O : Addr → Prop) (p : Bool) (Q : List V → Hp → Prop) : List Ag → Mi.Env → Prop := fun as e' => ∀ vs H' fp' G, Sp1 T σ H O p H' e' fp' → AgR T H' σ as vs G → Tmp H O p fp' G → Q vs H'
def TrG (T : Tb) (W : WX) (m : Mi.Env → Mi.Res (List Ag)) (p : Bool) : TA := fun σ H Q => ∃ e fp, RE T H e σ fp ∧ FinG T W σ H (own fp) (VQG T σ H (own fp) p Q) (m e)
abbrev TGs' (T : Tb) (W : WX) (P : Mi.Pr) (ms : List ME) : TA := TrG T W (evA P ms) (purs ms)
theorem TrG.step {σ : L2.St} {H H1 : Hp} {O : Addr → Prop} {p0 p1 : Bool} {e1 : Mi.Env} {fp1 : Nat → List Addr} {α : Type} {ok : α → Mi.Env → Prop} {m : Mi.Env → Mi.Res (List Ag)} {g : List Ag → Mi.Env → Mi.Res α} {Q1 : List V → Hp → Prop} (s : Sp1 T σ H O p0 H1 e1 fp1) (hq : FinG T W σ H O ok ((m e1).bind g))
    (k : ∀ as e2 vs H2 fp2 G, m e1 = .ok as e2 → Sp1 T σ H1 (own fp1) p1 H2 e2 fp2 → AgR T H2 σ as vs G → Tmp H1 (own fp1) p1 fp2 G → FinG T W σ H O ok (g as e2) → Q1 vs H2) : TrG T W m p1 σ H1 Q1 := by
  refine ⟨e1, fp1, s.re, ?_⟩
  cases h : m e1 with
  | ok c e2 => rw [h] at hq; exact fun vs H2 fp2 G x r t => k c e2 vs H2 fp2 G h x r t hq
  | exc n e2 => rw [h] at hq; exact fun H2 fp2 x => hq H2 fp2 ((s.trans x).weak fun z => by cases z)
  | stuck => rw [h] at hq; exact hq
theorem G_nil : PA X [] (TGs' T W P []) := PA.imp pa_nil fun σ H Q ⟨e, fp, R, hq⟩ => by
  rw [evA] at hq
  exact hq [] H fp [] (Sp1.refl R) .nil .nil
/-- whether an argument is handed as a value -/
def isV : ME → Bool
  | .io _ => false
  | .bw _ => false
  | .tmp _ => false
  | _ => true
theorem evA_v {a : ME} {r : List ME} {e : Mi.Env} (h : isV a = true) : evA P (a :: r) e = (ev P a e).bind fun x e => (Mi.leak (bor a) x e).bind fun x e => (evA P r e).bind fun xs e => .ok (.v (.val x.frz) :: xs) e := by
  cases a <;> first | (rw [evA] <;> (intros; simp_all [isV]; done)) | (simp [isV] at h)
theorem G_v {a : ME} {r : List ME} {ea : Expr} {er : List Expr} (hv : isV a = true) (hs : starEach (ea :: er) X.env = (false, eval ea X.env) :: starEach er X.env) (ha : PE X ea (TE' T W P a)) (hr : PA X er (TGs' T W P r)) : PA X (ea :: er) (TGs' T W P (a :: r)) := by
  refine PA.imp (pa_cons (PE.lk ha) hr hs) fun σ H Q ⟨e, fp, R, hq⟩ => ?_
  rw [evA_v hv] at hq
  refine Tr.step (sp0 R) hq fun c e1 v1 H1 fp1 F1 h1 V1 hq => ?_
  obtain ⟨V2, hq⟩ := leak_of V1 hq
  have t := V2.tm rfl
  refine RC.lock c V2.rc t.nod fun H2 rd z => ?_
  have kp := z.stp.keep fun a m => V2.rc.cell a m
  have re2 : RE T H2 e1 σ fp1 := V2.sp.re.keep kp fun a ha u e => z.stp a u e fun m => t.out a m ha
  have sp2 : Sp1 T σ H (own fp) (pur a) H2 e1 fp1 := by
    refine ⟨re2, V2.sp.sub, fun b o e n => ?_, V2.sp.keep.trans kp, fun hp b o e n => ?_⟩
    · refine z.stp b o (V2.sp.stp b o e n) fun m => ?_
      rcases t.sub b m with h | h
      · exact n h
      · rw [h] at e; cases e
    · refine z.stp b o (V2.sp.pure hp b o e n) fun m => ?_
      rw [t.pur hp b m] at e; cases e
  refine TrG.step sp2 hq fun as e2 vs H3 fp2 G3 h3 b r3 t3 hq => ?_
  exact hq (v1 :: vs) H3 fp2 G3 (sp2.trans b) (.v (rd.keep b.keep) r3) (t3.new sp2)
/-- a thing handed over -/
theorem G_tmp {a : ME} {r : List ME} {ea : Expr} {er : List Expr} (hs : starEach (ea :: er) X.env = (false, eval ea X.env) :: starEach er X.env) (ha : PE X ea (TE' T W P a)) (hr : PA X er (TGs' T W P r)) : PA X (ea :: er) (TGs' T W P (.tmp a :: r)) := by
  refine PA.imp (pa_cons ha hr hs) fun σ H Q ⟨e, fp, R, hq⟩ => ?_
  rw [evA] at hq
  refine Tr.step (sp0 R) hq fun c e1 v1 H1 fp1 F1 h1 V1 hq => ?_
  obtain ⟨V2, hq⟩ := leak_of V1 hq
  have t := V2.tm rfl
  refine TrG.step V2.sp hq fun as e2 vs H3 fp2 G3 h3 b r3 t3 hq => ?_
  exact hq (v1 :: vs) H3 fp2 (F1 ++ G3) ((V2.sp.trans b).weak fun z => by simp [purs, pur] at z) (.tm (V2.rc.stp b.keep b.stp fun a m => t.out a m) r3) ((Tmp.app t V2.sp (cell_some V2.rc) b t3).weak fun z => by simp [purs, pur] at z)
theorem G_io {i : Nat} {r : List ME} {ea : Expr} {er : List Expr} (hs : starEach (ea :: er) X.env = (false, eval ea X.env) :: starEach er X.env) (ha : PE X ea (tVar i)) (hr : PA X er (TGs' T W P r)) : PA X (ea :: er) (TGs' T W P (.io i :: r)) := by
  refine PA.imp (pa_cons ha hr hs) fun σ H Q ⟨e, fp, R, hq⟩ => ?_
  rw [evA] at hq
  obtain ⟨c, hc, hq⟩ := ev_slot (f := fun _ => (evA P r e).bind fun xs e => .ok (.io i :: xs) e) hq
  obtain ⟨v, hv, rc⟩ := R.at_ i c hc
  refine ⟨v, hv, ?_⟩
  refine TrG.step (sp0 R) hq fun as e2 vs H3 fp2 G3 h3 b r3 t3 hq => ?_
  exact hq (v :: vs) H3 fp2 G3 (b.weak fun z => by simp [purs, pur] at z) (.io hv r3) (t3.weak fun z => by simp [purs, pur] at z)
/-! ### taking the slots that are handed in, putting them back -/
theorem take_ok {H : Hp} {σ : L2.St} : ∀ {as : List Ag} {vs : List V} {G : List Addr} {e e' : Mi.Env} {cs : List C} {fp : Nat → List Addr}, RE T H e σ fp → AgR T H σ as vs G → G.Nodup → (∀ a ∈ G, ¬ own fp a) → Mi.takeIo as e = some (cs, e') →
    ∃ F fp', RCs T H cs vs F ∧ F.Nodup ∧ RE T H e' σ fp' ∧ (∀ a, own fp' a → own fp a) ∧ (∀ a ∈ F, (own fp a ∨ a ∈ G) ∧ ¬ own fp' a) := by
  intro as vs G e e' cs fp re r
  induction r generalizing e e' cs fp with
  | nil =>
    intro _ _ h
    rw [Mi.takeIo] at h
    cases h
    exact ⟨[], fp, .nil, .nil, re, fun _ z => z, fun _ m => nomatch m⟩
  | v h r ih =>
    intro nG oG ht
    rw [Mi.takeIo, Option.map_eq_some_iff] at ht
    obtain ⟨⟨cs1, e1⟩, h1, h2⟩ := ht
    cases h2
    obtain ⟨F, fp', rc, n, re', ho, hF⟩ := ih re nG oG h1
    exact ⟨F, fp', .cons (F := []) (.val h) rc, n, re', ho, hF⟩
  | io h r ih =>
    rename_i i x as vs G
    intro nG oG ht
    rw [Mi.takeIo] at ht
    split at ht
    · rename_i c hc
      rw [Option.map_eq_some_iff] at ht
      obtain ⟨⟨cs1, e1⟩, h1, h2⟩ := ht
      cases h2
      obtain ⟨v, hv, rc0⟩ := re.at_ i c hc
      have : v = x := by rw [hv] at h; cases h; rfl
      subst this
      obtain ⟨F, fp', rc, n, re', ho, hF⟩ := ih (re.set_none i) nG (fun a m z => oG a m (own_updF_nil z).1) h1
      have sub1 : ∀ a ∈ fp i, ¬ own (updF fp i []) a := fun a m z => by
        obtain ⟨j, n', m'⟩ := (own_updF_nil z).2 ()
        exact re.dis i j a (fun q => n' q.symm) m m'
      refine ⟨fp i ++ F, fp', .cons rc0 rc, List.nodup_append.mpr ⟨re.nod i, n, fun a ha b hb z => ?_⟩, re', fun a z => (own_updF_nil (ho a z)).1, fun a m => ?_⟩
      · subst z
        rcases (hF a hb).1 with q | q
        · exact sub1 a ha q
        · exact oG a q ⟨i, ha⟩
      · rcases List.mem_append.mp m with m | m
        · exact ⟨.inl ⟨i, m⟩, fun z => sub1 a m (ho a z)⟩
        · exact ⟨(hF a m).1.imp (fun q => (own_updF_nil q).1) fun q => q, (hF a m).2⟩
    · cases ht
  | tm h r ih =>
    rename_i c x F0 as vs G
    intro nG oG ht
    obtain ⟨g1, g2, g3⟩ := List.nodup_append.mp nG
    rw [Mi.takeIo, Option.map_eq_some_iff] at ht
    obtain ⟨⟨cs1, e1⟩, h1, h2⟩ := ht
    cases h2
    obtain ⟨F, fp', rc, n, re', ho, hF⟩ := ih re g2 (fun a m => oG a (List.mem_append_right _ m)) h1
    refine ⟨F0 ++ F, fp', .cons h rc, List.nodup_append.mpr ⟨g1, n, fun a ha b hb z => ?_⟩, re', ho, fun a m => ?_⟩
    · subst z
      rcases (hF a hb).1 with q | q
      · exact oG a (List.mem_append_left _ ha) q
      · exact g3 a ha a q rfl
    · rcases List.mem_append.mp m with m | m
      · exact ⟨.inr (List.mem_append_left _ m), fun z => oG a (List.mem_append_left _ m) (ho a z)⟩
      · exact ⟨(hF a m).1.imp (fun q => q) fun q => List.mem_append_right _ q, (hF a m).2⟩
/-- the values of the slots handed in -/
def ioVs : List Ag → List V → List V
  | .io _ :: as, v :: vs => v :: ioVs as vs
  | .tm _ :: as, v :: vs => v :: ioVs as vs
  | .v _ :: as, _ :: vs => ioVs as vs
  | .bw _ :: as, _ :: vs => ioVs as vs
  | _, _ => []
def pick (io : List Nat) (vs : List V) : List V := io.filterMap fun i => vs[i]?
theorem pick_io {H : Hp} {σ : L2.St} {as : List Ag} {vs : List V} {G : List Addr} (r : AgR T H σ as vs G) : ∀ (pre : List V), pick (Mi.ioPos pre.length as) (pre ++ vs) = ioVs as vs := by
  induction r with
  | nil => intro pre; rfl
  | v h r ih =>
    rename_i d x as vs G
    intro pre
    rw [Mi.ioPos, ioVs, ← ih (pre ++ [x]), List.length_append, List.length_singleton, List.append_assoc, List.singleton_append]
  | io h r ih =>
    rename_i i x as vs G
    intro pre
    rw [Mi.ioPos, ioVs, ← ih (pre ++ [x]), List.length_append, List.length_singleton, List.append_assoc, List.singleton_append]
    unfold pick
    rw [List.filterMap_cons]
    simp
  | tm h r ih =>
    rename_i c x F as vs G
    intro pre
    rw [Mi.ioPos, ioVs, ← ih (pre ++ [x]), List.length_append, List.length_singleton, List.append_assoc, List.singleton_append]
    unfold pick
    rw [List.filterMap_cons]
    simp
theorem put_ok {H0 H : Hp} {σ : L2.St} : ∀ {as : List Ag} {vs : List V} {G : List Addr}, AgR T H0 σ as vs G → ∀ {outs : List C} {e e' : Mi.Env} {fp : Nat → List Addr} {F : List Addr}, RE T H e σ fp → RCs T H outs (ioVs as vs) F → F.Nodup → (∀ a ∈ F, ¬ own fp a) → Mi.putIo as outs e = some e' →
    ∃ fp', RE T H e' σ fp' ∧ ∀ a, own fp' a → own fp a ∨ a ∈ F := by
  intro as vs G r
  induction r with
  | nil =>
    intro outs e e' fp F re rc n d h
    cases outs with
    | nil => rw [Mi.putIo] at h; cases h; exact ⟨fp, re, fun a z => .inl z⟩
    | cons _ _ => simp [Mi.putIo] at h
  | v h r ih =>
    intro outs e e' fp F re rc n d hp
    rw [ioVs] at rc
    exact ih re rc n d (by cases outs <;> simpa [Mi.putIo] using hp)
  | io h r ih =>
    rename_i i x as vs G0
    intro outs e e' fp F re rc n d hp
    rw [ioVs] at rc
    cases rc with
    | cons r1 r2 =>
      rename_i c cs F1 F2
      rw [Mi.putIo] at hp
      obtain ⟨n1, n2, n3⟩ := List.nodup_append.mp n
      by_cases hi : i < e.length
      · have re2 := re.set_own (i := i) hi h r1 n1 fun j a _ m z => d a (List.mem_append_left _ m) ⟨j, z⟩
        obtain ⟨fp', re3, ho⟩ := ih re2 r2 n2 (fun a m z => by
          rcases own_put z with z | z
          · exact d a (List.mem_append_right _ m) z
          · exact n3 a z a m rfl) hp
        refine ⟨fp', re3, fun a z => ?_⟩
        rcases ho a z with z | z
        · rcases own_put z with z | z
          · exact .inl z
          · exact .inr (List.mem_append_left _ z)
        · exact .inr (List.mem_append_right _ z)
      · have e1 : e.set i (some c) = e := List.set_eq_of_length_le (by omega)
        rw [e1] at hp
        obtain ⟨fp', re3, ho⟩ := ih re r2 n2 (fun a m => d a (List.mem_append_right _ m)) hp
        exact ⟨fp', re3, fun a z => (ho a z).imp id (List.mem_append_right _)⟩
  | tm h r ih =>
    rename_i c x F0 as vs G0
    intro outs e e' fp F re rc n d hp
    rw [ioVs] at rc
    cases rc with
    | cons r1 r2 =>
      rename_i c cs F1 F2
      rw [Mi.putIo] at hp
      obtain ⟨n1, n2, n3⟩ := List.nodup_append.mp n
      obtain ⟨fp', re3, ho⟩ := ih re r2 n2 (fun a m => d a (List.mem_append_right _ m)) hp
      exact ⟨fp', re3, fun a z => (ho a z).imp id (List.mem_append_right _)⟩
/-! ### what a def keeps -/
/-- a run's promise -/
def spR (T : Tb) (io : List Nat) (r : Mi.CR) (F : List Addr) (vs : List V) (H : Hp) (Q : VK) (E : XK) : Prop := match r with
  | .ok c outs => ∀ v H' Fc Fo, RC T H' c v Fc → RCs T H' outs (pick io vs) Fo → Stp (· ∈ F) H H' → Keep H H' → (Fc ++ Fo).Nodup → (∀ a ∈ Fc ++ Fo, a ∈ F ∨ H a = none) → Q v H'
  | .exc k => ∀ H' a, T.cls k = some a → Stp (· ∈ F) H H' → Keep H H' → E (.ref a) none H'
  | .stuck => False
def spM (T : Tb) (call : List C → Mi.CR) (np : Nat) (io : List Nat) : Sp := fun vs H Q E => vs.length = np ∧ ∃ cs F, RCs T H cs vs F ∧ F.Nodup ∧ spR T io (call cs) F vs H Q E
theorem call_rd {f np : Nat} {as : List Ag} {vs : List V} {σ : L2.St} {H H1 : Hp} {O : Addr → Prop} {p q : Bool} {Q : VK} {e1 : Mi.Env} {fp1 : Nat → List Addr} (hl : ∀ cs, P.call f cs ≠ .stuck → cs.length = np) {G : List Addr} (sp : Sp1 T σ H O p H1 e1 fp1) (ag : AgR T H1 σ as vs G) (tG : Tmp H O p fp1 G) (hp : q = true → Mi.ioPos 0 as = [] ∧ p = true)
    (hq : FinG T W σ H O (VQ T σ H O false q Q) (Mi.callC P f as e1)) : spM T (P.call f) np (P.ios f) vs H1 Q (WE W σ) := by
  unfold Mi.callC at hq
  split at hq
  · rename_i hio
    split at hq
    · rename_i cs e2 ht
      obtain ⟨F, fp2, rc, n, re2, ho, hF⟩ := take_ok sp.re ag tG.nod tG.out ht
      refine ⟨(rcs_length rc).symm.trans (hl cs fun z => by rw [z] at hq; exact hq.elim), cs, F, rc, n, ?_⟩
      have fc : ∀ a ∈ F, ∃ u, H1 a = some u := fun a m => by obtain ⟨u, eu, _⟩ := RCs.cell rc a m; exact ⟨u, eu⟩
      have sub : ∀ a ∈ F, O a ∨ H a = none := fun a m => (hF a m).1.elim (sp.sub a) (tG.sub a)
      have st : ∀ {H2 : Hp}, Stp (· ∈ F) H1 H2 → Stp O H H2 := fun s b o eb nb => s b o (sp.stp b o eb nb) fun m => by
        rcases sub b m with z | z
        · exact nb z
        · rw [z] at eb; cases eb
      have re3 : ∀ {H2 : Hp}, Stp (· ∈ F) H1 H2 → Keep H1 H2 → RE T H2 e2 σ fp2 := fun s k => re2.keep k fun a ha u eu => s a u eu fun m => (hF a m).2 ha
      unfold spR
      split at hq
      · rename_i c outs hc
        try rw [hc]
        intro v H2 Fc Fo r1 r2 s k nd sb
        split at hq
        · exact hq.elim
        · split at hq
          · rename_i e3 hpt
            obtain ⟨n1, n2, n3⟩ := List.nodup_append.mp nd
            have out2 : ∀ a, a ∈ Fc ++ Fo → ¬ own fp2 a := fun a m z => by
              rcases sb a m with x | x
              · exact (hF a x).2 z
              · obtain ⟨u, eu, _⟩ := re2.cel _ a z.choose_spec; rw [x] at eu; cases eu
            have r2' : RCs T H2 outs (ioVs as vs) Fo := by
              have := pick_io ag []
              rw [List.nil_append, List.length_nil, hio] at this
              rw [← this]; exact r2
            obtain ⟨fp3, re4, ho3⟩ := put_ok ag (re3 s k) r2' n2 (fun a m => out2 a (List.mem_append_right _ m)) hpt
            have fresh : ∀ a ∈ Fc ++ Fo, O a ∨ H a = none := fun a m => by
              rcases sb a m with x | x
              · exact sub a x
              · by_cases hO : O a
                · exact .inl hO
                · refine .inr ?_
                  cases eh : H a with
                  | none => rfl
                  | some u => have := sp.stp a u eh hO; rw [x] at this; cases this
            have pureF : q = true → F = [] := fun z => by
              have h1 := (hp z).1
              clear hq hpt hc
              have : ∀ {as : List Ag} {vs : List V} {G : List Addr} {n : Nat}, AgR T H1 σ as vs G → Mi.ioPos n as = [] → ∀ {e e' cs}, Mi.takeIo as e = some (cs, e') → ∀ {F}, RCs T H1 cs vs F → F = [] := by
                intro as vs G n r
                induction r generalizing n with
                | nil => intro _ e e' cs h F r; rw [Mi.takeIo] at h; cases h; cases r; rfl
                | v h r ih =>
                  intro hi e e' cs ht F rr
                  rw [Mi.ioPos] at hi
                  rw [Mi.takeIo, Option.map_eq_some_iff] at ht
                  obtain ⟨⟨cs1, e1⟩, h1, h2⟩ := ht
                  cases h2
                  cases rr with
                  | cons ra rb =>
                    cases ra
                    rw [ih hi h1 rb]
                    rfl
                | io h r ih => intro hi; simp [Mi.ioPos] at hi
                | tm h r ih => intro hi; simp [Mi.ioPos] at hi
              exact this ag h1 ht rc
            refine hq v H2 fp3 Fc ⟨⟨re4, fun a z => ?_, st s, sp.keep.trans k, fun z b o eb nb => ?_⟩, r1, fun _ => ⟨n1, fun a m z => ?_, fun a m => fresh a (List.mem_append_left _ m), fun z a m => ?_⟩⟩
            · rcases ho3 a z with z | z
              · exact sp.sub a (ho a z)
              · exact fresh a (List.mem_append_right _ z)
            · refine s b o (sp.pure (hp z).2 b o eb nb) fun m => ?_
              rw [pureF z] at m; cases m
            · rcases ho3 a z with z | z
              · exact out2 a (List.mem_append_left _ m) z
              · exact n3 a m a z rfl
            · rcases sb a (List.mem_append_left _ m) with x | x
              · rw [pureF z] at x; cases x
              · cases eh : H a with
                | none => rfl
                | some u => have := sp.pure (hp z).2 a u eh (fun z => z); rw [x] at this; cases this
          · exact hq.elim
      · rename_i kx hc
        try rw [hc]
        intro H2 a ha s k
        exact hq H2 fp2 ⟨re3 s k, fun x z => sp.sub x (ho x z), st s, sp.keep.trans k, fun z => by cases z⟩ a ha
      · rename_i hc
        exact hq.elim
    · exact hq.elim
  · exact hq.elim
theorem evA_pur : ∀ (ms : List ME) {e e' : Mi.Env} {as : List Ag} {n : Nat}, evA P ms e = .ok as e' → purs ms = true → Mi.ioPos n as = [] := by
  intro ms
  induction ms with
  | nil => intro e e' as n h _; rw [evA] at h; cases h; rfl
  | cons a r ih =>
    intro e e' as n h hp
    rw [purs, Bool.and_eq_true] at hp
    by_cases hv : isV a = true
    · rw [evA_v hv] at h
      obtain ⟨c, e1, h1, h⟩ := bind_ok h
      obtain ⟨c2, e2, h2, h⟩ := bind_ok h
      obtain ⟨as2, e3, h3, h⟩ := bind_ok h
      cases h
      rw [Mi.ioPos]
      exact ih h3 hp.2
    · cases a <;> try (simp [isV] at hv; done)
      · simp [pur] at hp
      · rw [evA] at h
        obtain ⟨c, e1, h1, h⟩ := bind_ok h
        split at h
        · obtain ⟨as2, e3, h3, h⟩ := bind_ok h
          cases h
          rw [Mi.ioPos]
          exact ih h3 hp.2
        · cases h
      · simp [pur] at hp
/-- a def that is known at this depth -/
structure FnE (X : Cx) (T : Tb) (P : Mi.Pr) (k f : Nat) (x : Str) : Prop where
  ok : ∃ (ad : Addr) (fd : FuncData) (ps : List Str), (∀ cs, P.call f cs ≠ .stuck → cs.length = ps.length) ∧ X.mg x = some (.ref ad) ∧ PySem.W.keepIn X.K (.ref ad) = true ∧ Binds X.K fd ps [] ∧ FnOk X.prog X.w X.K X.mg X.base (L2N.CX X.prog X.w) k ad fd ps (spM T (P.call f) ps.length (P.ios f))
theorem E_call {k f : Nat} {x : Str} {ms : List ME} {e : Expr} {es : List Expr} {p pos : Pos} (F : FnE X T P k f x) (hr : Room k X.A) (hg : Gl X x) (hdb : (x == ("__debug__" : Str)) = false) (hx : ∀ σ, PassesAt (L2N.CX X.prog X.w) X σ (WE W σ))
    (ha : PA X (e :: es) (TGs' T W P ms)) (he : starEach (e :: es) X.env = (false, eval e X.env) :: starEach es X.env) (hpl : (backTo pos (starEach es X.env)).any (·.1) = false) (hn : ms.length = (e :: es).length) : PE X (.Call (.Name x p) (e :: es) [] pos) (TE' T W P (.call f ms)) := by
  obtain ⟨ad, fd, ps, hl, hm, hk, hb, F⟩ := F.ok
  refine PE.imp (pe_callS (E := WE W) F hr hg hm hk hb hx ha hdb he hpl) fun σ H Q ⟨e0, fp, R, hq⟩ => ?_
  rw [ev] at hq
  unfold tCallS
  refine TrG.step (sp0 R) hq fun as e1 vs H1 fp1 G h1 s ag tG hq => ?_
  exact call_rd hl s ag tG (fun z => ⟨evA_pur ms h1 z, z⟩) hq
end
end MiS
namespace MiS
open PySem PySem.Spec PyProof.Rows L2
open Mi (D C ME MS ev evs evP evA evAnd evOr evC bor pur purs Ag Fl evS evSs)
section
variable {X : Cx} {T : Tb} {W : WX} {P : Mi.Pr} {IO : List Nat}
/-! ### statements' readings -/
structure SpS (T : Tb) (IO : List Nat) (σ : L2.St) (H : Hp) (O : Addr → Prop) (σ' : L2.St) (H' : Hp) (e' : Mi.Env) (fp' : Nat → List Addr) : Prop where
  sp : Sp1 T σ' H O false H' e' fp'
  io : ∀ i ∈ IO, σ'[i]? = σ[i]?
def FinS (T : Tb) (W : WX) (IO : List Nat) (σ : L2.St) (H : Hp) (O : Addr → Prop) (D : Ends) : Mi.Res Fl → Prop
  | .ok .nx e' => ∀ σ' H' fp', SpS T IO σ H O σ' H' e' fp' → D.nx σ' H'
  | .ok .ct e' => ∀ σ' H' fp', SpS T IO σ H O σ' H' e' fp' → D.ct σ' H'
  | .ok (.rt c) e' => ∀ v σ' H' fp' F, SpS T IO σ H O σ' H' e' fp' → RC T H' c v F → Tmp H O false fp' F → D.rt v H'
  | .exc k e' => ∀ σ' H' fp', SpS T IO σ H O σ' H' e' fp' → xW T W k σ' H'
  | .stuck => False
def TrS (T : Tb) (W : WX) (IO : List Nat) (m : Mi.Env → Mi.Res Fl) : TS := fun D σ H => ∃ e fp, RE T H e σ fp ∧ FinS T W IO σ H (own fp) D (m e)
theorem PSs.imp {st : List Stmt} {t t' : TS} (h : PSs X st t) (i : ∀ D σ H, t' D σ H → t D σ H) : PSs X st t' := ⟨fun pins s σ H D I q => h.run pins s σ H D I (i D σ H q)⟩
theorem PS.imp {st : Stmt} {t t' : TS} (h : PS X st t) (i : ∀ D σ H, t' D σ H → t D σ H) : PS X st t' := ⟨fun pins s σ H D I q => h.run pins s σ H D I (i D σ H q)⟩
section
variable {σ σ1 σ2 : L2.St} {H H1 H2 : Hp} {O : Addr → Prop} {p p0 p1 b1 q : Bool} {e e1 e2 : Mi.Env} {fp fp1 fp2 : Nat → List Addr} {F : List Addr} {D : Ends}
/-- steps one after another, the slots changing -/
theorem Sp1.transS (a : Sp1 T σ1 H O p H1 e1 fp1) (b : Sp1 T σ2 H1 (own fp1) q H2 e2 fp2) : Sp1 T σ2 H O (p && q) H2 e2 fp2 where
  re := b.re
  sub := fun x h => by
    rcases b.sub x h with h | h
    · exact a.sub x h
    · by_cases hO : O x
      · exact .inl hO
      · refine .inr ?_
        cases e : H x with
        | none => rfl
        | some u => have := a.stp x u e hO; rw [h] at this; cases this
  stp := fun x u e n => b.stp x u (a.stp x u e n) fun h => by
    rcases a.sub x h with h | h
    · exact n h
    · rw [h] at e; cases e
  keep := a.keep.trans b.keep
  pure := fun h => by
    rw [Bool.and_eq_true] at h
    exact fun x u e n => b.pure h.2 x u (a.pure h.1 x u e n) n
theorem SpS.trans (a : SpS T IO σ H O σ1 H1 e1 fp1) (b : SpS T IO σ1 H1 (own fp1) σ2 H2 e2 fp2) : SpS T IO σ H O σ2 H2 e2 fp2 := ⟨(a.sp.transS b.sp).weak fun z => (by cases z), fun i m => (b.io i m).trans (a.io i m)⟩
theorem SpS.ofE (a : Sp1 T σ H O p H1 e1 fp1) : SpS T IO σ H O σ H1 e1 fp1 := ⟨a.weak fun z => (by cases z), fun _ _ => rfl⟩
theorem SpS.refl (r : RE T H e σ fp) : SpS T IO σ H (own fp) σ H e fp := SpS.ofE (p := false) (Sp1.refl r)
theorem Tmp.newS (t : Tmp H1 (own fp1) q fp2 F) (a : Sp1 T σ1 H O p H1 e1 fp1) : Tmp H O (p && q) fp2 F := t.new a
theorem FinS.from {r : Mi.Res Fl} (s : SpS T IO σ H O σ1 H1 e1 fp1) (h : FinS T W IO σ H O D r) : FinS T W IO σ1 H1 (own fp1) D r := by
  cases r with
  | ok o e' => cases o with
    | nx => exact fun σ' H' fp' x => h σ' H' fp' (s.trans x)
    | ct => exact fun σ' H' fp' x => h σ' H' fp' (s.trans x)
    | rt c => exact fun v σ' H' fp' F x rc t => h v σ' H' fp' F (s.trans x) rc ((t.newS s.sp).weak fun z => by cases z)
  | exc k e' => exact fun σ' H' fp' x => h σ' H' fp' (s.trans x)
  | stuck => exact h
theorem TrS.from {m : Mi.Env → Mi.Res Fl} (s : SpS T IO σ H O σ1 H1 e1 fp1) (h : FinS T W IO σ H O D (m e1)) : TrS T W IO m D σ1 H1 := ⟨e1, fp1, s.sp.re, FinS.from s h⟩
theorem FinS.ends {D' : Ends} {r : Mi.Res Fl} (h1 : ∀ σ H, D.nx σ H → D'.nx σ H) (h2 : ∀ σ H, D.ct σ H → D'.ct σ H) (h3 : ∀ v H, D.rt v H → D'.rt v H) (h : FinS T W IO σ H O D r) : FinS T W IO σ H O D' r := by
  cases r with
  | ok o e' => cases o with
    | nx => exact fun σ' H' fp' x => h1 _ _ (h σ' H' fp' x)
    | ct => exact fun σ' H' fp' x => h2 _ _ (h σ' H' fp' x)
    | rt c => exact fun v σ' H' fp' F x rc t => h3 _ _ (h v σ' H' fp' F x rc t)
  | exc k e' => exact h
  | stuck => exact h
/-- an expression within a statement -/
theorem Tr.stepS {m : Mi.Env → Mi.Res C} {g : C → Mi.Env → Mi.Res Fl} {Q1 : VK} (s : Sp1 T σ H O p0 H1 e1 fp1) (hq : FinS T W IO σ H O D ((m e1).bind g))
    (k : ∀ c e2 v H2 fp2 F, m e1 = .ok c e2 → Val T σ H1 (own fp1) b1 p1 e2 c v H2 fp2 F → FinS T W IO σ H O D (g c e2) → Q1 v H2) : Tr T W m b1 p1 σ H1 Q1 := by
  refine ⟨e1, fp1, s.re, ?_⟩
  cases h : m e1 with
  | ok c e2 => rw [h] at hq; exact fun v H2 fp2 F x => k c e2 v H2 fp2 F h x hq
  | exc n e2 => rw [h] at hq; exact fun H2 fp2 x => hq σ H2 fp2 (SpS.ofE (s.trans x))
  | stuck => rw [h] at hq; exact hq
theorem TrA.stepS {m : Mi.Env → Mi.Res (List C)} {g : List C → Mi.Env → Mi.Res Fl} {Q1 : List V → Hp → Prop} (s : Sp1 T σ H O p0 H1 e1 fp1) (hq : FinS T W IO σ H O D ((m e1).bind g))
    (k : ∀ cs e2 vs H2 fp2 F, m e1 = .ok cs e2 → Vls T σ H1 (own fp1) p1 e2 cs vs H2 fp2 F → FinS T W IO σ H O D (g cs e2) → Q1 vs H2) : TrA T W m p1 σ H1 Q1 := by
  refine ⟨e1, fp1, s.re, ?_⟩
  cases h : m e1 with
  | ok c e2 => rw [h] at hq; exact fun v H2 fp2 F x => k c e2 v H2 fp2 F h x hq
  | exc n e2 => rw [h] at hq; exact fun H2 fp2 x => hq σ H2 fp2 (SpS.ofE (s.trans x))
  | stuck => rw [h] at hq; exact hq
theorem TrT.stepS {m : Mi.Env → Mi.Res C} {g : Bool → Mi.Env → Mi.Res Fl} {Q1 : Bool → Hp → Prop} (s : Sp1 T σ H O p0 H1 e1 fp1)
    (hq : FinS T W IO σ H O D ((m e1).bind fun c e => (Mi.ofOpt (Mi.truth c) e).bind g))
    (k : ∀ b e2 H2 fp2, Sp1 T σ H1 (own fp1) p1 H2 e2 fp2 → FinS T W IO σ H O D (g b e2) → Q1 b H2) : TrT T W m p1 σ H1 Q1 := by
  refine ⟨e1, fp1, s.re, ?_⟩
  cases h : m e1 with
  | ok c e2 =>
    rw [h] at hq
    cases hb : Mi.truth c with
    | none => simp only [Mi.Res.bind, hb, Mi.ofOpt] at hq; exact hq.elim
    | some b => simp only [Mi.Res.bind, hb, Mi.ofOpt] at hq; exact ⟨b, hb, fun H2 fp2 x => k b e2 H2 fp2 x hq⟩
  | exc n e2 => rw [h] at hq; exact fun H2 fp2 x => hq σ H2 fp2 (SpS.ofE (s.trans x))
  | stuck => rw [h] at hq; exact hq
/-- what leaks -/
theorem leak_ofS {b : Bool} {c : C} {v : V} {F : List Addr} {g : C → Mi.Env → Mi.Res Fl} {σ0 : L2.St} {H0 : Hp} {O0 : Addr → Prop} (x : Val T σ H O b p e1 c v H1 fp1 F)
    (hq : FinS T W IO σ0 H0 O0 D ((Mi.leak b c e1).bind g)) : Val T σ H O false p e1 c v H1 fp1 F ∧ FinS T W IO σ0 H0 O0 D (g c e1) := by
  unfold Mi.leak at hq
  by_cases z : (b && !c.isVal) = true
  · rw [if_pos z] at hq
    exact hq.elim
  · rw [if_neg z] at hq
    refine ⟨⟨x.sp, x.rc, fun _ => ?_⟩, hq⟩
    cases b with
    | false => exact x.tm rfl
    | true =>
      have : c.isVal = true := by simpa using z
      rw [isVal_fp x.rc this]
      exact .nil
end
/-! ### statements -/
abbrev TS' (T : Tb) (W : WX) (IO : List Nat) (P : Mi.Pr) (m : MS) : TS := TrS T W IO (evS P m)
abbrev TSs' (T : Tb) (W : WX) (IO : List Nat) (P : Mi.Pr) (ms : List MS) : TS := TrS T W IO (evSs P ms)
theorem S_nil : PSs X [] (TSs' T W IO P []) := PSs.imp pss_nil fun D σ H ⟨e, fp, R, hq⟩ => by
  rw [evSs] at hq
  exact hq σ H fp (SpS.refl R)
theorem S_cons {m : MS} {r : List MS} {st : Stmt} {rest : List Stmt} (h1 : PS X st (TS' T W IO P m)) (h2 : PSs X rest (TSs' T W IO P r)) : PSs X (st :: rest) (TSs' T W IO P (m :: r)) := by
  refine PSs.imp (pss_cons h1 h2) fun D σ H ⟨e, fp, R, hq⟩ => ⟨e, fp, R, ?_⟩
  rw [evSs] at hq
  cases h : evS P m e with
  | ok o e1 =>
    rw [h] at hq
    cases o with
    | nx => exact fun σ' H' fp' x => TrS.from x hq
    | ct => exact hq
    | rt c => exact hq
  | exc n e1 => rw [h] at hq; exact hq
  | stuck => rw [h] at hq; exact hq
theorem S_pass {pos : Pos} : PS X (.Pass pos) (TS' T W IO P .pass) := PS.imp ps_pass fun D σ H ⟨e, fp, R, hq⟩ => by
  rw [evS] at hq
  exact hq σ H fp (SpS.refl R)
theorem S_cont {pos : Pos} : PS X (.Continue pos) (TS' T W IO P .cont) := PS.imp ps_continue fun D σ H ⟨e, fp, R, hq⟩ => by
  rw [evS] at hq
  exact hq σ H fp (SpS.refl R)
theorem S_ret {x : ME} {ea : Expr} {pos : Pos} (ha : PE X ea (TE' T W P x)) : PS X (.Return (some ea) pos) (TS' T W IO P (.ret x)) := by
  refine PS.imp (ps_ret ha) fun D σ H ⟨e, fp, R, hq⟩ => ?_
  rw [evS] at hq
  unfold tRet
  refine Tr.stepS (sp0 R) hq fun c e1 v1 H1 fp1 F1 h1 V1 hq => ?_
  obtain ⟨V2, hq⟩ := leak_ofS V1 hq
  exact hq v1 σ H1 fp1 F1 (SpS.ofE V2.sp) V2.rc ((V2.tm rfl).weak fun z => by cases z)
theorem S_ex {x : ME} {ea : Expr} {pos : Pos} (hs : swapsWith ea none pos.line X.env = pure false) (ha : PE X ea (TE' T W P x)) : PS X (.Expr ea pos) (TS' T W IO P (.ex x)) := by
  refine PS.imp (ps_expr ha hs) fun D σ H ⟨e, fp, R, hq⟩ => ?_
  rw [evS] at hq
  unfold tDrop
  refine Tr.stepS (sp0 R) hq fun c e1 v1 H1 fp1 F1 h1 V1 hq => ?_
  exact hq σ H1 fp1 (SpS.ofE V1.sp)
theorem S_ite {c : ME} {a b : List MS} {ec : Expr} {ea eb : List Stmt} {pos : Pos} (hc : PT X ec (TT' T W P c)) (ha : PSs X ea (TSs' T W IO P a)) (hb : PSs X eb (TSs' T W IO P b)) : PS X (.If ec ea eb pos) (TS' T W IO P (.ite c a b)) := by
  refine PS.imp (ps_if hc ha hb) fun D σ H ⟨e, fp, R, hq⟩ => ?_
  rw [evS] at hq
  unfold tIfS
  refine TrT.stepS (sp0 R) hq fun t e1 H1 fp1 s1 hq => ?_
  cases t with
  | true => rw [if_pos rfl] at hq ⊢; exact TrS.from (SpS.ofE s1) hq
  | false => rw [if_neg Bool.false_ne_true] at hq ⊢; exact TrS.from (SpS.ofE s1) hq
/-- behind a statement cells are locked -/
theorem PS.lk {st : Stmt} {t : TS} (h : PS X st t) : PS X st (fun D σ H => t { D with nx := fun σ' H' => LkQ (fun H2 => D.nx σ' H2) H' } σ H) := by
  refine ⟨fun pins s σ H D I q => thn (h.run pins s σ H _ I q) fun fl s1 hs => ?_⟩
  cases fl with
  | next =>
    obtain ⟨σ', H', I', z⟩ := hs
    obtain ⟨H2, I2, z2⟩ := z.inv I'
    exact ⟨σ', H2, I2, z2⟩
  | ret u => exact hs
  | brk => exact hs
  | cont => exact hs
/-- name = value, frozen or not -/
theorem S_set {fz : Bool} {i : Nat} {x : ME} {st : Stmt} {te : TE} (hi : i ∉ IO) (h : PS X st (tAsg te (gName i))) (hte : ∀ σ H Q, TE' T W P x σ H Q → te σ H Q) : PS X st (TS' T W IO P (.asg fz (.nm i) x)) := by
  refine PS.imp (PS.lk h) fun D σ H ⟨e, fp, R, hq⟩ => ?_
  rw [evS] at hq
  unfold tAsg
  refine hte σ H _ ?_
  refine Tr.stepS (sp0 R) hq fun c e1 v1 H1 fp1 F1 h1 V1 hq => ?_
  obtain ⟨V2, hq⟩ := leak_ofS V1 hq
  have t := V2.tm rfl
  have wio : ∀ (v : V), ∀ j ∈ IO, (σ.set i (some v))[j]? = σ[j]? := fun v j m => by rw [List.getElem?_set, if_neg (show ¬ i = j from fun z => hi (z ▸ m))]
  show LkQ (fun H2 => D.nx (σ.set i (some v1)) H2) H1
  cases fz with
  | false =>
    refine .now ?_
    have re := V2.sp.re.put (i := i) V2.rc t.nod t.out
    refine hq _ H1 (updF fp1 i F1) ⟨⟨re, fun a z => ?_, V2.sp.stp, V2.sp.keep, fun z => (by cases z)⟩, wio v1⟩
    rcases own_put z with z | z
    · exact V2.sp.sub a z
    · exact t.sub a z
  | true =>
    refine RC.lock c V2.rc t.nod fun H2 rd z => ?_
    have kp := z.stp.keep fun a m => V2.rc.cell a m
    have re2 : RE T H2 e1 σ fp1 := V2.sp.re.keep kp fun a ha u e => z.stp a u e fun m => t.out a m ha
    have re := re2.put (i := i) (.val rd) .nil fun _ m => nomatch m
    refine hq _ H2 (updF fp1 i []) ⟨⟨re, fun a z => ?_, fun b o e n => ?_, V2.sp.keep.trans kp, fun z => (by cases z)⟩, wio v1⟩
    · rcases own_put z with z | z
      · exact V2.sp.sub a z
      · nomatch z
    · refine z.stp b o (V2.sp.stp b o e n) fun m => ?_
      rcases t.sub b m with h | h
      · exact n h
      · rw [h] at e; cases e
/-- (a, b) = value -/
theorem S_tup {fz : Bool} {is : List Nat} {x : ME} {st : Stmt} {te : TE} {g : TG} (hi : ∀ i ∈ IO, i ∉ is) (tgo : TgOk T g (.tp is)) (h : PS X st (tAsg te g)) (hte : ∀ σ H Q, tLk (TE' T W P x) σ H Q → te σ H Q) : PS X st (TS' T W IO P (.asg fz (.tp is) x)) := by
  refine PS.imp h fun D σ H ⟨e, fp, R, hq⟩ => ?_
  rw [evS] at hq
  unfold tAsg
  refine hte σ H _ ?_
  refine Tr.stepS (sp0 R) hq fun c e1 v1 H1 fp1 F1 h1 V1 hq => ?_
  obtain ⟨V2, hq⟩ := leak_ofS V1 hq
  have t := V2.tm rfl
  have main : ∀ (c : C) (H2 : Hp) (F2 : List Addr), Sp1 T σ H (own fp) false H2 e1 fp1 → RC T H2 c v1 F2 → Tmp H (own fp) false fp1 F2 → FinS T W IO σ H (own fp) D (Mi.binding (Mi.bindTg (.tp is) c e1)) → g v1 σ H2 D.nx := by
    intro c H2 F2 sp rc t hq
    cases hb : Mi.bindTg (.tp is) c e1 with
    | none => rw [hb] at hq; exact hq.elim
    | some e2 =>
      rw [hb] at hq
      refine tgo σ H2 e1 e2 fp1 c v1 F2 _ sp.re rc t.nod t.out hb fun σ2 fp2 re ho hw => ?_
      refine hq σ2 H2 fp2 ⟨⟨re, fun a z => ?_, sp.stp, sp.keep, fun z => (by cases z)⟩, fun i m => ?_⟩
      · rcases ho a z with z | z
        · exact sp.sub a z
        · exact t.sub a z
      · have := hw is fun i m => m
        rw [← wipe_out (hi i m), this, wipe_out (hi i m)]
  cases fz with
  | false =>
    rw [if_neg Bool.false_ne_true] at hq
    exact .now (main c H1 F1 (V2.sp.weak fun z => by cases z) V2.rc (t.weak fun z => by cases z) hq)
  | true =>
    rw [if_pos rfl] at hq
    refine RC.lock c V2.rc t.nod fun H2 rd z => ?_
    have kp := z.stp.keep fun a m => V2.rc.cell a m
    have re2 : RE T H2 e1 σ fp1 := V2.sp.re.keep kp fun a ha u e => z.stp a u e fun m => t.out a m ha
    refine main (.val c.frz) H2 [] ⟨re2, V2.sp.sub, fun b o e n => ?_, V2.sp.keep.trans kp, fun z => by cases z⟩ (.val rd) .nil hq
    refine z.stp b o (V2.sp.stp b o e n) fun m => ?_
    rcases t.sub b m with h | h
    · exact n h
    · rw [h] at e; cases e
end
end MiS
namespace MiS
open PySem PySem.Spec PyProof.Rows L2
open Mi (D C ME MS ev evs evP evA evAnd evOr evC bor pur purs Ag Fl evS evSs)
section
variable {X : Cx} {T : Tb} {W : WX} {P : Mi.Pr} {IO : List Nat}
/-! ### loops -/
theorem fin_body {σ0 σ2 : L2.St} {H0 H2 : Hp} {O0 : Addr → Prop} {e2 : Mi.Env} {fp2 : Nat → List Addr} {D : Ends} {N : L2.St → Hp → Prop} {r : Mi.Res Fl} {g : Mi.Env → Mi.Res Fl} (s : SpS T IO σ0 H0 O0 σ2 H2 e2 fp2)
    (hq : FinS T W IO σ0 H0 O0 D (r.bind fun o e => match o with | .rt c => .ok (.rt c) e | _ => g e))
    (k : ∀ e' σ' H' fp', SpS T IO σ2 H2 (own fp2) σ' H' e' fp' → FinS T W IO σ0 H0 O0 D (g e') → N σ' H') : FinS T W IO σ2 H2 (own fp2) { D with nx := N, ct := N, bk := D.nx } r := by
  cases r with
  | ok o e' => cases o with
    | nx => exact fun σ' H' fp' x => k e' σ' H' fp' x hq
    | ct => exact fun σ' H' fp' x => k e' σ' H' fp' x hq
    | rt c => exact fun v σ' H' fp' F x rc t => hq v σ' H' fp' F (s.trans x) rc ((t.newS s.sp).weak fun z => by cases z)
  | exc n e' => exact fun σ' H' fp' x => hq σ' H' fp' (s.trans x)
  | stuck => exact hq
theorem S_for {t : Mi.Tg} {it : Mi.It} {src : List ME} {b : List MS} {tge iter : Expr} {body : List Stmt} {wi : TI} {g : TG} {pos : Pos} (hp : PassesOwn (model X.prog X.w) X.A X.env X.xe) (hc : X.calm = true) (hi : PI X tge iter wi) (hg : PG X tge g) (hb : PSs X body (TSs' T W IO P b))
    (hs : ∀ x, foldedSetIterable iter X.env x = pure x) (tgo : TgOk T g t) (hio : ∀ i ∈ IO, i ∉ t.slots)
    (wr : ∀ σ H (R : It → Hp → Prop), TAs T W P src σ H (fun vs H1 => ∃ cs F ds, RCs T H1 cs vs F ∧ Mi.itemsK it cs = some ds ∧ ItR T F ds R H1) → wi σ H R) : PS X (.For tge iter body [] pos) (TS' T W IO P (.for_ t it src b)) := by
  refine PS.imp (ps_for hp hc hi hg hb hs) fun D σ H ⟨e0, fp0, R0, hq⟩ => ?_
  rw [evS] at hq
  unfold tFor
  refine wr σ H _ ?_
  refine TrA.stepS (sp0 R0) hq fun cs e1 vs H1 fp1 F h1 V1 hq => ?_
  split at hq
  · rename_i ds hds
    refine ⟨cs, F, ds, V1.rc, hds, ?_⟩
    intro J G wk g1 stab
    let f : Mi.D → Mi.Env → Mi.Res Fl := fun d e => match Mi.bindTg t (.val d) e with
        | some e => evSs P b e
        | none => .stuck
    refine for_it wk (fun i σi Hi => ∃ e fp, SpS T IO σ H (own fp0) σi Hi e fp ∧ FinS T W IO σ H (own fp0) D (Mi.forLoop f (ds.drop i) e) ∧ G Hi ∧ ∀ a ∈ F, (∃ u, Hi a = some u) ∧ ¬ own fp a) ?_ (fun i σi Hi _ ⟨_, _, _, _, g, _⟩ => g) ?_ ?_
    · exact ⟨e1, fp1, SpS.ofE V1.sp, hq, g1, fun a m => ⟨by obtain ⟨u, eu, _⟩ := RCs.cell V1.rc a m; exact ⟨u, eu⟩, V1.tm.out a m⟩⟩
    · intro i x σi Hi H' hlt ⟨e, fp, s, hq, gi, hF⟩ ⟨sy, ky, d, hd, rd⟩
      rw [List.drop_eq_getElem_cons hlt] at hq
      have hdd : ds[i] = d := by rw [List.getElem?_eq_getElem hlt] at hd; exact Option.some.inj hd
      rw [hdd, Mi.forLoop] at hq
      cases hbt : Mi.bindTg t (.val d) e with
      | none => simp only [f, hbt] at hq; exact hq.elim
      | some e2 =>
        have hq' : FinS T W IO σ H (own fp0) D ((evSs P b e2).bind fun o e => match o with | .rt c => .ok (.rt c) e | _ => Mi.forLoop f (ds.drop (i + 1)) e) := by
          simp only [f, hbt] at hq
          exact hq
        have s1 : SpS T IO σ H (own fp0) σi H' e fp := ⟨s.sp.laid ky sy, s.io⟩
        refine tgo σi H' e e2 fp (.val d) x [] _ s1.sp.re (.val rd) .nil (fun _ m => nomatch m) hbt fun σ2 fp2 re2 ho2 hw2 => ?_
        have s2 : SpS T IO σ H (own fp0) σ2 H' e2 fp2 := ⟨s1.sp.re' re2 (fun a h => (ho2 a h).elim id fun m => nomatch m), fun i m => by
          rw [← s1.io i m, ← wipe_out (hio i m), hw2 t.slots fun i m => m, wipe_out (hio i m)]⟩
        have g2 : G H' := stab _ _ gi ky fun a m u eu => sy a u eu fun z => z
        have hF2 : ∀ a ∈ F, (∃ u, H' a = some u) ∧ ¬ own fp2 a := fun a m => by
          obtain ⟨⟨u, eu⟩, no⟩ := hF a m
          exact ⟨⟨u, sy a u eu fun z => z⟩, fun z => (ho2 a z).elim no fun m => nomatch m⟩
        refine ⟨e2, fp2, re2, fin_body s2 hq' fun e' σ' H'' fp' x hq => ⟨e', fp', s2.trans x, hq, ?_, fun a m => ?_⟩⟩
        · exact stab _ _ g2 x.sp.keep fun a m u eu => x.sp.stp a u eu (hF2 a m).2
        · obtain ⟨⟨u, eu⟩, no⟩ := hF2 a m
          refine ⟨⟨u, x.sp.stp a u eu no⟩, fun z => ?_⟩
          rcases x.sp.sub a z with z | z
          · exact no z
          · rw [eu] at z; cases z
    · intro σn Hn ⟨e, fp, s, hq, _, _⟩
      rw [List.drop_length, Mi.forLoop] at hq
      exact hq σn Hn fp s
  · exact hq.elim
theorem bind_assoc {α β γ : Type} (m : Mi.Res α) (f : α → Mi.Env → Mi.Res β) (g : β → Mi.Env → Mi.Res γ) : (m.bind f).bind g = m.bind fun a e => (f a e).bind g := by
  cases m <;> rfl
theorem S_whl {c : ME} {b : List MS} {ec : Expr} {body : List Stmt} {pos : Pos} (hp : PassesOwn (model X.prog X.w) X.A X.env X.xe) (hc : PT X ec (TT' T W P c)) (hb : PSs X body (TSs' T W IO P b)) : PS X (.While ec body [] pos) (TS' T W IO P (.whl c b)) := by
  refine PS.imp (ps_while hp hc hb) fun D σ H ⟨e0, fp0, R0, hq⟩ => ?_
  rw [evS] at hq
  unfold tWhile
  let L : Nat → Mi.Env → Mi.Res Fl := fun m e => Mi.whlLoop (fun e => (ev P c e).bind fun x e => Mi.ofOpt (Mi.truth x) e) (fun e => evSs P b e) m e
  refine ⟨fun m σi Hi => ∃ e fp, RE T Hi e σi fp ∧ FinS T W IO σi Hi (own fp) D (L m e), ⟨P.wf, e0, fp0, R0, hq⟩, ?_⟩
  intro m σi Hi ⟨e, fp, R, hq⟩
  cases m with
  | zero => exact hq.elim
  | succ m =>
    have hq : FinS T W IO σi Hi (own fp) D ((ev P c e).bind fun x e => (Mi.ofOpt (Mi.truth x) e).bind fun b' e => if b' then (evSs P b e).bind fun o e => (match o with | .rt c => .ok (.rt c) e | _ => L m e) else .ok .nx e) := by
      rw [← bind_assoc]
      exact hq
    refine TrT.stepS (sp0 R) hq fun t e1 H1 fp1 s1 hq => ?_
    cases t with
    | true =>
      rw [if_pos rfl] at hq ⊢
      refine ⟨fun σ' H' => ∃ e fp, RE T H' e σ' fp ∧ FinS T W IO σ' H' (own fp) D (L m e), fun σ' H' h => ⟨m, Nat.lt_succ_self m, h⟩, e1, fp1, s1.re, ?_⟩
      have hq1 := FinS.from (SpS.ofE s1) hq
      exact fin_body (SpS.refl s1.re) hq1 fun e' σ' H' fp' x hq => ⟨e', fp', x.sp.re, FinS.from x hq⟩
    | false =>
      rw [if_neg Bool.false_ne_true] at hq ⊢
      exact hq σi H1 fp1 (SpS.ofE s1)
/-! ### a slot's cell is changed -/
theorem SpS.mod {σ : L2.St} {H H2 : Hp} {O : Addr → Prop} {p : Bool} {e2 : Mi.Env} {fp2 : Nat → List Addr} {i : Nat} {c' : C} {v : V} {a : Addr} {u u' : HO} {F' : List Addr} (s : Sp1 T σ H O p H2 e2 fp2) (hi : i < e2.length) (hv : σ[i]? = some (some v)) (ha : a ∈ fp2 i) (hu : H2 a = some u) (mu : Mut (some u))
    (rc : RC T (upd H2 a u') c' v F') (nd : F'.Nodup) (sub : ∀ b ∈ F', b ∈ fp2 i ∨ (¬ own fp2 b ∧ (O b ∨ H b = none))) : Sp1 T σ H O false (upd H2 a u') (e2.set i (some c')) (updF fp2 i F') := by
  have kp : Keep H2 (upd H2 a u') := ⟨fun b vs eb => upd_stay (fun z => by rw [z, hu] at eb; cases eb; exact mu) eb, fun b o x eb => upd_stay (fun z => by rw [z, hu] at eb; cases eb; exact mu) eb⟩
  have r0 : RE T (upd H2 a u') (e2.set i none) σ (updF fp2 i []) := (s.re.set_none i).keep kp fun x hx y ex => upd_stay (fun z => by
    obtain ⟨j, n, m⟩ := (own_updF_nil hx).2 ()
    exact s.re.dis i j a (fun q => n q.symm) ha (z ▸ m)) ex
  have r1 := r0.set_own (i := i) (by rw [List.length_set]; exact hi) hv rc nd fun j b n m z => by
    unfold updF at z
    rw [if_neg n] at z
    rcases sub b m with q | q
    · exact s.re.dis i j b (fun q => n q.symm) q z
    · exact q.1 ⟨j, z⟩
  rw [List.set_set] at r1
  have ef : updF (updF fp2 i []) i F' = updF fp2 i F' := by funext j; unfold updF; split <;> rfl
  rw [ef] at r1
  refine ⟨r1, fun b z => ?_, fun b o eb n => ?_, s.keep.trans kp, fun z => by cases z⟩
  · rcases own_put z with z | z
    · exact s.sub b z
    · rcases sub b z with q | q
      · exact s.sub b ⟨i, q⟩
      · exact q.2
  · refine upd_stay (fun z => ?_) (s.stp b o eb n)
    subst z
    rcases s.sub b ⟨i, ha⟩ with x | x
    · exact n x
    · rw [x] at eb; cases eb
theorem lst_of {H : Hp} {c : C} {v : V} {F : List Addr} {cs : List C} (r : RC T H c v F) (h : c = .lst cs) : ∃ a vs F0, v = .ref a ∧ H a = some (.lst vs) ∧ RCs T H cs vs F0 ∧ F = a :: F0 := by
  subst h
  cases r with
  | lst h r => exact ⟨_, _, _, rfl, h, r, rfl⟩
theorem dct_of {H : Hp} {c : C} {v : V} {F : List Addr} {ks : List D} {cs : List C} (r : RC T H c v F) (h : c = .dct ks cs) : ∃ a vs kvs F0, v = .ref a ∧ H a = some (.dK kvs) ∧ keysD ks vs = some kvs ∧ RCs T H cs vs F0 ∧ F = a :: F0 := by
  subst h
  cases r with
  | dct h k r => exact ⟨_, _, _, _, rfl, h, k, r, rfl⟩
theorem rsv_var {i : Nat} {e : Mi.Env} {f : Nat × List Mi.Sel → Mi.Env → Mi.Res Fl} {σ : L2.St} {H : Hp} {O : Addr → Prop} {D : Ends} (hq : FinS T W IO σ H O D ((Mi.rsv P (.var i) e).bind f)) : ∃ c, e[i]? = some (some c) ∧ FinS T W IO σ H O D (f (i, []) e) := by
  rw [Mi.rsv] at hq
  split at hq
  · exact ⟨_, by assumption, hq⟩
  · exact hq.elim
theorem modE_nil {α : Type} {f : C → Option (C × α)} {i : Nat} {e : Mi.Env} {g : α → Mi.Env → Mi.Res Fl} {σ : L2.St} {H : Hp} {O : Addr → Prop} {D : Ends} (hq : FinS T W IO σ H O D ((Mi.modE f i [] e).bind g)) : ∃ c c' a, e[i]? = some (some c) ∧ f c = some (c', a) ∧ FinS T W IO σ H O D (g a (e.set i (some c'))) := by
  unfold Mi.modE at hq
  split at hq
  · rename_i c hc
    rw [Mi.modC] at hq
    cases hf : f c with
    | none => rw [hf] at hq; exact hq.elim
    | some p => rw [hf] at hq; exact ⟨c, p.1, p.2, hc, hf, hq⟩
  · exact hq.elim
theorem lstAt_nil {i : Nat} {e : Mi.Env} {c : C} (h : Mi.lstAt i [] e = true) (hc : e[i]? = some (some c)) : ∃ cs, c = .lst cs := by
  unfold Mi.lstAt at h
  rw [hc] at h
  simp only [Mi.modC] at h
  cases c with
  | lst cs => exact ⟨cs, rfl⟩
  | _ => simp at h
end
end MiS
namespace MiS
open PySem PySem.Spec PyProof.Rows L2
open Mi (D C ME MS ev evs evP evA evAnd evOr evC bor pur purs Ag Fl evS evSs)
section
variable {X : Cx} {T : Tb} {W : WX} {P : Mi.Pr} {IO : List Nat}
/-! ### methods that change a list -/
def rMo (T : Tb) (o : Mi.Mo) : V → List V → Hp → VK → Prop := fun x xs H Q => ∃ l vs cs F0 args Fa c', x = .ref l ∧ H l = some (.lst vs) ∧ RCs T H cs vs F0 ∧ RCs T H args xs Fa ∧ (l :: (F0 ++ Fa)).Nodup ∧ Mi.moC o args (.lst cs) = some (c', ()) ∧
  ∀ vs' F', RC T (upd H l (.lst vs')) c' (.ref l) F' → F'.Nodup → (∀ b ∈ F', b ∈ l :: (F0 ++ Fa)) → Q .non (upd H l (.lst vs'))
theorem poke_rcs {H : Hp} {l : Addr} {u u' : HO} (h : H l = some u) (mu : Mut (some u)) {cs : List C} {vs : List V} {F : List Addr} (r : RCs T H cs vs F) (n : l ∉ F) : RCs T (upd H l u') cs vs F :=
  r.stp (G := (· = l)) ⟨fun b ws eb => upd_stay (fun z => by rw [z, h] at eb; cases eb; exact mu) eb, fun b o x eb => upd_stay (fun z => by rw [z, h] at eb; cases eb; exact mu) eb⟩ (fun b o eb n => upd_stay n eb) fun a m z => n (z ▸ m)
theorem rMo_append : MtR X "list.append" (rMo T .append) := by
  intro pins s σ H x xs v us Q I rx rs ⟨l, vs, cs, F0, args, Fa, c', hx, hl, rc, ra, nd, hm, q⟩
  unfold Mi.moC at hm
  split at hm
  all_goals first
    | (rename_i ho _ _; cases ho; done)
    | (rename_i ho _; cases ho; done)
    | (rename_i ho; cases ho; done)
    | (cases hm; done)
    | skip
  rename_i x0 cs0 _ hcs
  cases hcs
  split at hm
  · rename_i hlt
    cases hm
    obtain ⟨y, rfl, ry⟩ := ra.one
    refine mt_append pins s σ H x [y] v us Q I rx rs ⟨l, vs, y, hx, rfl, hl, by rw [← rcs_length rc, ← lineEq]; exact hlt, ?_⟩
    obtain ⟨n1, n2⟩ := List.nodup_cons.mp nd
    rw [List.mem_append, not_or] at n1
    exact q (vs ++ [y]) (l :: (F0 ++ Fa)) (.lst upd_same ((poke_rcs hl trivial rc n1.1).app (poke_rcs hl trivial ra n1.2))) nd fun b m => m
  · cases hm
end
end MiS
namespace MiS
open PySem PySem.Spec PyProof.Rows PySem.AutoSeq1
theorem list_extendW (l : Addr) (items : Array Value) (n : Nat) (b : Addr) (items2 : Array Value) (n2 : Nat) (dd2 : Option Addr) (sl2 : Array (Option Value)) (hc0 : ¬(!items.isEmpty && Builtin.List.listTooLong (items.size + items2.size)) = true) (hc1 : items.size ≤ sizeLine) (hs2 : items.size + items2.size ≤ sizeLine + 1) :
    Meets (Builtin.«list.extend» ⟨[.ref l, .ref b], []⟩) (fun _ R s => s.heap.get? l = some { cls := .type "list", dict := none, data := .seq items n, slots := #[] } ∧ s.heap.get? b = some { cls := .type "list", dict := dd2, data := .seq items2 n2, slots := sl2 } ∧ R (.ok (.ret Value.none)) { s with heap := s.heap.update l (Obj.mapSeq fun x => x ++ items2), toks := s.toks }) :=
  .of_wp fun prog w A R s h => by
    obtain ⟨hp, g, d, tk, os⟩ := s; obtain ⟨hl, hb, h⟩ := h; have f1 := idx_int; have f2 := AutoSeq1.sub_tuple_tuple; have f3 := AutoSeq1.sub_list_list; have f4 := AutoSeq1.sub_tuple_list; have f5 := AutoSeq1.sub_list_tuple;
    have hz' : (items ++ items2).size ≤ sizeLine + 1 := by rw [Array.size_append]; exact hs2
    wp_walk using (wpAny_updateSeq hl rfl (hz := hc1) (_hz' := hz')), wpAny_loadPart' hl, wpAny_loadPart' hb; exact ⟨_, rfl, h⟩
theorem list_extendT (l : Addr) (items : Array Value) (n : Nat) (b : Addr) (items2 : Array Value) (n2 : Nat) (dd2 : Option Addr) (sl2 : Array (Option Value)) (hs0 : ¬(!items.isEmpty && Builtin.List.listTooLong (items.size + items2.size)) = true) (hs1 : items.size ≤ sizeLine) (hs2 : items.size + items2.size ≤ sizeLine + 1) :
    Meets (Builtin.«list.extend» ⟨[.ref l, .ref b], []⟩) (fun _ R s => s.heap.get? l = some { cls := .type "list", dict := none, data := .seq items n, slots := #[] } ∧ s.heap.get? b = some { cls := .type "tuple", dict := dd2, data := .seq items2 n2, slots := sl2 } ∧ R (.ok (.ret Value.none)) { s with heap := s.heap.update l (Obj.mapSeq fun x => x ++ items2), toks := s.toks }) :=
  .of_wp fun prog w A R s h => by
    obtain ⟨hp, g, d, tk, os⟩ := s; obtain ⟨hl, hb, h⟩ := h; have f1 := idx_int; have f2 := AutoSeq1.sub_tuple_tuple; have f3 := AutoSeq1.sub_list_list; have f4 := AutoSeq1.sub_tuple_list; have f5 := AutoSeq1.sub_list_tuple;
    have hz' : (items ++ items2).size ≤ sizeLine + 1 := by rw [Array.size_append]; exact hs2
    wp_walk using (wpAny_updateSeq hl rfl (hz := hs1) (_hz' := hz')), wpAny_loadPart' hl, wpAny_loadPart' hb; exact ⟨_, rfl, h⟩
end MiS
namespace MiS
open PySem PySem.Spec PyProof.Rows L2
open Mi (D C ME MS ev evs evP evA evAnd evOr evC bor pur purs Ag Fl evS evSs)
section
variable {X : Cx} {T : Tb} {W : WX} {P : Mi.Pr} {IO : List Nat}
/-- list.extend of whatever list or tuple is read -/
theorem mt_extendF (hK : T.K = X.K) : MtR X "list.extend" (fun x vs H Q => ∃ l b xs zs, x = .ref l ∧ vs = [.ref b] ∧ H l = some (.lst xs) ∧ (SqL T.K H b zs ∨ SqT T.K H b zs) ∧ xs.length + zs.length ≤ sizeLine ∧ Q .non (upd H l (.lst (xs ++ zs)))) := by
  intro pins s σ H x vs v us Q I rx rv h
  obtain ⟨l, b, xs, zs, rfl, rfl, hH, hB, hz, q⟩ := h
  cases rx
  obtain ⟨u, rfl, ru⟩ := rv.one
  cases ru
  obtain ⟨z, its, n, r, hl, e⟩ := I.lstM hH
  rw [hK] at hB
  have mid : ∀ its2 : List Value, Vals zs its2 → (¬ (!its.toArray.isEmpty && Builtin.List.listTooLong (its.toArray.size + its2.toArray.size)) = true) ∧ its.toArray.size ≤ sizeLine ∧ its.toArray.size + its2.toArray.size ≤ sizeLine + 1 := by
    intro its2 r2
    have hl2 := r2.length
    have hsz : its.toArray.size + its2.toArray.size ≤ sizeLine := by rw [List.size_toArray, List.size_toArray]; omega
    refine ⟨?_, by rw [List.size_toArray]; omega, by omega⟩
    rw [notLongL hsz, Bool.and_false]
    exact Bool.false_ne_true
  have fin : ∀ its2 : List Value, Vals zs its2 → EP X pins σ Q Value.none { s with heap := s.heap.update l (Obj.mapSeq fun x => x ++ its2.toArray), toks := s.toks } := by
    intro its2 r2
    refine ⟨.non, _, I.lset (its' := its ++ its2) hH e (by simp) (r.append r2) ?_, rfl, q⟩
    rw [List.length_append]
    omega
  rcases hB with hB | hB
  · obtain ⟨its2, r2, ⟨o2, n2, e2, c2, d2, t2⟩, hz2⟩ := I.list hB
    obtain ⟨cls, dct, dat, sl⟩ := o2
    simp only at c2 d2 t2
    subst c2 d2 t2
    obtain ⟨m1, m2, m3⟩ := mid its2 r2
    exact call_meets F.slot_list_extend ⟨_, e, rfl⟩ F.entry_list_extend (F.args_list_extend_2 _ _) (list_extendW l its.toArray n b its2.toArray n2 none sl m1 m2 m3) ⟨e, e2, fin its2 r2⟩
  · obtain ⟨its2, r2, ⟨o2, e2, c2, n2, t2⟩, hz2⟩ := I.tuple hB
    obtain ⟨cls, dct, dat, sl⟩ := o2
    simp only at c2 t2
    subst c2 t2
    obtain ⟨m1, m2, m3⟩ := mid its2 r2
    exact call_meets F.slot_list_extend ⟨_, e, rfl⟩ F.entry_list_extend (F.args_list_extend_2 _ _) (list_extendT l its.toArray n b its2.toArray n2 dct sl m1 m2 m3) ⟨e, e2, fin its2 r2⟩
theorem rMo_extend (hK : T.K = X.K) : MtR X "list.extend" (rMo T .extend) := by
  intro pins s σ H x xs v us Q I rx rs ⟨l, vs, cs, F0, args, Fa, c', hx, hl, rc, ra, nd, hm, q⟩
  unfold Mi.moC at hm
  split at hm
  all_goals first
    | (rename_i ho _ _; cases ho; done)
    | (rename_i ho _; cases ho; done)
    | (rename_i ho; cases ho; done)
    | (cases hm; done)
    | skip
  rename_i x0 cs0 _ hcs
  cases hcs
  obtain ⟨n1, n2⟩ := List.nodup_cons.mp nd
  rw [List.mem_append, not_or] at n1
  have fin : ∀ (ds : List Mi.D) (b : Addr) (zs : List V), xs = [.ref b] → (SqL T.K H b zs ∨ SqT T.K H b zs) → RDs T H ds zs → cs.length + ds.length ≤ Mi.line → c' = .lst (cs ++ ds.map .val) → wpAny (model X.prog X.w) X.A (call (.builtin "list.extend") (v :: us)) (EP X pins σ Q) X.xe s := by
    intro ds b zs e1 e2 rd hlen ec
    subst e1 ec
    refine mt_extendF hK pins s σ H x _ v us Q I rx rs ⟨l, b, vs, zs, hx, rfl, hl, e2, by rw [← rcs_length rc, ← RDs.length rd, ← lineEq]; exact hlen, ?_⟩
    have kp : Keep H (upd H l (.lst (vs ++ zs))) := ⟨fun b ws eb => upd_stay (fun z => by rw [z, hl] at eb; cases eb) eb, fun b o x eb => upd_stay (fun z => by rw [z, hl] at eb; cases eb) eb⟩
    refine q (vs ++ zs) (l :: (F0 ++ [])) (.lst upd_same ((poke_rcs hl trivial rc n1.1).app (RDs.ofC (rd.keep kp)))) ?_ fun b m => ?_
    · rw [List.append_nil]
      exact List.nodup_cons.mpr ⟨n1.1, (List.nodup_append.mp n2).1⟩
    · rw [List.append_nil] at m
      rcases List.mem_cons.mp m with z | z
      · exact z ▸ List.mem_cons_self
      · exact List.mem_cons_of_mem _ (List.mem_append_left _ z)
  obtain ⟨y, rfl, ry⟩ := ra.one
  split at hm
  · rename_i ds hd
    split at hm
    · rename_i hlen
      cases hm
      obtain ⟨b, zs, rfl, sq, rd⟩ := asL_sq ry hd
      exact fin ds b zs rfl (.inl sq) rd hlen rfl
    · cases hm
  · rw [Option.bind_eq_some_iff] at hm
    obtain ⟨ds, hd, hm⟩ := hm
    split at hm
    · rename_i hlen
      cases hm
      obtain ⟨b, zs, rfl, sq, rd⟩ := asT_sq ry hd
      exact fin ds b zs rfl (.inr sq) rd hlen rfl
    · cases hm
theorem rMo_clear : MtR X "list.clear" (rMo T .clear) := by
  intro pins s σ H x xs v us Q I rx rs ⟨l, vs, cs, F0, args, Fa, c', hx, hl, rc, ra, nd, hm, q⟩
  unfold Mi.moC at hm
  split at hm
  all_goals first
    | (rename_i ho _ _; cases ho; done)
    | (rename_i ho _; cases ho; done)
    | (rename_i ho; cases ho; done)
    | (cases hm; done)
    | skip
  cases hm
  cases ra
  exact mt_clear pins s σ H x [] v us Q I rx rs ⟨l, vs, hx, rfl, hl, q [] [l] (.lst upd_same .nil) (List.nodup_cons.mpr ⟨fun m => (nomatch m), .nil⟩) fun b m => by rw [List.mem_singleton] at m; rw [m]; exact List.mem_cons_self⟩
def moN : Mi.Mo → String
  | .append => "append" | .extend => "extend" | .insert => "insert" | .clear => "clear"
/-- a list at a slot is changed by a method -/
theorem mut_rd {i : Nat} {o : Mi.Mo} {args : List ME} {σ : L2.St} {H : Hp} {D : Ends} (h : TS' T W IO P (.mut (.var i) o args) D σ H) : tVar i σ H fun x H1 => tyV T.K "list" x H1 ∧ TAs T W P args σ H1 fun xs H2 => rMo T o x xs H2 fun _ H3 => D.nx σ H3 := by
  obtain ⟨e, fp, R, hq⟩ := h
  rw [evS] at hq
  obtain ⟨c, hc, hq⟩ := rsv_var hq
  split at hq
  · rename_i hl
    rw [Bool.and_eq_true] at hl
    obtain ⟨cs0, rfl⟩ := lstAt_nil hl.1 hc
    obtain ⟨v, hv, rc⟩ := R.at_ i _ hc
    refine ⟨v, hv, ?_, ?_⟩
    · obtain ⟨l, vs, F0, rfl, hl', r', hfp⟩ := lst_of rc rfl
      exact .inl ⟨rfl, _, .inl (.inl hl')⟩
    · refine TrA.stepS (sp0 R) hq fun as e1 xs H1 fp1 Fa h1 V1 hq => ?_
      obtain ⟨c1, c', a, hc1, hf, hq⟩ := modE_nil hq
      obtain ⟨v', hv', rc'⟩ := V1.sp.re.at_ i c1 hc1
      have ev : v' = v := by rw [hv] at hv'; cases hv'; rfl
      subst ev
      have : ∃ cs, c1 = .lst cs := by
        cases c1 with
        | lst cs => exact ⟨cs, rfl⟩
        | _ => cases o <;> simp [Mi.moC] at hf
      obtain ⟨cs, rfl⟩ := this
      obtain ⟨l, vs, F0, rfl, hl', r', hfp⟩ := lst_of rc' rfl
      have nd := V1.sp.re.nod i
      rw [hfp] at nd
      obtain ⟨n1, n2⟩ := List.nodup_cons.mp nd
      have dj : ∀ b ∈ Fa, b ∉ fp1 i := fun b m z => V1.tm.out b m ⟨i, z⟩
      refine ⟨l, vs, cs, F0, as, Fa, c', rfl, hl', r', V1.rc, ?_, hf, fun vs' F' rcn ndn sub => ?_⟩
      · refine List.nodup_cons.mpr ⟨fun m => ?_, List.nodup_append.mpr ⟨n2, V1.tm.nod, fun b hb b' hb' z => ?_⟩⟩
        · rcases List.mem_append.mp m with m | m
          · exact n1 m
          · exact dj l m (by rw [hfp]; exact List.mem_cons_self)
        · subst z
          exact dj b hb' (by rw [hfp]; exact List.mem_cons_of_mem _ hb)
      · refine hq σ _ _ (SpS.ofE (SpS.mod V1.sp (lt_of_some hc1) hv' (by rw [hfp]; exact List.mem_cons_self) hl' trivial rcn ndn fun b m => ?_))
        rcases List.mem_cons.mp (sub b m) with z | z
        · exact .inl (by rw [hfp, z]; exact List.mem_cons_self)
        · rcases List.mem_append.mp z with z | z
          · exact .inl (by rw [hfp]; exact List.mem_cons_of_mem _ z)
          · exact .inr ⟨V1.tm.out b z, V1.tm.sub b z⟩
  · exact hq.elim
theorem S_mut {i : Nat} {o : Mi.Mo} {a : ME} {r : List ME} {eo e : Expr} {es : List Expr} {apos cpos pos : Pos} {name : Str} {id : String} (hK : T.K = X.K) (slot : Slot "list" name id) (hty : typeOf (.builtin id) = pure (.type "method_descriptor")) (hm : MtR X id (rMo T o)) (ho : PE X eo (tVar i)) (ha : PA X (e :: es) (TAs T W P (a :: r)))
    (hs0 : swapsWith (.Call (.Attribute eo name apos) (e :: es) [] cpos) none pos.line X.env = pure false) (hbase : attributeBase eo name X.env (eval eo X.env) = eval eo X.env)
    (hfew : ((backTo cpos (starEach (e :: es) X.env)).all (fun x => !x.1) && (backToKw cpos (keywordEach [] X.env)).all (fun x => x.1.isSome)
      && decide ((e :: es).length + ([] : List Keyword).length + (if ([] : List Keyword).isEmpty then 0 else 1) < 30)) = true)
    (hline : (apos.endLine == cpos.line) = true) (hs : starEach (e :: es) X.env = (false, eval e X.env) :: starEach es X.env) (hplain : (backTo cpos (starEach es X.env)).any (·.1) = false) :
    PS X (.Expr (.Call (.Attribute eo name apos) (e :: es) [] cpos) pos) (TS' T W IO P (.mut (.var i) o (a :: r))) :=
  PS.imp (ps_expr (pe_bm PySem.F.plainAttrs_list slot hty hm ho ha hbase hfew hline hs hplain) hs0) fun D σ H h => by
    obtain ⟨v, hv, ht, hr⟩ := mut_rd h
    exact ⟨v, hv, by rw [← hK]; exact ht, hr⟩
theorem S_clear {i : Nat} {eo : Expr} {apos cpos pos : Pos} (hK : T.K = X.K) (ho : PE X eo (tVar i)) (hs0 : swapsWith (.Call (.Attribute eo "clear" apos) [] [] cpos) none pos.line X.env = pure false) (hbase : attributeBase eo "clear" X.env (eval eo X.env) = eval eo X.env) (hline : (apos.endLine == cpos.line) = true) :
    PS X (.Expr (.Call (.Attribute eo "clear" apos) [] [] cpos) pos) (TS' T W IO P (.mut (.var i) .clear [])) :=
  PS.imp (ps_expr (pe_bm0 PySem.F.plainAttrs_list PySem.F.slot_list_clear PySem.F.type_list_clear rMo_clear ho hbase hline) hs0) fun D σ H h => by
    obtain ⟨v, hv, ht, e, fp, R, hr⟩ := mut_rd h
    rw [evs] at hr
    exact ⟨v, hv, by rw [← hK]; exact ht, hr [] H fp [] ⟨Sp1.refl R, .nil, .nil⟩⟩
/-! ### a[i] = value -/
def rSt (T : Tb) : TSet := fun o i v H Q => ∃ c k cv F Fv c' l u, RC T H c o F ∧ RD T H k i ∧ RC T H cv v Fv ∧ o = .ref l ∧ F = l :: F.tail ∧ H l = some u ∧ Mut (some u) ∧ (F ++ Fv).Nodup ∧ Mi.setL k cv c = some (c', ()) ∧
  ∀ u' F', RC T (upd H l u') c' o F' → F'.Nodup → (∀ b ∈ F', b ∈ F ++ Fv) → Q (upd H l u')
theorem RCs.set {H : Hp} : ∀ {cs : List C} {vs : List V} {F : List Addr} {j : Nat} {c : C} {v : V} {Fv : List Addr}, RCs T H cs vs F → RC T H c v Fv → (F ++ Fv).Nodup → j < cs.length → ∃ F', RCs T H (cs.set j c) (vs.set j v) F' ∧ F'.Nodup ∧ ∀ b ∈ F', b ∈ F ++ Fv
  | [], _, _, _, _, _, _, .nil, _, _, h => absurd h (Nat.not_lt_zero _)
  | c0 :: cs, _, _, 0, c, v, Fv, .cons (F := F) (G := G) h r, rc, n, _ => by
    refine ⟨Fv ++ G, .cons rc r, ?_, fun b m => ?_⟩
    · obtain ⟨n1, n2, n3⟩ := List.nodup_append.mp n
      obtain ⟨n4, n5, n6⟩ := List.nodup_append.mp n1
      exact List.nodup_append.mpr ⟨n2, n5, fun a ha b hb z => n3 b (List.mem_append_right _ hb) a ha z.symm⟩
    · rcases List.mem_append.mp m with m | m
      · exact List.mem_append_right _ m
      · exact List.mem_append_left _ (List.mem_append_right _ m)
  | c0 :: cs, _, _, j + 1, c, v, Fv, .cons (F := F) (G := G) h r, rc, n, hl => by
    obtain ⟨n1, n2, n3⟩ := List.nodup_append.mp n
    obtain ⟨n4, n5, n6⟩ := List.nodup_append.mp n1
    obtain ⟨F', r', n', s'⟩ := RCs.set (j := j) r rc (List.nodup_append.mpr ⟨n5, n2, fun a ha b hb z => n3 a (List.mem_append_right _ ha) b hb z⟩) (by simpa using hl)
    refine ⟨F ++ F', .cons h r', List.nodup_append.mpr ⟨n4, n', fun a ha b hb z => ?_⟩, fun b m => ?_⟩
    · subst z
      rcases List.mem_append.mp (s' a hb) with m | m
      · exact n6 a ha a m rfl
      · exact n3 a (List.mem_append_left _ ha) a m rfl
    · rcases List.mem_append.mp m with m | m
      · exact List.mem_append_left _ (List.mem_append_left _ m)
      · rcases List.mem_append.mp (s' b m) with m | m
        · exact List.mem_append_left _ (List.mem_append_right _ m)
        · exact List.mem_append_right _ m
theorem ixN_eq (n : Nat) (i : Int) : Mi.ixN n i = L2.ixN n i := rfl
theorem keyD_in {k : D} (h : Mi.keyIn false k = true) : ∃ q, keyD k = some q := by
  cases k <;> simp [Mi.keyIn] at h
  case int i => exact ⟨_, rfl⟩
  case str i => exact ⟨_, rfl⟩
theorem key_eq {k k' : D} {q q' : Key} (hk : keyD k = some q) (e1 : keyD k' = some q') : Mi.pyEq k' k = decide (q' = q) := by
  cases k' <;> simp [keyD] at e1 <;> cases k <;> simp [keyD] at hk <;> subst e1 hk <;> simp [Mi.pyEq]
  · exact Bool.beq_eq_decide_eq _ _
  · rename_i a b
    by_cases z : a = b
    · subst z; simp
    · have : (⟨a.toArray⟩ : Str) ≠ ⟨b.toArray⟩ := fun w => z (by injection w with w; simpa using w)
      simp [z, this]
theorem keysD_app {k : D} {q : Key} {v : V} (hk : keyD k = some q) : ∀ {ks : List D} {vs : List V} {kvs : List (Key × V)}, keysD ks vs = some kvs → keysD (ks ++ [k]) (vs ++ [v]) = some (kvs ++ [(q, v)])
  | [], [], kvs, h => by
    rw [keysD] at h
    cases h
    show keysD [k] [v] = _
    simp [keysD, hk]
  | [], _ :: _, _, h => by simp [keysD] at h
  | _ :: _, [], _, h => by simp [keysD] at h
  | k' :: ks, v' :: vs, kvs, h => by
    unfold keysD at h
    split at h
    · rename_i q' r e1 e2
      cases h
      rw [List.cons_append, List.cons_append, keysD, e1, keysD_app hk e2]
      rfl
    · cases h
theorem keysD_any {k : D} {q : Key} (hk : keyD k = some q) : ∀ {ks : List D} {vs : List V} {kvs : List (Key × V)}, keysD ks vs = some kvs → (kvs.any fun kv => decide (kv.1 = q)) = ks.any fun d => Mi.pyEq d k
  | [], [], kvs, h => by rw [keysD] at h; cases h; rfl
  | [], _ :: _, _, h => by simp [keysD] at h
  | _ :: _, [], _, h => by simp [keysD] at h
  | k' :: ks, v' :: vs, kvs, h => by
    unfold keysD at h
    split at h
    · rename_i q' r e1 e2
      cases h
      rw [List.any_cons, List.any_cons, keysD_any hk e2, key_eq hk e1]
    · cases h
theorem set_st (hu : X.A.units + 64 < cLine) : PSet X (fun o i v H Q => rSt T o i v H Q ∧ ∃ a, o = .ref a ∧ ((∃ vs, H a = some (.lst vs)) ∨ ∃ kvs, H a = some (.dK kvs))) := by
  intro pins s σ H o i v ov iv u Q I ro ri rv ⟨⟨c, k, cv, F, Fv, c', l, u0, rc, rk, rcv, e1, e2, hl, mu, nd, hs, q⟩, a, e3, ha⟩
  subst e1
  cases e3
  cases rc with
  | val h =>
    exfalso
    cases e2
  | lst h r =>
    rename_i cs vs F0
    cases k with
    | int n =>
      simp only [Mi.setL, Option.map_eq_some_iff] at hs
      obtain ⟨j, hj, e⟩ := hs
      have ec : c' = .lst (cs.set j cv) := by cases e; rfl
      subst ec
      cases rk
      have hjl : j < cs.length := by
        unfold Mi.ixN at hj
        split at hj
        · split at hj
          · cases hj; omega
          · cases hj
        · split at hj
          · cases hj; omega
          · cases hj
      rw [List.cons_append, List.nodup_cons] at nd
      have n1 : l ∉ F0 := fun m => nd.1 (List.mem_append_left _ m)
      have n2 : l ∉ Fv := fun m => nd.1 (List.mem_append_right _ m)
      refine set_list pins s σ H _ _ v ov iv u Q I ro ri rv ⟨l, vs, n, j, rfl, rfl, h, by rw [← rcs_length r]; exact hj, ?_⟩
      have rv1 := poke_rcs (u' := .lst (vs.set j v)) h trivial (RCs.cons rcv .nil) (by rw [List.append_nil]; exact n2)
      have r0 := poke_rcs (u' := .lst (vs.set j v)) h trivial r n1
      have rv2 : RC T (upd H l (.lst (vs.set j v))) cv v Fv := rcv.stp (G := (· = l)) ⟨fun b ws eb => upd_stay (fun z => by rw [z, h] at eb; cases eb) eb, fun b o x eb => upd_stay (fun z => by rw [z, h] at eb; cases eb) eb⟩ (fun b o eb n => upd_stay n eb) fun a m z => n2 (z ▸ m)
      obtain ⟨F', r', n', s'⟩ := RCs.set (j := j) r0 rv2 nd.2 hjl
      refine q (.lst (vs.set j v)) (l :: F') (.lst upd_same r') (List.nodup_cons.mpr ⟨fun m => nd.1 (s' l m), n'⟩) fun b m => ?_
      rcases List.mem_cons.mp m with z | z
      · exact z ▸ List.mem_append_left _ List.mem_cons_self
      · exact (List.mem_append.mp (s' b z)).elim (fun m => List.mem_append_left _ (List.mem_cons_of_mem _ m)) (List.mem_append_right _)
    | _ => simp [Mi.setL] at hs
  | tup h r => simp [Mi.setL] at hs
  | dct h hk r =>
    rename_i ks cs vs F0 kvs
    simp only [Mi.setL] at hs
    split at hs
    · rename_i hcond
      simp only [Bool.and_eq_true, Bool.not_eq_true', decide_eq_true_eq] at hcond
      obtain ⟨⟨⟨h1, h2⟩, h3⟩, h4⟩ := hcond
      cases hs
      obtain ⟨q', hq'⟩ := keyD_in h1
      have hy := key_rd rk hq'
      subst hy
      rw [List.cons_append, List.nodup_cons] at nd
      have n1 : l ∉ F0 := fun m => nd.1 (List.mem_append_left _ m)
      have n2 : l ∉ Fv := fun m => nd.1 (List.mem_append_right _ m)
      have hput : putK kvs q' v = kvs ++ [(q', v)] := by
        unfold putK
        rw [if_neg (by rw [keysD_any hq' hk, h3]; exact Bool.false_ne_true)]
      have r0 := poke_rcs (u' := .dK (kvs ++ [(q', v)])) h trivial r n1
      have rv2 : RC T (upd H l (.dK (kvs ++ [(q', v)]))) cv v Fv := rcv.stp (G := (· = l)) ⟨fun b ws eb => upd_stay (fun z => by rw [z, h] at eb; cases eb) eb, fun b o x eb => upd_stay (fun z => by rw [z, h] at eb; cases eb) eb⟩ (fun b o eb n => upd_stay n eb) fun a m z => n2 (z ▸ m)
      refine set_dict (by omega) pins s σ H _ _ v ov iv u Q I ro ri rv ⟨l, _, rfl, DPut.k h ?_, ?_⟩
      · have e1 := rcs_length r
        have e2 : kvs.length = ks.length := keysD_len hk
        rw [e2, ← lineEq]
        exact h4
      · rw [hput]
        refine q (.dK (kvs ++ [(q', v)])) (l :: (F0 ++ Fv)) (.dct upd_same (keysD_app hq' hk) (by have := r0.app (RCs.cons rv2 .nil); rw [List.append_nil] at this; exact this)) (List.nodup_cons.mpr nd) fun b m => ?_
        rw [List.cons_append]
        exact m
    · cases hs
  | obj _ h _ _ _ => simp [Mi.setL] at hs
theorem S_ssub {i : Nat} {ix x : ME} {eo ei ev' : Expr} {p0 pos : Pos} (hK : T.K = X.K) (hu : X.A.units + 64 < cLine) (ho : PE X eo (tVar i)) (hi : PE X ei (TE' T W P ix)) (hx : PE X ev' (TE' T W P x)) (ha : ∀ v, assign (.Subscript eo ei p0) X.env v = (do
      let ov ← holding [v] (eval eo X.env)
      let iv ← holding [v, ov] (eval ei X.env)
      standAt p0
      holding [v, ov, iv] (setItem ov iv v)
      release [v, ov, iv] [])) (hs : swapsWithSole [.Subscript eo ei p0] ev' pos.line X.env = pure false) (hw : swappedStores [.Subscript eo ei p0] ev' X.env = pure none) (h1 : (assignEach [.Subscript eo ei p0] X.env).map (·.2) = [assign (.Subscript eo ei p0) X.env]) :
    PS X (.Assign [.Subscript eo ei p0] ev' pos) (TS' T W IO P (.ssub (.var i) ix x)) := by
  refine PS.imp (ps_asg hx (pg_sub ho hi (set_st (T := T) hu) ha) hs hw h1) fun D σ H ⟨e, fp, R, hq⟩ => ?_
  rw [evS] at hq
  unfold tAsg
  refine Tr.stepS (sp0 R) hq fun c e1 v1 H1 fp1 F1 h1 V1 hq => ?_
  obtain ⟨V2, hq⟩ := leak_ofS V1 hq
  obtain ⟨c0, hc0, hq⟩ := rsv_var hq
  obtain ⟨v0, hv0, rc0⟩ := V2.sp.re.at_ i c0 hc0
  refine ⟨v0, hv0, ?_⟩
  rw [if_pos (by rw [show Mi.isVarB (.var i) = true from rfl]; rfl)] at hq
  refine Tr.stepS V2.sp hq fun k e2 v2 H2 fp2 F2 h2 V3 hq => ?_
  split at hq
  · rename_i k
    obtain ⟨c2, c', a, hc2, hf, hq⟩ := modE_nil hq
    have hf : Mi.setL k c c2 = some (c', a) := hf
    obtain ⟨v', hv', rc'⟩ := V3.sp.re.at_ i c2 hc2
    have ev : v' = v0 := by rw [hv0] at hv'; cases hv'; rfl
    subst ev
    obtain ⟨rk, _⟩ := rdOf V3.rc
    have t1 := V2.tm rfl
    have rcv : RC T H2 c v1 F1 := V2.rc.stp V3.sp.keep V3.sp.stp fun b m => t1.out b m
    have t2 := t1.next V2.sp (cell_some V2.rc) V3.sp
    have nd : (fp2 i ++ F1).Nodup := List.nodup_append.mpr ⟨V3.sp.re.nod i, t2.nod, fun b hb b' hb' z => t2.out b' hb' ⟨i, z ▸ hb⟩⟩
    cases c2 with
    | lst cs =>
      obtain ⟨l, vs, F0, rfl, hl', r', hfp⟩ := lst_of rc' rfl
      refine ⟨⟨.lst cs, k, c, fp2 i, F1, c', l, .lst vs, rc', rk, rcv, rfl, by rw [hfp]; rfl, hl', trivial, nd, hf, fun u' F' rcn ndn sub => ?_⟩, l, rfl, .inl ⟨vs, hl'⟩⟩
      refine hq σ _ _ (SpS.ofE (SpS.mod (V2.sp.trans V3.sp) (lt_of_some hc2) hv' (by rw [hfp]; exact List.mem_cons_self) hl' trivial rcn ndn fun b m => ?_))
      rcases List.mem_append.mp (sub b m) with z | z
      · exact .inl z
      · exact .inr ⟨t2.out b z, t2.sub b z⟩
    | dct ks cs =>
      obtain ⟨l, vs, kvs, F0, rfl, hl', hk', r', hfp⟩ := dct_of rc' rfl
      refine ⟨⟨.dct ks cs, k, c, fp2 i, F1, c', l, .dK kvs, rc', rk, rcv, rfl, by rw [hfp]; rfl, hl', trivial, nd, hf, fun u' F' rcn ndn sub => ?_⟩, l, rfl, .inr ⟨kvs, hl'⟩⟩
      refine hq σ _ _ (SpS.ofE (SpS.mod (V2.sp.trans V3.sp) (lt_of_some hc2) hv' (by rw [hfp]; exact List.mem_cons_self) hl' trivial rcn ndn fun b m => ?_))
      rcases List.mem_append.mp (sub b m) with z | z
      · exact .inl z
      · exact .inr ⟨t2.out b z, t2.sub b z⟩
    | val _ => simp [Mi.setL] at hf
    | tup _ => simp [Mi.setL] at hf
    | obj _ _ _ => simp [Mi.setL] at hf
  · exact hq.elim
end
end MiS
namespace MiS
open PySem PySem.Spec PyProof.Rows L2
open Mi (D C ME MS ev evs evP evA evAnd evOr evC bor pur purs Ag Fl evS evSs)
/-! ### the table with an exception held -/
def Tb.hold (T : Tb) (h : Option (Addr × Nat)) : Tb := { T with hx := h }
section
variable {T : Tb} {h : Option (Addr × Nat)} {H : Hp}
mutual
theorem RD.hold (hn : T.hx = none) : ∀ {d : D} {v : V}, RD T H d v → RD (T.hold h) H d v
  | _, _, .non => .non
  | _, _, .bl b => .bl b
  | _, _, .int i => .int i
  | _, _, .str s h => .str s h
  | _, _, .tup h r => .tup h (RDs.hold hn r)
  | _, _, .lst h r => .lst h (RDs.hold hn r)
  | _, _, .dct h q r => .dct h q (RDs.hold hn r)
  | _, _, .obj hc h f r l => .obj hc h f (RDs.hold hn r) l
  | _, _, .exc h => by rw [hn] at h; cases h
theorem RDs.hold (hn : T.hx = none) : ∀ {ds : List D} {vs : List V}, RDs T H ds vs → RDs (T.hold h) H ds vs
  | _, _, .nil => .nil
  | _, _, .cons h r => .cons (RD.hold hn h) (RDs.hold hn r)
end
mutual
theorem RC.hold (hn : T.hx = none) : ∀ {c : C} {v : V} {F : List Addr}, RC T H c v F → RC (T.hold h) H c v F
  | _, _, _, .val r => .val (RD.hold hn r)
  | _, _, _, .lst h r => .lst h (RCs.hold hn r)
  | _, _, _, .tup h r => .tup h (RCs.hold hn r)
  | _, _, _, .dct h q r => .dct h q (RCs.hold hn r)
  | _, _, _, .obj hc h f r l => .obj hc h f (RCs.hold hn r) l
theorem RCs.hold (hn : T.hx = none) : ∀ {cs : List C} {vs : List V} {F : List Addr}, RCs T H cs vs F → RCs (T.hold h) H cs vs F
  | _, _, _, .nil => .nil
  | _, _, _, .cons h r => .cons (RC.hold hn h) (RCs.hold hn r)
end
mutual
theorem RD.unhold : ∀ {d : D} {v : V}, RD (T.hold h) H d v → d.nox = true → RD T H d v
  | _, _, .non, _ => .non
  | _, _, .bl b, _ => .bl b
  | _, _, .int i, _ => .int i
  | _, _, .str s h, _ => .str s h
  | _, _, .tup h r, n => .tup h (RDs.unhold r (by simpa [Mi.D.nox] using n))
  | _, _, .lst h r, n => .lst h (RDs.unhold r (by simpa [Mi.D.nox] using n))
  | _, _, .dct h q r, n => .dct h q (RDs.unhold r (by simpa [Mi.D.nox] using n))
  | _, _, .obj hc h f r l, n => .obj hc h f (RDs.unhold r (by simpa [Mi.D.nox] using n)) l
  | _, _, .exc h, n => by simp [Mi.D.nox] at n
theorem RDs.unhold : ∀ {ds : List D} {vs : List V}, RDs (T.hold h) H ds vs → Mi.D.noxs ds = true → RDs T H ds vs
  | _, _, .nil, _ => .nil
  | _, _, .cons h r, n => by
    simp only [Mi.D.noxs, Bool.and_eq_true] at n
    exact .cons (RD.unhold h n.1) (RDs.unhold r n.2)
end
mutual
theorem RC.unhold : ∀ {c : C} {v : V} {F : List Addr}, RC (T.hold h) H c v F → c.nox = true → RC T H c v F
  | _, _, _, .val r, n => .val (RD.unhold r (by simpa [Mi.C.nox] using n))
  | _, _, _, .lst h r, n => .lst h (RCs.unhold r (by simpa [Mi.C.nox] using n))
  | _, _, _, .tup h r, n => .tup h (RCs.unhold r (by simpa [Mi.C.nox] using n))
  | _, _, _, .dct h q r, n => .dct h q (RCs.unhold r (by simpa [Mi.C.nox] using n))
  | _, _, _, .obj hc h f r l, n => .obj hc h f (RCs.unhold r (by simpa [Mi.C.nox] using n)) l
theorem RCs.unhold : ∀ {cs : List C} {vs : List V} {F : List Addr}, RCs (T.hold h) H cs vs F → Mi.C.noxs cs = true → RCs T H cs vs F
  | _, _, _, .nil, _ => .nil
  | _, _, _, .cons h r, n => by
    simp only [Mi.C.noxs, Bool.and_eq_true] at n
    exact .cons (RC.unhold h n.1) (RCs.unhold r n.2)
end
variable {e : Mi.Env} {σ : L2.St} {fp : Nat → List Addr}
theorem RE.hold (hn : T.hx = none) (r : RE T H e σ fp) : RE (T.hold h) H e σ fp := ⟨r.len, fun i c hc => by
  obtain ⟨v, h1, h2⟩ := r.at_ i c hc
  exact ⟨v, h1, h2.hold hn⟩, r.nod, r.dis, r.cel⟩
theorem RE.drop (r : RE (T.hold h) H e σ fp) : RE T H (Mi.dropX e) σ fp := by
  refine ⟨by unfold Mi.dropX; rw [List.length_map]; exact r.len, fun i c hc => ?_, r.nod, r.dis, r.cel⟩
  unfold Mi.dropX at hc
  rw [List.getElem?_map] at hc
  cases he : e[i]? with
  | none => rw [he] at hc; cases hc
  | some o =>
    rw [he] at hc
    cases o with
    | none => cases hc
    | some c' =>
      simp only [Option.map_some, Option.some.injEq] at hc
      split at hc
      · cases hc
        obtain ⟨v, h1, h2⟩ := r.at_ i _ he
        exact ⟨v, h1, h2.unhold (by assumption)⟩
      · cases hc
theorem RE.unset (r : RE T H e σ fp) (i : Nat) : RE T H (e.set i none) (σ.set i none) (updF fp i []) := by
  have r1 := r.set_none i
  refine ⟨by rw [List.length_set, List.length_set]; exact r.len, fun j c hc => ?_, r1.nod, r1.dis, r1.cel⟩
  obtain ⟨v, h1, h2⟩ := r1.at_ j c hc
  refine ⟨v, ?_, h2⟩
  rw [List.getElem?_set] at hc ⊢
  by_cases z : i = j
  · rw [if_pos z] at hc
    split at hc <;> cases hc
  · rw [if_neg z]; exact h1
end
section
variable {X : Cx} {T : Tb} {W : WX} {P : Mi.Pr} {IO : List Nat}
/-! ### raise -/
/-- what is known of an own class of exceptions -/
structure ExcOk (K : PySem.W.Frag) (mg : Str → Option Value) (x : Str) (A : Addr) : Prop where
  q : PySem.W.excIn K A He.veBase "ValueError.__new__" = true
  g : mg x = some (.ref A)
  k : PySem.W.keepIn K (.ref A) = true
  s : PySem.W.subIn K (.ref A) (.type "BaseException") = some true
  t : PySem.W.typeIn K (.ref A) = some (.type "type")
theorem S_raise {c : Nat} {A : Addr} {x m : Str} {j : Nat} {p p2 pos pos' : Pos} (hc : X.calm = true) (tk : L2N.Takes X W) (ok : ExcOk X.K X.mg x A) (hA : T.cls c = some A) (hg : Gl X x) (hdb : (x == ("__debug__" : Str)) = false) :
    PS X (.Raise (some (.Call (.Name x p) [.Constant (.str m) j p2] [] pos)) none pos') (TS' T W IO P (.raise c)) :=
  PS.imp (L2N.ps_raise hc tk (L2N.pmk_own PySem.F.excBase_ValueError ok.q ok.g ok.k (raises_own ok.s ok.t) hg hdb)) fun D σ H ⟨e, fp, R, hq⟩ => by
    rw [evS] at hq
    exact hq σ H fp (SpS.refl R) A hA
/-! ### try -/
/-- behind a suite without a name -/
theorem fin_suite {T : Tb} {W W' : WX} {IO : List Nat} {σ σ1 : L2.St} {H H1 : Hp} {O : Addr → Prop} {D : Ends} {e1 : Mi.Env} {fp1 : Nat → List Addr} {r : Mi.Res Fl} (s : SpS T IO σ H O σ1 H1 e1 fp1) (hq : FinS T W IO σ H O D (Mi.gone none r)) : FinS T W' IO σ1 H1 (own fp1) D r := by
  cases r with
  | ok o e' =>
    have hq2 : FinS T W IO σ1 H1 (own fp1) D (.ok o e') := FinS.from s (by simpa [Mi.gone] using hq)
    cases o <;> exact hq2
  | exc k e' => simp only [Mi.gone] at hq; exact hq.elim
  | stuck => simp only [Mi.gone] at hq; exact hq.elim
/-- behind a suite with a name -/
theorem fin_suiteX {T : Tb} {W W' : WX} {IO : List Nat} {σ σ1 : L2.St} {H H1 : Hp} {O : Addr → Prop} {D : Ends} {e1 : Mi.Env} {fp1 : Nat → List Addr} {i k : Nat} {ae : Addr} {r : Mi.Res Fl} (hi : i ∉ IO) (s : SpS T IO σ H O σ1 H1 e1 fp1) (hq : FinS T W IO σ H O D (Mi.gone (some i) r)) :
    FinS (T.hold (some (ae, k))) W' IO (σ1.set i (some (.ref ae))) H1 (own (updF fp1 i [])) { nx := fun σ' H' => D.nx (σ'.set i none) H', rt := D.rt, bk := fun σ' H' => D.bk (σ'.set i none) H', ct := fun σ' H' => D.ct (σ'.set i none) H' } r := by
  have sub : ∀ a, own (updF fp1 i []) a → own fp1 a := fun a z => (own_updF_nil z).1
  have conv : ∀ {σ3 : L2.St} {H3 : Hp} {e3 : Mi.Env} {fp3 : Nat → List Addr}, SpS (T.hold (some (ae, k))) IO (σ1.set i (some (.ref ae))) H1 (own (updF fp1 i [])) σ3 H3 e3 fp3 →
      Sp1 T (σ3.set i none) H1 (own fp1) false H3 (Mi.dropX (e3.set i none)) (updF fp3 i []) ∧ SpS T IO σ H O (σ3.set i none) H3 (Mi.dropX (e3.set i none)) (updF fp3 i []) := fun {σ3 H3 e3 fp3} x => by
    have b : Sp1 T (σ3.set i none) H1 (own fp1) false H3 (Mi.dropX (e3.set i none)) (updF fp3 i []) := ⟨(x.sp.re.unset i).drop, fun a z => (x.sp.sub a (own_updF_nil z).1).imp (sub a) id, x.sp.stp.mono sub, x.sp.keep, fun z => by cases z⟩
    refine ⟨b, (s.sp.transS b).weak fun z => (by cases z), fun j m => ?_⟩
    have ne : ¬ i = j := fun z => hi (z ▸ m)
    rw [List.getElem?_set, if_neg ne, x.io j m, List.getElem?_set, if_neg ne, s.io j m]
  cases r with
  | ok o e' => cases o with
    | nx =>
      simp only [Mi.gone] at hq
      exact fun σ' H' fp' x => hq _ H' _ (conv x).2
    | ct =>
      simp only [Mi.gone] at hq
      exact fun σ' H' fp' x => hq _ H' _ (conv x).2
    | rt c =>
      simp only [Mi.gone] at hq
      split at hq
      · intro v σ' H' fp' F x rc t
        obtain ⟨b, x2⟩ := conv x
        have t2 : Tmp H1 (own fp1) false (updF fp' i []) F := ⟨t.nod, fun a m z => t.out a m (own_updF_nil z).1, fun a m => (t.sub a m).imp (sub a) id, fun z => by cases z⟩
        exact hq v _ H' _ F x2 (rc.unhold (by assumption)) ((t2.newS s.sp).weak fun z => by cases z)
      · exact hq.elim
  | exc k e' => simp only [Mi.gone] at hq; exact hq.elim
  | stuck => simp only [Mi.gone] at hq; exact hq.elim
/-- try: body, except x as n: suite -/
theorem S_tryA {c i : Nat} {b h : List MS} {A : Addr} {x n : Str} {body suite : List Stmt} {b₀ : Stmt} {np pos pos' : Pos} (hs : X.stack = X.env :: X.outer) (hf : X.env.frame = some X.env.locals) (hN : X.N.Nodup) (hi : X.N[i]? = some n) (hln : X.env.kindOf n = some .local) (hc : Names X x (.ref A)) (tk : L2N.Takes X W)
    (hn : T.hx = none) (hio : i ∉ IO) (hex : ∀ k a, T.cls k = some a → PySem.W.exmOne X.K (.ref a) (.ref A) = some (P.sub k c))
    (hb : ∀ (W : WX) (pn : List (Addr × Obj)) (xe : Value → Shared → Prop), L2N.Takes (X.tr pn xe) W → PassesOwn (model X.prog X.w) X.A X.env xe → PSs (X.tr pn xe) body (TSs' T W IO P b))
    (hsu : ∀ (a : Addr) (oe : Obj) (pn : List (Addr × Obj)) (k : Nat) (ca : Addr), T.cls k = some ca → L2N.Zn (.ref ca) none oe → (∃ vs, oe.data = .fields vs) → PSs (X.suite a ((a, oe) :: pn)) (b₀ :: suite) (TSs' (T.hold (some (a, k))) W0 IO P h)) :
    PS X (.Try body [.ExceptHandler (some (.Name x np)) (some n) (b₀ :: suite) pos'] [] [] pos) (TS' T W IO P (.tri b c (some i) h)) := by
  refine PS.imp (L2N.ps_try_as hs hf hN hi hln hc tk (tb := fun W => TSs' T W IO P b) (ts := fun a cls d D σ H => ∃ k ca, cls = .ref ca ∧ d = none ∧ T.cls k = some ca ∧ TSs' (T.hold (some (a, k))) W0 IO P h D σ H) hb ?_) ?_
  · intro a oe cls d pn hz hv
    refine ⟨fun pins s σ H D I ⟨k, ca, e1, e2, e3, q⟩ => ?_⟩
    subst e1 e2
    exact (hsu a oe pn k ca e3 hz hv).run pins s σ H D I q
  · intro D σ H ⟨e, fp, R, hq⟩
    refine ⟨e, fp, R, ?_⟩
    rw [evS] at hq
    cases hr : evSs P b e with
    | ok o e' =>
      rw [hr] at hq
      cases o <;> exact hq
    | stuck => rw [hr] at hq; exact hq
    | exc k e' =>
      rw [hr] at hq
      dsimp only at hq
      intro σ' H' fp' s a ha
      refine ⟨P.sub k c, hex k a ha, fun z ae hae => ?_, fun z => ?_⟩
      · rw [if_pos z] at hq
        have re : RE (T.hold (some (ae, k))) H' (e'.set i (some (.val (.exc k)))) (σ'.set i (some (.ref ae))) (updF fp' i []) := (s.sp.re.hold hn).put (.val (.exc rfl)) .nil fun _ m => nomatch m
        exact ⟨k, a, rfl, rfl, ha, _, _, re, fin_suiteX hio s hq⟩
      · rw [z, if_neg Bool.false_ne_true] at hq
        exact hq σ' H' fp' s a ha
/-- try: body, except x: suite -/
theorem S_try1 {c : Nat} {b h : List MS} {A : Addr} {x : Str} {body suite : List Stmt} {b₀ : Stmt} {np pos pos' : Pos} (hs : X.stack = X.env :: X.outer) (hf : X.env.frame = some X.env.locals) (hc : Names X x (.ref A)) (tk : L2N.Takes X W)
    (hex : ∀ k a, T.cls k = some a → PySem.W.exmOne X.K (.ref a) (.ref A) = some (P.sub k c))
    (hb : ∀ (W : WX) (pn : List (Addr × Obj)) (xe : Value → Shared → Prop), L2N.Takes (X.tr pn xe) W → PassesOwn (model X.prog X.w) X.A X.env xe → PSs (X.tr pn xe) body (TSs' T W IO P b))
    (hsu : ∀ (a : Addr) (oe : Obj) (pn : List (Addr × Obj)), PSs (X.suite a ((a, oe) :: pn)) (b₀ :: suite) (TSs' T W0 IO P h)) :
    PS X (.Try body [.ExceptHandler (some (.Name x np)) none (b₀ :: suite) pos'] [] [] pos) (TS' T W IO P (.tri b c none h)) := by
  refine PS.imp (L2N.ps_try_many hs hf tk (tb := fun W => TSs' T W IO P b) (l := [(.ref A, fun a cls d => TSs' T W0 IO P h)]) hb (.cons hc (fun a oe cls d pn _ _ => hsu a oe pn) .nil)) ?_
  intro D σ H ⟨e, fp, R, hq⟩
  refine ⟨e, fp, R, ?_⟩
  rw [evS] at hq
  cases hr : evSs P b e with
  | ok o e' =>
    rw [hr] at hq
    cases o <;> exact hq
  | stuck => rw [hr] at hq; exact hq
  | exc k e' =>
    rw [hr] at hq
    dsimp only at hq
    intro σ' H' fp' s a ha
    refine ⟨P.sub k c, hex k a ha, fun z ae hae => ?_, fun z => ?_⟩
    · rw [if_pos z] at hq
      exact ⟨e', fp', s.sp.re, fin_suite s hq⟩
    · rw [z, if_neg Bool.false_ne_true] at hq
      exact hq σ' H' fp' s a ha
/-- .. of two clauses -/
theorem S_try2 {c c2 : Nat} {b h h2 : List MS} {A A2 : Addr} {x x2 : Str} {body suite suite2 : List Stmt} {b₀ b₂ : Stmt} {np np2 pos pos' pos2 : Pos} (hs : X.stack = X.env :: X.outer) (hf : X.env.frame = some X.env.locals) (hc : Names X x (.ref A)) (hc2 : Names X x2 (.ref A2)) (tk : L2N.Takes X W)
    (hex : ∀ k a, T.cls k = some a → PySem.W.exmOne X.K (.ref a) (.ref A) = some (P.sub k c)) (hex2 : ∀ k a, T.cls k = some a → PySem.W.exmOne X.K (.ref a) (.ref A2) = some (P.sub k c2))
    (hb : ∀ (W : WX) (pn : List (Addr × Obj)) (xe : Value → Shared → Prop), L2N.Takes (X.tr pn xe) W → PassesOwn (model X.prog X.w) X.A X.env xe → PSs (X.tr pn xe) body (TSs' T W IO P b))
    (hsu : ∀ (a : Addr) (oe : Obj) (pn : List (Addr × Obj)), PSs (X.suite a ((a, oe) :: pn)) (b₀ :: suite) (TSs' T W0 IO P h)) (hsu2 : ∀ (a : Addr) (oe : Obj) (pn : List (Addr × Obj)), PSs (X.suite a ((a, oe) :: pn)) (b₂ :: suite2) (TSs' T W0 IO P h2)) :
    PS X (.Try body [.ExceptHandler (some (.Name x np)) none (b₀ :: suite) pos', .ExceptHandler (some (.Name x2 np2)) none (b₂ :: suite2) pos2] [] [] pos) (TS' T W IO P (.tri2 b c h c2 h2)) := by
  refine PS.imp (L2N.ps_try_many hs hf tk (tb := fun W => TSs' T W IO P b) (l := [(.ref A, fun a cls d => TSs' T W0 IO P h), (.ref A2, fun a cls d => TSs' T W0 IO P h2)]) hb (.cons hc (fun a oe cls d pn _ _ => hsu a oe pn) (.cons hc2 (fun a oe cls d pn _ _ => hsu2 a oe pn) .nil))) ?_
  intro D σ H ⟨e, fp, R, hq⟩
  refine ⟨e, fp, R, ?_⟩
  rw [evS] at hq
  cases hr : evSs P b e with
  | ok o e' =>
    rw [hr] at hq
    cases o <;> exact hq
  | stuck => rw [hr] at hq; exact hq
  | exc k e' =>
    rw [hr] at hq
    dsimp only at hq
    intro σ' H' fp' s a ha
    refine ⟨P.sub k c, hex k a ha, fun z ae hae => ?_, fun z => ⟨P.sub k c2, hex2 k a ha, fun z2 ae hae => ?_, fun z2 => ?_⟩⟩
    · rw [if_pos z] at hq
      exact ⟨e', fp', s.sp.re, fin_suite s hq⟩
    · rw [z, if_neg Bool.false_ne_true, if_pos z2] at hq
      exact ⟨e', fp', s.sp.re, fin_suite s hq⟩
    · rw [z, if_neg Bool.false_ne_true, z2, if_neg Bool.false_ne_true] at hq
      exact hq σ' H' fp' s a ha
/-! ### isinstance of what is held -/
/-- isinstance(e, (c, ..)), e the exception that the suite holds -/
def rIsET (K : PySem.W.Frag) (D a : Addr) : List V → Hp → VK → Prop := fun xs H Q => ∃ (tp : Addr) (cs : List V) (cvs : List Value) (b : Bool), xs = [.ref a, .ref tp] ∧ SqT K H tp cs ∧ (∀ us, Vals cs us → us = cvs) ∧ PySem.W.kitAny K (.ref D) cvs = some b ∧ Q (.bl b) H
theorem call_isET {X : Cx} {a D : Addr} {oe : Obj} {pn : List (Addr × Obj)} (C : ExcC X.K D) (hz : Zc (.ref D) none oe) (hf : ∃ vs, oe.data = .fields vs) : CallR (X.suite a ((a, oe) :: pn)) (.builtin "isinstance") (rIsET X.K D a) := by
  intro pins s σ H xs us Q I r h
  obtain ⟨tp, cs, cvs, b, rfl, hsq, hcv, e, q⟩ := h
  cases r with
  | cons rx rr =>
    cases rr with
    | cons rt rr =>
      cases rr
      cases rx
      cases rt
      obtain ⟨its, r2, ⟨o2, e2, c2, n2, t2⟩, hz2⟩ := I.tuple hsq
      obtain ⟨cls, dct, dat, sl⟩ := o2
      simp only at c2 t2
      subst c2 t2
      have ec := hcv _ r2
      subst ec
      obtain ⟨hget, _⟩ := I.pin (a, oe) (List.mem_append.mpr (.inl List.mem_cons_self))
      obtain ⟨vs, hv⟩ := hf
      have J : PySem.W.InstAt s.heap a oe D none := by
        obtain ⟨oc, od, oda, osl⟩ := oe
        obtain ⟨h1, h2⟩ := hz
        dsimp only at h1 h2 hv
        subst h1 h2 hv
        exact ⟨hget, rfl, rfl, trivial⟩
      exact PySem.W.kia_tup (PySem.W.handS_kitx_exc C.hg C.hk C.hs C.hd C.ha C.hn C.ht C.hm) I.kIn J e2 e (fun z => nomatch z) fun tk => ⟨.bl b, H, I.kept (t' := tk) fun _ _ z => z, rfl, q⟩

theorem E_isx {a : ME} {d : Nat} {ea : Expr} {p p2 pos : Pos} {x : Str} {v : V} {cv : Value} (hv : ∀ u, RelV v u → u = cv) (hx : PE X (.Name x p2) (tC v)) (hg : Gl X "isinstance") (hm : X.mg "isinstance" = none)
    (his : ∀ ae c, T.hx = some (ae, c) → ∃ D, CallR X (.builtin "isinstance") (rIsE X.K D ae) ∧ PySem.W.kitOne X.K (.ref D) cv = some (P.sub c d)) (ha : PE X ea (TE' T W P a))
    (he : starEach [ea, .Name x p2] X.env = (false, eval ea X.env) :: starEach [.Name x p2] X.env) : PE X (.Call (.Name "isinstance" p) [ea, .Name x p2] [] pos) (TE' T W P (.isi a [.cls d])) := by
  have held : ∀ {H : Hp} {c : C} {v : V} {F : List Addr}, RC T H c v F → Mi.isiT (.cls d) c.top = true → ∃ ae k, c = .val (.exc k) ∧ v = .ref ae ∧ T.hx = some (ae, k) := fun {H c v F} r h => by
    cases r with
    | val r =>
      cases r with
      | exc hz => exact ⟨_, _, rfl, rfl, hz⟩
      | _ => simp [Mi.isiT, Mi.C.top] at h
    | _ => simp [Mi.isiT, Mi.C.top] at h
  cases hxx : T.hx with
  | none =>
    refine PE.imp (pe_callB call_isi hg hm rfl (pa_cons ha (pa_cons hx pa_nil rfl) he) (by decide) (by decide) he rfl) fun σ H Q ⟨e, fp, R, hq⟩ => ?_
    rw [ev] at hq
    refine Tr.step (sp0 R) hq fun c e1 v1 H1 fp1 F1 h1 V1 hq => ?_
    dsimp only at hq
    split at hq
    · rename_i h
      obtain ⟨ae, k, _, _, z⟩ := held V1.rc h
      rw [hxx] at z; cases z
    · exact hq.elim
  | some q =>
    obtain ⟨ae, k⟩ := q
    obtain ⟨D, hE, hk⟩ := his ae k hxx
    refine PE.imp (pe_callB hE hg hm rfl (pa_cons ha (pa_cons hx pa_nil rfl) he) (by decide) (by decide) he rfl) fun σ H Q ⟨e, fp, R, hq⟩ => ?_
    rw [ev] at hq
    refine Tr.step (sp0 R) hq fun c e1 v1 H1 fp1 F1 h1 V1 hq => ?_
    dsimp only at hq
    split at hq
    · rename_i h
      obtain ⟨ae', k', rfl, rfl, z⟩ := held V1.rc h
      rw [hxx] at z; cases z
      exact ⟨v, cv, _, rfl, hv, hk, fin_sc V1.sp hq (.bl _)⟩
    · exact hq.elim
theorem E_isxT {a : ME} {tys : List Mi.Ty} {ea : Expr} {es : List Expr} {x1 : Nat} {p p2 pos : Pos} {As : List Addr} (hlen : 2 ≤ tys.length) (hle : tys.length ≤ 100) (hl : As.length = tys.length) (hpa : PA X es (fun σ H Q => Q (As.map V.ref) H)) (hg : Gl X "isinstance") (hm : X.mg "isinstance" = none)
    (his : ∀ ae c, T.hx = some (ae, c) → ∃ D, CallR X (.builtin "isinstance") (rIsET X.K D ae) ∧ PySem.W.kitAny X.K (.ref D) (As.map Value.ref) = some (tys.any (Mi.tyD P.sub (.exc c)))) (ha : PE X ea (TE' T W P a))
    (he : starEach [ea, .Tuple es x1 p2] X.env = (false, eval ea X.env) :: starEach [.Tuple es x1 p2] X.env) : PE X (.Call (.Name "isinstance" p) [ea, .Tuple es x1 p2] [] pos) (TE' T W P (.isi a tys)) := by
  have hev : ∀ e, ev P (.isi a tys) e = (ev P a e).bind fun x e => match x with
      | .val (.exc c) => .ok (.val (.bl (tys.any (Mi.tyD P.sub (.exc c))))) e
      | _ => .stuck := fun e => by
    rw [ev]
    match tys, hlen with
    | t :: t2 :: ts, _ => rfl
  have rel : ∀ (As : List Addr) (us : List Value), Vals (As.map V.ref) us → us = As.map Value.ref := by
    intro As
    induction As with
    | nil => intro us r; cases r; rfl
    | cons A As ih =>
      intro us r
      cases r with
      | cons r1 r2 =>
        rename_i u us
        rw [ih us r2, List.map_cons]
        cases u <;> first | (cases r1; rfl) | cases r1
  cases hxx : T.hx with
  | none =>
    refine PE.imp (pe_callB call_isi hg hm rfl (pa_cons ha (pa_cons (pe_tup hpa) pa_nil rfl) he) (by decide) (by decide) he rfl) fun σ H Q ⟨e, fp, R, hq⟩ => ?_
    rw [hev] at hq
    refine Tr.step (sp0 R) hq fun c e1 v1 H1 fp1 F1 h1 V1 hq => ?_
    split at hq
    · rename_i k
      cases V1.rc with
      | val r => cases r with | exc z => rw [hxx] at z; cases z
    · exact hq.elim
  | some q =>
    obtain ⟨ae, k⟩ := q
    obtain ⟨D, hE, hk⟩ := his ae k hxx
    refine PE.imp (pe_callB hE hg hm rfl (pa_cons ha (pa_cons (pe_tup hpa) pa_nil rfl) he) (by decide) (by decide) he rfl) fun σ H Q ⟨e, fp, R, hq⟩ => ?_
    rw [hev] at hq
    refine Tr.step (sp0 R) hq fun c e1 v1 H1 fp1 F1 h1 V1 hq => ?_
    split at hq
    · rename_i k'
      have : v1 = .ref ae ∧ k' = k := by
        cases V1.rc with
        | val r => cases r with | exc z => rw [hxx] at z; cases z; exact ⟨rfl, rfl⟩
      obtain ⟨rfl, rfl⟩ := this
      refine ⟨by rw [List.length_map, hl, sizeLine_eq]; omega, fun p hp => ?_⟩
      have sn := stp_new (o := .tup (As.map V.ref)) hp
      have kn := keep_new (o := .tup (As.map V.ref)) hp
      exact ⟨p, As.map V.ref, As.map Value.ref, _, rfl, .inl (.inl upd_same), fun us r => rel As us r, hk, fin_sc (V1.sp.laid kn sn) hq (.bl _)⟩
    · exact hq.elim
end
end MiS
namespace MiS
open PySem PySem.Spec PyProof.Rows L2
open Mi (D C ME MS ev evs evP evA evAnd evOr evC bor pur purs Ag Fl evS evSs Sel)
/-! ### paths -/
inductive At (T : Tb) (H : Hp) : List Sel → C → V → C → V → Prop
  | nil {c : C} {v : V} : At T H [] c v c v
  | lst {cs : List C} {vs : List V} {a : Addr} {n : Int} {j : Nat} {c1 d : C} {v1 w : V} {r : List Sel} (h : H a = some (.lst vs)) (hl : cs.length = vs.length) (hj : Mi.ixN cs.length n = some j) (hc : cs[j]? = some c1) (hv : vs[j]? = some v1) (t : At T H r c1 v1 d w) : At T H (.ix (.int n) :: r) (.lst cs) (.ref a) d w
section
variable {T : Tb} {H H' : Hp}
theorem At.keep (k : Keep H H') (s : Stp Emp H H') {p : List Sel} {c d : C} {v w : V} (t : At T H p c v d w) : At T H' p c v d w := by
  induction t with
  | nil => exact .nil
  | lst h hl hj hc hv t ih => exact .lst (s _ _ h fun z => z) hl hj hc hv ih
theorem At.split {p q : List Sel} {c d : C} {v w : V} (t : At T H (p ++ q) c v d w) : ∃ d1 w1, At T H p c v d1 w1 ∧ At T H q d1 w1 d w := by
  induction p generalizing c v with
  | nil => exact ⟨c, v, .nil, t⟩
  | cons s p ih =>
    cases t with
    | lst h hl hj hc hv t =>
      obtain ⟨d1, w1, h1, h2⟩ := ih t
      exact ⟨d1, w1, .lst h hl hj hc hv h1, h2⟩
/-- one thing of many -/
theorem RCs.part : ∀ {cs : List C} {vs : List V} {F : List Addr} {j : Nat} {c1 : C}, RCs T H cs vs F → cs[j]? = some c1 → ∃ A B E v1, vs[j]? = some v1 ∧ F = A ++ (B ++ E) ∧ RC T H c1 v1 B ∧
    ∀ {l : Addr} {u u' : HO} {c1' : C} {B' : List Addr}, H l = some u → Mut (some u) → l ∈ B → F.Nodup → RC T (upd H l u') c1' v1 B' → RCs T (upd H l u') (cs.set j c1') vs (A ++ (B' ++ E))
  | _, _, _, j, c1, .nil, h => by simp at h
  | _, _, _, 0, c1, .cons (v := v) (vs := vs) (F := F) (G := G) h r, hc => by
    cases hc
    refine ⟨[], F, G, v, rfl, rfl, h, fun {l u u' c1' B'} hl mu m n rc => ?_⟩
    obtain ⟨n1, n2, n3⟩ := List.nodup_append.mp n
    show RCs T (upd H l u') (c1' :: _) (v :: vs) (B' ++ G)
    exact .cons rc (poke_rcs hl mu r fun z => n3 l m l z rfl)
  | _, _, _, j + 1, c1, .cons (v := v) (vs := vs) (F := F) (G := G) h r, hc => by
    obtain ⟨A, B, E, v1, h1, h2, h3, h4⟩ := RCs.part r (by simpa using hc)
    refine ⟨F ++ A, B, E, v1, by simpa using h1, by rw [h2, List.append_assoc], h3, fun {l u u' c1' B'} hl mu m n rc => ?_⟩
    obtain ⟨n1, n2, n3⟩ := List.nodup_append.mp n
    have nF : l ∉ F := fun z => n3 l z l (by rw [h2]; exact List.mem_append_right _ (List.mem_append_left _ m)) rfl
    rw [List.append_assoc]
    refine .cons (h.stp (G := (· = l)) ⟨fun b ws eb => upd_stay (fun z => by rw [z, hl] at eb; cases eb; exact mu) eb, fun b o x eb => upd_stay (fun z => by rw [z, hl] at eb; cases eb; exact mu) eb⟩ (fun b o eb n => upd_stay n eb) fun a m z => nF (z ▸ m)) (h4 hl mu m n2 rc)
/-- a cell at a path is changed -/
theorem mod_at {α : Type} {f : C → Option (C × α)} : ∀ {p : List Sel} {c d : C} {v w : V} {F : List Addr} {c' : C} {a : α}, At T H p c v d w → RC T H c v F → F.Nodup → Mi.modC f p c = some (c', a) →
    ∃ G d', RC T H d w G ∧ (∀ b ∈ G, b ∈ F) ∧ G.Nodup ∧ f d = some (d', a) ∧ ∀ {l : Addr} {u u' : HO}, H l = some u → Mut (some u) → l ∈ G → ∀ {G' : List Addr}, RC T (upd H l u') d' w G' → G'.Nodup → (∀ b ∈ G', b ∈ G ∨ b ∉ F) → ∃ F', RC T (upd H l u') c' v F' ∧ F'.Nodup ∧ ∀ b ∈ F', b ∈ F ∨ b ∈ G'
  | [], c, d, v, w, F, c', a, t, rc, n, h => by
    cases t
    rw [Mi.modC] at h
    exact ⟨F, c', rc, fun _ m => m, n, h, fun hl mu m G' r g _ => ⟨G', r, g, fun _ m => .inr m⟩⟩
  | s :: r, c, d, v, w, F, c', a, t, rc, n, h => by
    cases t with
    | lst hh hl hj hc hv t =>
      rename_i cs vs l0 i j c1 v1
      rw [Mi.modC, hj, Option.bind_some, hc, Option.bind_some, Option.map_eq_some_iff] at h
      obtain ⟨⟨c1', a1⟩, h1, h2⟩ := h
      cases h2
      cases rc with
      | lst hh2 r2 =>
        rename_i F0
        rw [hh] at hh2
        cases hh2
        obtain ⟨n1, n2⟩ := List.nodup_cons.mp n
        obtain ⟨A, B, E, v1', e1, e2, e3, e4⟩ := RCs.part r2 hc
        rw [hv] at e1
        cases e1
        have nd := n2
        rw [e2] at nd
        obtain ⟨m1, m2, m3⟩ := List.nodup_append.mp nd
        obtain ⟨m4, m5, m6⟩ := List.nodup_append.mp m2
        obtain ⟨G, d', g1, g2, g3, g4, g5⟩ := mod_at t e3 m4 h1
        have gB : ∀ b ∈ G, b ∈ F0 := fun b m => by rw [e2]; exact List.mem_append_right _ (List.mem_append_left _ (g2 b m))
        refine ⟨G, d', g1, fun b m => List.mem_cons_of_mem _ (gB b m), g3, g4, fun {l u u'} hl mu m G' rG nG sG => ?_⟩
        obtain ⟨B', b1, b2, b3⟩ := g5 hl mu m rG nG fun b mb => (sG b mb).imp id fun z q => z (List.mem_cons_of_mem _ (by rw [e2]; exact List.mem_append_right _ (List.mem_append_left _ q)))
        have ne : l0 ≠ l := fun z => n1 (by rw [z]; exact gB l m)
        have hB : ∀ b ∈ B', b ∈ B ∨ b ∉ (l0 :: F0) := fun b mb => (b3 b mb).elim .inl fun q => (sG b q).elim (fun z => .inl (g2 b z)) .inr
        have sub2 : ∀ b ∈ A ++ (B' ++ E), b ∈ F0 ∨ b ∈ G' := fun b mb => by
          rcases List.mem_append.mp mb with q | q
          · exact .inl (by rw [e2]; exact List.mem_append_left _ q)
          · rcases List.mem_append.mp q with q | q
            · exact (b3 b q).imp (fun z => by rw [e2]; exact List.mem_append_right _ (List.mem_append_left _ z)) id
            · exact .inl (by rw [e2]; exact List.mem_append_right _ (List.mem_append_right _ q))
        refine ⟨l0 :: (A ++ (B' ++ E)), .lst (by rw [upd_ne ne]; exact hh) (e4 hl mu (g2 l m) n2 b1), List.nodup_cons.mpr ⟨fun z => ?_, List.nodup_append.mpr ⟨m1, List.nodup_append.mpr ⟨b2, m5, fun x hx y hy q => ?_⟩, fun x hx y hy q => ?_⟩⟩, fun b mb => ?_⟩
        · rcases List.mem_append.mp z with q | q
          · exact n1 (by rw [e2]; exact List.mem_append_left _ q)
          · rcases List.mem_append.mp q with q | q
            · rcases hB l0 q with q | q
              · exact n1 (by rw [e2]; exact List.mem_append_right _ (List.mem_append_left _ q))
              · exact q List.mem_cons_self
            · exact n1 (by rw [e2]; exact List.mem_append_right _ (List.mem_append_right _ q))
        · subst q
          rcases hB x hx with q | q
          · exact m6 x q x hy rfl
          · exact q (List.mem_cons_of_mem _ (by rw [e2]; exact List.mem_append_right _ (List.mem_append_right _ hy)))
        · subst q
          rcases List.mem_append.mp hy with q | q
          · rcases hB x q with q | q
            · exact m3 x hx x (List.mem_append_left _ q) rfl
            · exact q (List.mem_cons_of_mem _ (by rw [e2]; exact List.mem_append_left _ hx))
          · exact m3 x hx x (List.mem_append_right _ q) rfl
        · rcases List.mem_cons.mp mb with q | q
          · exact .inl (q ▸ List.mem_cons_self)
          · exact (sub2 b q).imp (List.mem_cons_of_mem _) id
/-- where a cell may be changed it stands -/
theorem at_of {α : Type} {f : C → Option (C × α)} : ∀ {p : List Sel} {c : C} {v : V} {F : List Addr} {q : C × α}, (∀ s ∈ p, ∃ k, s = .ix k) → (∀ d, f d ≠ none → ∃ cs, d = .lst cs) → RC T H c v F → Mi.modC f p c = some q → ∃ cs w, At T H p c v (.lst cs) w
  | [], c, v, F, q, hp, hf, rc, h => by
    rw [Mi.modC] at h
    obtain ⟨cs, rfl⟩ := hf c (by rw [h]; exact fun z => nomatch z)
    exact ⟨cs, v, .nil⟩
  | s :: r, c, v, F, q, hp, hf, rc, h => by
    obtain ⟨n, rfl⟩ := hp s List.mem_cons_self
    cases rc with
    | lst hh r2 =>
      cases n <;> try (simp [Mi.modC] at h; done)
      rw [Mi.modC, Option.bind_eq_some_iff] at h
      obtain ⟨j, hj, h⟩ := h
      rw [Option.bind_eq_some_iff] at h
      obtain ⟨c1, hc, h⟩ := h
      rw [Option.map_eq_some_iff] at h
      obtain ⟨x, hx, _⟩ := h
      obtain ⟨v1, G, h1, h2, _⟩ := rcs_get r2 hc
      obtain ⟨cs1, w, t⟩ := at_of (fun s m => hp s (List.mem_cons_of_mem _ m)) hf h2 hx
      exact ⟨cs1, w, .lst hh (rcs_length r2) hj hc h1 t⟩
    | tup _ _ => simp [Mi.modC] at h
    | val h' => simp [Mi.modC] at h
    | dct _ _ _ => simp [Mi.modC] at h
    | obj _ _ _ _ _ => simp [Mi.modC] at h

end
section
variable {X : Cx} {T : Tb} {W : WX} {P : Mi.Pr} {IO : List Nat}
/-- an index of a path: a name, a constant -/
def atm : ME → Bool
  | .var _ | .k _ | .g _ => true
  | _ => false
def pth : ME → Bool
  | .var _ => true
  | .sub a b => pth a && atm b
  | _ => false
theorem atm_ev {b : ME} {e e' : Mi.Env} {c : C} (h : atm b = true) (q : ev P b e = .ok c e') : e' = e := by
  cases b <;> try (cases h; done)
  · rw [ev] at q
    split at q
    · cases q; rfl
    · cases q
  · rw [ev] at q; cases q; rfl
  · rw [ev] at q; cases q; rfl
theorem atm_pur {b : ME} (h : atm b = true) : pur b = true := by
  cases b <;> first | rfl | cases h
theorem rsv_env : ∀ {p : ME} {e e' : Mi.Env} {q : Nat × List Sel}, pth p = true → Mi.rsv P p e = .ok q e' → e' = e := by
  intro p
  induction p using pth.induct with
  | case1 i =>
    intro e e' q _ h
    rw [Mi.rsv] at h
    split at h
    · cases h; rfl
    · cases h
  | case2 a b iha =>
    intro e e' q hp h
    rw [pth, Bool.and_eq_true] at hp
    rw [Mi.rsv] at h
    obtain ⟨q1, e1, h1, h⟩ := bind_ok h
    rw [if_pos (atm_pur hp.2)] at h
    obtain ⟨y, e2, h2, h⟩ := bind_ok h
    have z1 := iha hp.1 h1
    have z2 := atm_ev hp.2 h2
    split at h
    · cases h; rw [z2, z1]
    · cases h
  | case3 p h1 h2 =>
    intro e e' q hp
    unfold pth at hp
    split at hp
    · exact absurd rfl (h1 _)
    · exact absurd rfl (h2 _ _)
    · cases hp
/-- an index's reading -/
def tAtm (T : Tb) (P : Mi.Pr) (b : ME) : TE := fun σ H Q => ∃ e fp k, RE T H e σ fp ∧ ev P b e = .ok (.val k) e ∧ ∀ y, RD T H k y → Q y H
theorem A_var {i : Nat} {ea : Expr} (h : PE X ea (tVar i)) : PE X ea (tAtm T P (.var i)) := by
  refine PE.imp h fun σ H Q ⟨e, fp, k, R, he, q⟩ => ?_
  rw [ev] at he
  split at he
  · rename_i c hc
    cases he
    obtain ⟨v, hv, rc⟩ := R.at_ i _ hc
    exact ⟨v, hv, q v (rdOf rc).1⟩
  · cases he
theorem A_tC {d : D} {v : V} {ea : Expr} {m : ME} (h : PE X ea (tC v)) (hd : ∀ H, RD T H d v) (hm : ∀ e, ev P m e = .ok (.val d) e) : PE X ea (tAtm T P m) := by
  refine PE.imp h fun σ H Q ⟨e, fp, k, R, he, q⟩ => ?_
  rw [hm] at he
  cases he
  exact q v (hd H)
/-- a path's reading -/
def tPth (T : Tb) (P : Mi.Pr) (p : ME) : TE := fun σ H Q => ∃ e fp q c v d w, RE T H e σ fp ∧ Mi.rsv P p e = .ok q e ∧ e[q.1]? = some (some c) ∧ σ[q.1]? = some (some v) ∧ At T H q.2 c v d w ∧ Q w H
theorem P_var {i : Nat} {ea : Expr} (h : PE X ea (tVar i)) : PE X ea (tPth T P (.var i)) := by
  refine PE.imp h fun σ H Q ⟨e, fp, q, c, v, d, w, R, he, hc, hv, t, hq⟩ => ?_
  rw [Mi.rsv] at he
  split at he
  · cases he
    cases t
    exact ⟨v, hv, hq⟩
  · cases he
theorem P_sub (hu : X.A.units + 64 < cLine) {a b : ME} {ea eb : Expr} {pos : Pos} (hs : PlainIx eb) (hp : pth a = true) (hb0 : atm b = true) (ha : PE X ea (tPth T P a)) (hb : PE X eb (tAtm T P b)) : PE X (.Subscript ea eb pos) (tPth T P (.sub a b)) := by
  refine PE.imp (pe_ix ix_list ha hb hs) fun σ H Q ⟨e, fp, q, c, v, d, w, R, he, hc, hv, t, hq⟩ => ?_
  rw [Mi.rsv] at he
  obtain ⟨q1, e1, h1, he⟩ := bind_ok he
  have z1 := rsv_env hp h1
  subst z1
  rw [if_pos (atm_pur hb0)] at he
  obtain ⟨y, e2, h2, he⟩ := bind_ok he
  have z2 := atm_ev hb0 h2
  subst z2
  split at he
  · rename_i k
    cases he
    obtain ⟨d1, w1, t1, t2⟩ := t.split
    cases t2 with
    | lst hh hl hj hcc hvv t3 =>
      cases t3
      refine ⟨e2, fp, q1, c, v, _, _, R, h1, hc, hv, t1, e2, fp, _, R, h2, fun y ry => ?_⟩
      cases ry
      refine ⟨_, _, _, _, rfl, rfl, .inl (.inl hh), ?_, hq⟩
      show (L2.ixN _ _).bind _ = _
      rw [← hl]
      have : L2.ixN _ _ = some _ := hj
      rw [this]
      exact hvv
  · cases he
theorem sel_int : ∀ {p : ME} {e e' : Mi.Env} {q : Nat × List Sel} {f : C → Option (C × Unit)} {c : C}, pth p = true → Mi.rsv P p e = .ok q e' → ∀ s ∈ q.2, ∃ k, s = .ix k := by
  intro p
  induction p using pth.induct with
  | case1 i =>
    intro e e' q f c _ h
    rw [Mi.rsv] at h
    split at h
    · cases h; exact fun _ m => nomatch m
    · cases h
  | case2 a b iha =>
    intro e e' q f c hp h
    rw [pth, Bool.and_eq_true] at hp
    rw [Mi.rsv] at h
    obtain ⟨q1, e1, h1, h⟩ := bind_ok h
    rw [if_pos (atm_pur hp.2)] at h
    obtain ⟨y, e2, h2, h⟩ := bind_ok h
    split at h
    · rename_i k
      cases h
      intro s m
      rcases List.mem_append.mp m with m | m
      · exact iha (f := f) (c := c) hp.1 h1 s m
      · rw [List.mem_singleton] at m; exact ⟨k, m⟩
    · cases h
  | case3 p h1 h2 =>
    intro e e' q f c hp
    unfold pth at hp
    split at hp
    · exact absurd rfl (h1 _)
    · exact absurd rfl (h2 _ _)
    · cases hp

theorem smp_ev : ∀ (n : Nat) (b : ME) {e e' : Mi.Env} {c : C}, sizeOf b ≤ n → Mi.smp b = true → ev P b e = .ok c e' → e' = e := by
  intro n
  induction n with
  | zero => intro b e e' c h; cases b <;> simp at h
  | succ n ih =>
    intro b e e' c hn h q
    cases b <;> try (simp [Mi.smp] at h; done)
    case var i =>
      rw [ev] at q
      split at q
      · cases q; rfl
      · cases q
    case k d => rw [ev] at q; cases q; rfl
    case g i => rw [ev] at q; cases q; rfl
    case neg a =>
      rw [Mi.smp] at h
      rw [ev] at q
      obtain ⟨c1, e1, h1, q⟩ := bind_ok q
      have z := ih a (by simp at hn; omega) h h1
      split at q
      · cases q; exact z
      · cases q
    case tup es =>
      rw [ev] at q
      obtain ⟨cs, e1, h1, q⟩ := bind_ok q
      cases q
      have : ∀ (es : List ME) {e e' : Mi.Env} {cs : List C}, sizeOf es ≤ n → Mi.smps es = true → evs P es e = .ok cs e' → e' = e := by
        intro es
        induction es with
        | nil => intro e e' cs _ _ h; rw [evs] at h; cases h; rfl
        | cons a r ihr =>
          intro e e' cs hs hq h
          rw [Mi.smps, Bool.and_eq_true] at hq
          rw [evs] at h
          obtain ⟨c, e1, h1, h⟩ := bind_ok h
          obtain ⟨c2, e2, h2, h⟩ := bind_ok h
          obtain ⟨cs2, e3, h3, h⟩ := bind_ok h
          cases h
          simp at hs
          have z1 := ih a (by omega) hq.1 h1
          have z2 : e2 = e1 := by
            unfold Mi.leak at h2
            split at h2
            · cases h2
            · cases h2; rfl
          have z3 := ihr (by omega) hq.2 h3
          rw [z3, z2, z1]
      rw [Mi.smp] at h
      exact this es (by simp at hn; omega) h h1
theorem smps_ev : ∀ (es : List ME) {e e' : Mi.Env} {cs : List C}, Mi.smps es = true → evs P es e = .ok cs e' → e' = e := by
  intro es
  induction es with
  | nil => intro e e' cs _ h; rw [evs] at h; cases h; rfl
  | cons a r ihr =>
    intro e e' cs hq h
    rw [Mi.smps, Bool.and_eq_true] at hq
    rw [evs] at h
    obtain ⟨c, e1, h1, h⟩ := bind_ok h
    obtain ⟨c2, e2, h2, h⟩ := bind_ok h
    obtain ⟨cs2, e3, h3, h⟩ := bind_ok h
    cases h
    have z1 := smp_ev _ a (Nat.le_refl _) hq.1 h1
    have z2 : e2 = e1 := by
      unfold Mi.leak at h2
      split at h2
      · cases h2
      · cases h2; rfl
    have z3 := ihr hq.2 h3
    rw [z3, z2, z1]
theorem smp_pur : ∀ (n : Nat) (b : ME), sizeOf b ≤ n → Mi.smp b = true → pur b = true := by
  intro n
  induction n with
  | zero => intro b h; cases b <;> simp at h
  | succ n ih =>
    intro b hn h
    cases b <;> try (simp [Mi.smp] at h; done)
    case var i => rfl
    case k d => rfl
    case g i => rfl
    case neg a =>
      rw [Mi.smp] at h
      rw [pur]
      exact ih a (by simp at hn; omega) h
    case tup es =>
      have : ∀ (es : List ME), sizeOf es ≤ n → Mi.smps es = true → purs es = true := by
        intro es
        induction es with
        | nil => intro _ _; rfl
        | cons a r ihr =>
          intro hs hq
          rw [Mi.smps, Bool.and_eq_true] at hq
          simp at hs
          rw [purs, ih a (by omega) hq.1, ihr (by omega) hq.2]
          rfl
      rw [Mi.smp] at h
      rw [pur]
      exact this es (by simp at hn; omega) h
theorem smps_pur : ∀ (es : List ME), Mi.smps es = true → purs es = true
  | [], _ => rfl
  | a :: r, h => by
    rw [Mi.smps, Bool.and_eq_true] at h
    rw [purs, smp_pur _ a (Nat.le_refl _) h.1, smps_pur r h.2]
    rfl
theorem smp_noexc : ∀ (n : Nat) (b : ME) {e e' : Mi.Env} {k : Nat}, sizeOf b ≤ n → Mi.smp b = true → ev P b e ≠ .exc k e' := by
  intro n
  induction n with
  | zero => intro b e e' k h; cases b <;> simp at h
  | succ n ih =>
    intro b e e' k hn h q
    cases b <;> try (simp [Mi.smp] at h; done)
    case var i =>
      rw [ev] at q
      split at q <;> cases q
    case k d => rw [ev] at q; cases q
    case g i => rw [ev] at q; cases q
    case neg a =>
      rw [Mi.smp] at h
      rw [ev] at q
      cases h1 : ev P a e with
      | ok c1 e1 =>
        rw [h1] at q
        simp only [Mi.Res.bind] at q
        split at q <;> cases q
      | exc k2 e1 => exact ih a (by simp at hn; omega) h h1
      | stuck => rw [h1] at q; cases q
    case tup es =>
      rw [ev] at q
      have : ∀ (es : List ME) {e e' : Mi.Env} {k : Nat}, sizeOf es ≤ n → Mi.smps es = true → evs P es e ≠ .exc k e' := by
        intro es
        induction es with
        | nil => intro e e' k _ _ h; rw [evs] at h; cases h
        | cons a r ihr =>
          intro e e' k hs hq h
          rw [Mi.smps, Bool.and_eq_true] at hq
          rw [evs] at h
          simp at hs
          cases h1 : ev P a e with
          | ok c e1 =>
            rw [h1] at h
            simp only [Mi.Res.bind] at h
            cases h2 : Mi.leak (bor a) c e1 with
            | ok c2 e2 =>
              rw [h2] at h
              simp only [Mi.Res.bind] at h
              cases h3 : evs P r e2 with
              | ok cs e3 => rw [h3] at h; cases h
              | exc k2 e3 => exact ihr (by omega) hq.2 h3
              | stuck => rw [h3] at h; cases h
            | exc k2 e2 =>
              unfold Mi.leak at h2
              split at h2 <;> cases h2
            | stuck => rw [h2] at h; cases h
          | exc k2 e1 => exact ih a (by omega) hq.1 h1
          | stuck => rw [h1] at h; cases h
      rw [Mi.smp] at h
      cases h3 : evs P es e with
      | ok cs e3 => rw [h3] at q; cases q
      | exc k2 e3 => exact this es (by simp at hn; omega) h h3
      | stuck => rw [h3] at q; cases q
theorem rsv_fin {p : ME} {e : Mi.Env} {f : Nat × List Sel → Mi.Env → Mi.Res Fl} {σ : L2.St} {H : Hp} {O : Addr → Prop} {D : Ends} (hp : pth p = true) (hx : ∀ k e', Mi.rsv P p e ≠ .exc k e') (hq : FinS T W IO σ H O D ((Mi.rsv P p e).bind f)) : ∃ q, Mi.rsv P p e = .ok q e ∧ FinS T W IO σ H O D (f q e) := by
  cases h : Mi.rsv P p e with
  | ok q e1 =>
    have z := rsv_env hp h
    subst z
    rw [h] at hq
    exact ⟨q, rfl, hq⟩
  | exc k e1 => exact absurd h (hx k e1)
  | stuck => rw [h] at hq; exact hq.elim
theorem atm_noexc {b : ME} {e e' : Mi.Env} {k : Nat} (h : atm b = true) : ev P b e ≠ .exc k e' := by
  cases b <;> try (cases h; done)
  · rw [ev]
    split <;> (intro z; cases z)
  · rw [ev]; intro z; cases z
  · rw [ev]; intro z; cases z
theorem rsv_noexc : ∀ {p : ME} {e e' : Mi.Env} {k : Nat}, pth p = true → Mi.rsv P p e ≠ .exc k e' := by
  intro p
  induction p using pth.induct with
  | case1 i =>
    intro e e' k _
    rw [Mi.rsv]
    split <;> (intro z; cases z)
  | case2 a b iha =>
    intro e e' k hp h
    rw [pth, Bool.and_eq_true] at hp
    rw [Mi.rsv] at h
    cases h1 : Mi.rsv P a e with
    | ok q e1 =>
      rw [h1] at h
      simp only [Mi.Res.bind] at h
      rw [if_pos (atm_pur hp.2)] at h
      cases h2 : ev P b e1 with
      | ok y e2 =>
        rw [h2] at h
        simp only [Mi.Res.bind] at h
        split at h <;> cases h
      | exc k2 e2 => exact atm_noexc hp.2 h2
      | stuck => rw [h2] at h; cases h
    | exc k2 e1 => exact iha hp.1 h1
    | stuck => rw [h1] at h; cases h
  | case3 p h1 h2 =>
    intro e e' k hp
    unfold pth at hp
    split at hp
    · exact absurd rfl (h1 _)
    · exact absurd rfl (h2 _ _)
    · cases hp
theorem modE_at {α : Type} {f : C → Option (C × α)} {i : Nat} {p : List Sel} {e : Mi.Env} {g : α → Mi.Env → Mi.Res Fl} {σ : L2.St} {H : Hp} {O : Addr → Prop} {D : Ends} (hq : FinS T W IO σ H O D ((Mi.modE f i p e).bind g)) : ∃ c c' a, e[i]? = some (some c) ∧ Mi.modC f p c = some (c', a) ∧ FinS T W IO σ H O D (g a (e.set i (some c'))) := by
  unfold Mi.modE at hq
  split at hq
  · rename_i c hc
    cases hf : Mi.modC f p c with
    | none => rw [hf] at hq; exact hq.elim
    | some q => rw [hf] at hq; exact ⟨c, q.1, q.2, hc, hf, hq⟩
  · exact hq.elim
theorem lst_test {d : C} (h : (match d with | .lst cs => some (C.lst cs, ()) | _ => none) ≠ none) : ∃ cs, d = .lst cs := by
  cases d with
  | lst cs => exact ⟨cs, rfl⟩
  | _ => exact absurd rfl h
theorem mo_lst {o : Mi.Mo} {as : List C} {d : C} {q : C × Unit} (h : Mi.moC o as d = some q) : ∃ cs, d = .lst cs := by
  cases d with
  | lst cs => exact ⟨cs, rfl⟩
  | _ => cases o <;> simp [Mi.moC] at h
/-- a list at a path is changed by a method -/
theorem S_mutP {p : ME} {o : Mi.Mo} {a : ME} {r : List ME} {eo e : Expr} {es : List Expr} {apos cpos pos : Pos} {name : Str} {id : String} (hp : pth p = true) (hv : Mi.isVarB p = false) (hK : T.K = X.K) (slot : Slot "list" name id) (hty : typeOf (.builtin id) = pure (.type "method_descriptor")) (hm : MtR X id (rMo T o)) (ho : PE X eo (tPth T P p)) (ha : PA X (e :: es) (TAs T W P (a :: r)))
    (hs0 : swapsWith (.Call (.Attribute eo name apos) (e :: es) [] cpos) none pos.line X.env = pure false) (hbase : attributeBase eo name X.env (eval eo X.env) = eval eo X.env)
    (hfew : ((backTo cpos (starEach (e :: es) X.env)).all (fun x => !x.1) && (backToKw cpos (keywordEach [] X.env)).all (fun x => x.1.isSome)
      && decide ((e :: es).length + ([] : List Keyword).length + (if ([] : List Keyword).isEmpty then 0 else 1) < 30)) = true)
    (hline : (apos.endLine == cpos.line) = true) (hs : starEach (e :: es) X.env = (false, eval e X.env) :: starEach es X.env) (hplain : (backTo cpos (starEach es X.env)).any (·.1) = false) :
    PS X (.Expr (.Call (.Attribute eo name apos) (e :: es) [] cpos) pos) (TS' T W IO P (.mut p o (a :: r))) := by
  refine PS.imp (ps_expr (pe_bm PySem.F.plainAttrs_list slot hty hm ho ha hbase hfew hline hs hplain) hs0) fun D σ H ⟨e, fp, R, hq⟩ => ?_
  rw [evS] at hq
  obtain ⟨q, hrs, hq⟩ := rsv_fin hp (fun k e' => rsv_noexc hp) hq
  split at hq
  · rename_i hl
    rw [Bool.and_eq_true, hv, Bool.false_or] at hl
    obtain ⟨hl, hsm⟩ := hl
    unfold Mi.lstAt at hl
    split at hl
    · rename_i c hc
      obtain ⟨v, hv, rc⟩ := R.at_ _ c hc
      obtain ⟨q0, hq0⟩ := Option.isSome_iff_exists.mp hl
      obtain ⟨cs0, w, t⟩ := at_of (sel_int (f := fun _ => none) (c := c) hp hrs) (fun d z => lst_test z) rc hq0
      refine ⟨e, fp, q, c, v, _, w, R, hrs, hc, hv, t, ?_, ?_⟩
      · obtain ⟨G, d', g1, _⟩ := mod_at t rc (R.nod _) hq0
        obtain ⟨l, vs, F0, rfl, hl', r', hfp⟩ := lst_of g1 rfl
        rw [← hK]
        exact .inl ⟨rfl, _, .inl (.inl hl')⟩
      · refine TrA.stepS (sp0 R) hq fun as e1 xs H1 fp1 Fa h1 V1 hq2 => ?_
        clear hq
        have z := smps_ev _ hsm h1
        subst z
        obtain ⟨c1, c', u, hc1, hf, hq⟩ := modE_at hq2
        rw [hc] at hc1
        cases hc1
        obtain ⟨v', hv', rc'⟩ := V1.sp.re.at_ _ c hc
        have ev : v' = v := by rw [hv] at hv'; cases hv'; rfl
        subst ev
        have t1 := t.keep V1.sp.keep (V1.sp.pure (smps_pur _ hsm))
        obtain ⟨G, d', g1, g2, g3, g4, g5⟩ := mod_at t1 rc' (V1.sp.re.nod _) hf
        obtain ⟨l, vs, F0, rfl, hl', r', hfp⟩ := lst_of g1 rfl
        have dj : ∀ b ∈ Fa, b ∉ fp1 q.1 := fun b m z => V1.tm.out b m ⟨_, z⟩
        have nd := g3
        rw [hfp] at nd
        obtain ⟨n1, n2⟩ := List.nodup_cons.mp nd
        refine ⟨l, vs, cs0, F0, as, Fa, d', rfl, hl', r', V1.rc, ?_, g4, fun vs' F' rcn ndn sub => ?_⟩
        · refine List.nodup_cons.mpr ⟨fun m => ?_, List.nodup_append.mpr ⟨n2, V1.tm.nod, fun b hb b' hb' z => ?_⟩⟩
          · rcases List.mem_append.mp m with m | m
            · exact n1 m
            · exact dj l m (g2 l (by rw [hfp]; exact List.mem_cons_self))
          · subst z
            exact dj b hb' (g2 b (by rw [hfp]; exact List.mem_cons_of_mem _ hb))
        · have sub2 : ∀ b ∈ F', b ∈ G ∨ b ∈ Fa := fun b m => by
            rcases List.mem_cons.mp (sub b m) with z | z
            · exact .inl (by rw [hfp, z]; exact List.mem_cons_self)
            · rcases List.mem_append.mp z with z | z
              · exact .inl (by rw [hfp]; exact List.mem_cons_of_mem _ z)
              · exact .inr z
          obtain ⟨F2, r2, nd2, s2⟩ := g5 hl' trivial (by rw [hfp]; exact List.mem_cons_self) rcn ndn fun b m => (sub2 b m).imp (fun z => z) (dj b)
          refine hq σ _ _ (SpS.ofE (SpS.mod V1.sp (lt_of_some hc) hv' (g2 l (by rw [hfp]; exact List.mem_cons_self)) hl' trivial r2 nd2 fun b m => ?_))
          rcases s2 b m with z | z
          · exact .inl z
          · rcases sub2 b z with z | z
            · exact .inl (g2 b z)
            · exact .inr ⟨V1.tm.out b z, V1.tm.sub b z⟩
    · cases hl
  · exact hq.elim
theorem setP_L {k : D} {v c : C} {q : C × Unit} (h : Mi.setP k v c = some q) : Mi.setL k v c = some q := by
  cases c with
  | lst cs => exact h
  | _ => cases h
/-- path[i] = value -/
theorem S_ssubP {p ix x : ME} {eo ei ev' : Expr} {p0 pos : Pos} (hu : X.A.units + 64 < cLine) (hp : pth p = true) (hv : Mi.isVarB p = false) (hK : T.K = X.K) (ho : PE X eo (tPth T P p)) (hi : PE X ei (TE' T W P ix)) (hx : PE X ev' (TE' T W P x)) (ha : ∀ v, assign (.Subscript eo ei p0) X.env v = (do
      let ov ← holding [v] (eval eo X.env)
      let iv ← holding [v, ov] (eval ei X.env)
      standAt p0
      holding [v, ov, iv] (setItem ov iv v)
      release [v, ov, iv] [])) (hs : swapsWithSole [.Subscript eo ei p0] ev' pos.line X.env = pure false) (hw : swappedStores [.Subscript eo ei p0] ev' X.env = pure none) (h1 : (assignEach [.Subscript eo ei p0] X.env).map (·.2) = [assign (.Subscript eo ei p0) X.env]) :
    PS X (.Assign [.Subscript eo ei p0] ev' pos) (TS' T W IO P (.ssub p ix x)) := by
  refine PS.imp (ps_asg hx (pg_sub ho hi (set_st (T := T) hu) ha) hs hw h1) fun D σ H ⟨e, fp, R, hq⟩ => ?_
  rw [evS] at hq
  unfold tAsg
  refine Tr.stepS (sp0 R) hq fun c e1 v1 H1 fp1 F1 h1 V1 hq => ?_
  obtain ⟨V2, hq⟩ := leak_ofS V1 hq
  obtain ⟨q, hrs, hq⟩ := rsv_fin hp (fun k e' => rsv_noexc hp) hq
  split at hq
  · rename_i hsm
    rw [hv, Bool.false_or] at hsm
    -- the index leaves the slots: what is changed is known
    cases hk : ev P ix e1 with
    | ok y e2 =>
      have hq' := hq
      rw [hk] at hq'
      have z := smp_ev _ ix (Nat.le_refl _) hsm hk
      subst z
      simp only [Mi.Res.bind, hv] at hq'
      split at hq'
      · rename_i k
        obtain ⟨c0, c', u, hc0, hf, _⟩ := modE_at hq'
        obtain ⟨v0, hv0, rc0⟩ := V2.sp.re.at_ _ c0 hc0
        have hset : ∀ d, Mi.setP k c d ≠ none → ∃ cs, d = .lst cs := fun d z => by
          cases d with
          | lst cs => exact ⟨cs, rfl⟩
          | _ => exact absurd rfl z
        obtain ⟨cs0, w, t⟩ := at_of (sel_int (f := fun _ => none) (c := c0) hp hrs) hset rc0 hf
        refine ⟨e2, fp1, q, c0, v0, _, w, V2.sp.re, hrs, hc0, hv0, t, ?_⟩
        refine Tr.stepS V2.sp hq fun k2 e3 v2 H2 fp2 F2 h2 V3 hq => ?_
        rw [hk] at h2
        cases h2
        dsimp only at hq
        rw [hv] at hq
        obtain ⟨c1, c'', u2, hc1, hf1, hq⟩ := modE_at hq
        have hf1 : Mi.modC (Mi.setP k c) q.2 c1 = some (c'', u2) := hf1
        rw [hc0] at hc1
        cases hc1
        obtain ⟨v', hv', rc'⟩ := V3.sp.re.at_ _ c0 hc0
        have ev : v' = v0 := by rw [hv0] at hv'; cases hv'; rfl
        subst ev
        obtain ⟨rk, _⟩ := rdOf V3.rc
        have t1 := V2.tm rfl
        have rcv : RC T H2 c v1 F1 := V2.rc.stp V3.sp.keep V3.sp.stp fun b m => t1.out b m
        have t2 := t1.next V2.sp (cell_some V2.rc) V3.sp
        have tk := t.keep V3.sp.keep (V3.sp.pure (smp_pur _ ix (Nat.le_refl _) hsm))
        obtain ⟨G, d', g1, g2, g3, g4, g5⟩ := mod_at tk rc' (V3.sp.re.nod _) hf1
        obtain ⟨l, vs, F0, rfl, hl', r', hfp⟩ := lst_of g1 rfl
        have dj : ∀ b ∈ F1, b ∉ fp2 q.1 := fun b m z => t2.out b m ⟨_, z⟩
        have nd : (G ++ F1).Nodup := List.nodup_append.mpr ⟨g3, t2.nod, fun b hb b' hb' z => dj b' hb' (g2 b' (z ▸ hb))⟩
        refine ⟨⟨.lst cs0, k, c, G, F1, d', l, .lst vs, g1, rk, rcv, rfl, by rw [hfp]; rfl, hl', trivial, nd, setP_L g4, fun u' F' rcn ndn sub => ?_⟩, l, rfl, .inl ⟨vs, hl'⟩⟩
        obtain ⟨F3, r3, nd3, s3⟩ := g5 hl' trivial (by rw [hfp]; exact List.mem_cons_self) rcn ndn fun b m => (List.mem_append.mp (sub b m)).imp id (dj b)
        refine hq σ _ _ (SpS.ofE (SpS.mod (V2.sp.trans V3.sp) (lt_of_some hc0) hv' (g2 l (by rw [hfp]; exact List.mem_cons_self)) hl' trivial r3 nd3 fun b m => ?_))
        rcases s3 b m with z | z
        · exact .inl z
        · rcases List.mem_append.mp (sub b z) with z | z
          · exact .inl (g2 b z)
          · exact .inr ⟨t2.out b z, t2.sub b z⟩
      · exact hq'.elim
    | exc k2 e2 => exact absurd hk (smp_noexc _ ix (Nat.le_refl _) hsm)
    | stuck => rw [hk] at hq; exact hq.elim
  · exact hq.elim
end
end MiS
namespace MiS
open PySem PySem.Spec PyProof.Rows L2
open Mi (D C ME MS ev evs evP evA evAnd evOr evC bor pur purs Ag Fl evS evSs)
section
variable {X : Cx} {T : Tb} {W : WX} {P : Mi.Pr} {IO : List Nat}
/-! ### an empty dict -/
theorem E_dct0 {md : Bool} {pos : Pos} : PE X (.Dict [] [] pos) (TE' T W P (.dct md [] [])) := by
  refine PE.imp pe_dnewK fun σ H Q ⟨e, fp, R, hq⟩ => ?_
  rw [ev, evs] at hq
  intro d hd
  have sn := stp_new (o := .dK []) hd
  have kn := keep_new (o := .dK []) hd
  exact hq (.ref d) _ fp [d] ⟨(Sp1.refl R).laid kn sn, .dct (vs := []) upd_same rfl .nil, fun _ => Tmp.laid (Sp1.refl R) (List.nodup_cons.mpr ⟨fun m => (nomatch m), .nil⟩) fun x m => by rw [List.mem_singleton] at m; rw [m]; exact hd⟩
/-! ### d.items() -/
theorem keysD_get {H : Hp} : ∀ {ks ds : List D} {vs : List V} {kvs : List (Key × V)}, keysD ks vs = some kvs → RDs T H ds vs → ∀ {i : Nat} {k : Key} {v : V}, kvs[i]? = some (k, v) → ∃ dk d, ks[i]? = some dk ∧ ds[i]? = some d ∧ keyD dk = some k ∧ RD T H d v
  | [], _, [], kvs, h, _, i, k, v, hi => by rw [keysD] at h; cases h; simp at hi
  | [], _, _ :: _, _, h, _, _, _, _, _ => by simp [keysD] at h
  | _ :: _, _, [], _, h, _, _, _, _, _ => by simp [keysD] at h
  | dk :: ks, _, v' :: vs, kvs, h, .cons (d := d) r rr, i, k, v, hi => by
    unfold keysD at h
    split at h
    · rename_i q' r' e1 e2
      cases h
      cases i with
      | zero => cases hi; exact ⟨dk, d, rfl, rfl, e1, r⟩
      | succ i => exact keysD_get e2 rr (i := i) hi
    · cases h
theorem keysD_vlen : ∀ {ks : List D} {vs : List V} {kvs : List (Key × V)}, keysD ks vs = some kvs → kvs.length = vs.length
  | [], [], kvs, h => by rw [keysD] at h; cases h; rfl
  | [], _ :: _, _, h => by simp [keysD] at h
  | _ :: _, [], _, h => by simp [keysD] at h
  | _ :: ks, _ :: vs, kvs, h => by
    unfold keysD at h
    split at h
    · rename_i e1 e2
      cases h
      rw [List.length_cons, List.length_cons, keysD_vlen e2]
    · cases h
theorem okKey_rd {H : Hp} {dk : D} {k : Key} (h : keyD dk = some k) (hs : ∀ s, dk = .str s → okS s = true) : RD T H dk (kV k) := by
  cases dk <;> simp [keyD] at h
  case int i => subst h; exact .int i
  case str s => subst h; exact .str s (hs s rfl)
theorem wk_items {d : Addr} {o : Obj} {kvs : List (Key × V)} {ks ds : List D} {vs : List V} {G : Hp → Prop} (hk : keysD ks vs = some kvs) (hs : ∀ s, D.str s ∈ ks → okS s = true) (hl : ds.length = vs.length) (hG : ∀ H, G H → H d = some (.frz o (.dK kvs)) ∧ RDs T H ds vs) : WkD T (Iti d o kvs) (Mi.zipD ks ds) G := by
  unfold WkD
  have e1 : (Mi.zipD ks ds).length = kvs.length := by
    rw [zipD_len, keysD_vlen hk, hl]
    have := keysD_len hk
    have := keysD_vlen hk
    omega
  rw [e1]
  refine ⟨fun i H hi g => ⟨(hG H g).1, hi⟩, fun H g => ⟨(hG H g).1, Nat.le_refl _⟩, fun i H x H' hi g ⟨t, k, v, hkv, ex, hT, e⟩ => ?_⟩
  subst e ex
  obtain ⟨dk, dd, h1, h2, h3, rd⟩ := keysD_get hk (hG H g).2 hkv
  obtain ⟨s, kp, r⟩ := pair_new hT (okKey_rd (T := T) (H := H) h3 fun s z => hs s (z ▸ List.mem_of_getElem? h1)) rd
  exact ⟨s, kp, _, zipD_get ks ds i dk dd h1 h2, r⟩

theorem pi_itm {ea : Expr} {ta : TA} {elts : List Expr} {kk : Nat} {tpos apos cpos : Pos} (mt : Mono ta) (ha : PE X ea (tOne ta)) (hbase : attributeBase ea "items" X.env (eval ea X.env) = eval ea X.env) (hline : (apos.endLine == cpos.line) = true) : PI X (.Tuple elts kk tpos) (.Call (.Attribute ea "items" apos) [] [] cpos) (RIt T .items 1 ta) := by
  refine PI.imp (pi_items ha hbase hline) fun σ H R h => mt σ H _ _ (fun vs H1 ⟨cs, F, ds, r, hn, hi, ok, q⟩ v ev => ?_) h
  obtain ⟨c, v', rfl, rfl, rc⟩ := len1 r hn
  cases ev
  cases rc with
  | val rd =>
    cases rd with
    | @dct ks es a vs o kvs hh hk rr =>
      simp only [Mi.itemsC] at hi
      split at hi
      · rename_i hlen
        cases hi
        simp only [Mi.okIt, List.all_eq_true] at ok
        refine ⟨_, o, kvs, rfl, hh, q _ (fun H' => H' a = some (.frz o (.dK kvs)) ∧ RDs T H' es vs) (wk_items hk (fun s m => by have := ok _ m; simp at this) rr.length fun H' g => g) ⟨hh, rr⟩ fun H' H2 g k m => ⟨k.2 _ _ _ g.1, g.2.keep k⟩⟩
      · cases hi
    | _ => simp [Mi.okIt] at ok
  | _ => simp [Mi.okIt] at ok
/-! ### d.get(k) -/
theorem lookDD_val {H : Hp} {k : D} {q : Key} (hk : keyD k = some q) : ∀ {ks ds : List D} {vs : List V} {kvs : List (Key × V)}, keysD ks vs = some kvs → RDs T H ds vs → RD T H ((Mi.lookDD k ks ds).getD .non) ((valV kvs q).getD .non)
  | [], _, [], kvs, h, _ => by
    rw [keysD] at h
    cases h
    rw [valV_nil]
    simp only [Mi.lookDD]
    exact .non
  | [], _, _ :: _, _, h, _ => by simp [keysD] at h
  | _ :: _, _, [], _, h, _ => by simp [keysD] at h
  | k' :: ks, _, v' :: vs, kvs, h, .cons (d := d) r rr => by
    unfold keysD at h
    split at h
    · rename_i q' r' e1 e2
      cases h
      unfold Mi.lookDD
      rw [key_eq hk e1]
      by_cases z : q' = q
      · rw [if_pos (decide_eq_true z), valV_pos z]
        exact r
      · rw [if_neg (by rw [decide_eq_false z]; exact Bool.false_ne_true), valV_neg z]
        exact lookDD_val hk e2 rr
    · cases h
theorem E_get {a b : ME} {ea eb : Expr} {apos pos : Pos} (hu : X.A.units + 64 < cLine) (ha : PE X ea (TE' T W P a)) (hb : PE X eb (TE' T W P b)) (m : M1 X ea "get" apos eb pos) :
    PE X (.Call (.Attribute ea "get" apos) [eb] [] pos) (TE' T W P (.mt .get [a, b])) := by
  refine PE.imp (pe_dget1 (by omega) (PE.lk ha) (P_one (q := true) hb) m) fun σ H Q h => ?_
  refine mono_L (fun x H1 ⟨⟨c, F, rc, ok⟩, h⟩ => ?_) (mt_rd h)
  cases rc with
  | val rd =>
    cases rd with
    | @dct ks es a vs o kvs hh hk rr =>
      refine ⟨a, rfl, .inl ⟨kvs, .inr ⟨o, hh⟩⟩, mono_P _ _ _ _ (fun ys H2 rm y ey => ?_) h⟩
      subst ey
      obtain ⟨cs, F2, z, rcs, hz, q⟩ := rm
      cases rcs with
      | cons r1 r2 => cases r2 with
        | cons r2 r3 =>
          cases r3
          unfold Mi.mtC at hz
          split at hz
          all_goals first
            | (rename_i hm _; cases hm; done)
            | (rename_i hm; cases hm; done)
            | (cases hz; done)
            | skip
          · rename_i e1
            cases e1
            split at hz
            · rename_i hkey
              cases hz
              rw [Bool.and_eq_true] at hkey
              cases r1 with
              | val r1 =>
                cases r1 with
                | dct hh2 hk2 rr2 =>
                  obtain ⟨rk, _⟩ := rdOf r2
                  obtain ⟨q', hq'⟩ := keyD_in hkey.1
                  have hy := key_rd rk hq'
                  subst hy
                  exact ⟨_, .inl ⟨_, q', .inr ⟨_, hh2⟩, rfl, rfl⟩, q.sc (lookDD_val hq' hk2 rr2)⟩
            · cases hz
    | _ => simp [Mi.recvOk] at ok
  | _ => simp [Mi.recvOk] at ok
/-! ### l.pop() -/
theorem RCs.last : ∀ {cs : List C} {vs : List V} {F : List Addr} {d : D} {H : Hp}, RCs T H cs vs F → cs.getLast? = some (.val d) → ∃ v, vs[vs.length - 1]? = some v ∧ RD T H d v ∧ RCs T H cs.dropLast vs.dropLast F
  | _, _, _, d, H, .nil, h => by cases h
  | _, _, _, d, H, .cons h .nil, hl => by
    cases hl
    cases h with
    | val r => exact ⟨_, rfl, r, .nil⟩
  | _, _, _, d, H, .cons (v := v) (F := F) h (.cons (v := v2) (vs := vs) h2 r), hl => by
    obtain ⟨w, e1, e2, e3⟩ := RCs.last (.cons h2 r) (by rw [← hl]; rfl)
    refine ⟨w, ?_, e2, .cons h e3⟩
    rw [show (v :: v2 :: vs).length - 1 = (v2 :: vs).length - 1 + 1 by simp]
    exact e1
theorem ev_rsv {i : Nat} {e : Mi.Env} {α : Type} {f : Nat × List Mi.Sel → Mi.Env → Mi.Res α} {ok : α → Mi.Env → Prop} {σ : L2.St} {H : Hp} {O : Addr → Prop} (h : FinG T W σ H O ok ((Mi.rsv P (.var i) e).bind f)) : ∃ c, e[i]? = some (some c) ∧ FinG T W σ H O ok (f (i, []) e) := by
  rw [Mi.rsv] at h
  split at h
  · exact ⟨_, by assumption, h⟩
  · exact h.elim
theorem E_pop0 (hK : T.K = X.K) {i : Nat} {eo : Expr} {apos cpos : Pos} (ho : PE X eo (tVar i)) (hbase : attributeBase eo "pop" X.env (eval eo X.env) = eval eo X.env) (hline : (apos.endLine == cpos.line) = true) :
    PE X (.Call (.Attribute eo "pop" apos) [] [] cpos) (TE' T W P (.pop (.var i) [])) := by
  refine PE.imp (pe_bm0 PySem.F.plainAttrs_list PySem.F.slot_list_pop PySem.F.type_list_pop mt_pop ho hbase hline) fun σ H Q ⟨e, fp, R, hq⟩ => ?_
  rw [ev] at hq
  obtain ⟨c, hc, hq⟩ := ev_rsv hq
  split at hq
  · rename_i hl
    rw [Bool.and_eq_true] at hl
    obtain ⟨cs, rfl⟩ := lstAt_nil hl.1 hc
    obtain ⟨v, hv, rc⟩ := R.at_ i _ hc
    obtain ⟨l, vs, F0, rfl, hl', r', hfp⟩ := lst_of rc rfl
    rw [evs] at hq
    simp only [Mi.Res.bind, Mi.modE, hc, Mi.modC, Mi.popC] at hq
    split at hq
    · rename_i c1 x hx
      split at hx
      · rename_i d hd
        cases hx
        obtain ⟨w, e1, e2, e3⟩ := RCs.last r' hd
        have nd := R.nod i
        rw [hfp] at nd
        obtain ⟨n1, n2⟩ := List.nodup_cons.mp nd
        refine ⟨.ref l, hv, .inl ⟨rfl, _, .inl (.inl hl')⟩, l, vs, w, rfl, rfl, hl', e1, ?_⟩
        have kp : Keep H (upd H l (.lst vs.dropLast)) := ⟨fun b ws eb => upd_stay (fun z => by rw [z, hl'] at eb; cases eb) eb, fun b o x eb => upd_stay (fun z => by rw [z, hl'] at eb; cases eb) eb⟩
        refine hq w _ _ [] ⟨SpS.mod (Sp1.refl (p := false) R) (lt_of_some hc) hv (by rw [hfp]; exact List.mem_cons_self) hl' trivial (.lst upd_same (poke_rcs hl' trivial e3 n1)) nd fun b m => .inl (by rw [hfp]; exact m), .val (e2.keep kp), fun _ => .nil⟩
      · cases hx
    · exact hq.elim
  · exact hq.elim
end
end MiS
namespace MiS
open PySem PySem.Spec PyProof.Rows L2
open Mi (D C ME MS ev evs evP evA evAnd evOr evC bor pur purs Ag Fl evS evSs)
section
variable {X : Cx} {T : Tb} {W : WX} {P : Mi.Pr} {IO : List Nat}
/-! ### displays of dicts of constants -/
def keyB : D → Bool
  | .int _ => true
  | .str _ => true
  | _ => false
def newK (k : D) (as : List D) : Bool := !(as.any fun a => Mi.pyEq a k)
def nodK : List D → List D → Bool
  | _, [] => true
  | as, k :: ks => newK k as && nodK (as ++ [k]) ks
theorem putD_new {k : D} {v : C} : ∀ (as : List D) (bs : List C), as.length = bs.length → newK k as = true → Mi.putD k v as bs = (as ++ [k], bs ++ [v])
  | [], [], _, _ => rfl
  | a :: as, b :: bs, hl, h => by
    unfold newK at h
    rw [List.any_cons, Bool.not_or, Bool.and_eq_true, Bool.not_eq_true'] at h
    rw [Mi.putD, h.1, if_neg Bool.false_ne_true, putD_new as bs (by simpa using hl) h.2]
    rfl
theorem mkDct_new : ∀ (ks : List D) (vs : List C) (as : List D) (bs : List C), ks.length = vs.length → as.length = bs.length → nodK as ks = true → Mi.mkDct ks vs as bs = .dct (as ++ ks) (bs ++ vs)
  | [], [], as, bs, _, _, _ => by rw [Mi.mkDct, List.append_nil, List.append_nil]; intros; contradiction
  | k :: ks, v :: vs, as, bs, hl, hab, h => by
    rw [nodK, Bool.and_eq_true] at h
    rw [Mi.mkDct, putD_new as bs hab h.1]
    dsimp only
    rw [mkDct_new ks vs (as ++ [k]) (bs ++ [v]) (by simpa using hl) (by rw [List.length_append, List.length_append, hab]; rfl) h.2, List.append_assoc, List.append_assoc]
    rfl
theorem keysD_snoc : ∀ {ks : List D} {vs : List V} {kvs : List (Key × V)} {k : D} {q : Key} {v : V}, keysD ks vs = some kvs → keyD k = some q → keysD (ks ++ [k]) (vs ++ [v]) = some (kvs ++ [(q, v)])
  | [], [], kvs, k, q, v, h, hk => by
    rw [keysD] at h
    cases h
    rw [List.nil_append, List.nil_append, keysD, hk, keysD]
    rfl
  | [], _ :: _, _, _, _, _, h, _ => by simp [keysD] at h
  | _ :: _, [], _, _, _, _, h, _ => by simp [keysD] at h
  | k' :: ks, v' :: vs, kvs, k, q, v, h, hk => by
    unfold keysD at h
    split at h
    · rename_i q' r' e1 e2
      cases h
      rw [List.cons_append, List.cons_append, keysD, e1, keysD_snoc e2 hk]
      rfl
    · cases h
theorem newK_val {k : D} {q : Key} (hk : keyD k = some q) : ∀ {ks : List D} {vs : List V} {kvs : List (Key × V)}, keysD ks vs = some kvs → newK k ks = true → valV kvs q = none
  | [], [], kvs, h, _ => by rw [keysD] at h; cases h; rfl
  | [], _ :: _, _, h, _ => by simp [keysD] at h
  | _ :: _, [], _, h, _ => by simp [keysD] at h
  | k' :: ks, v' :: vs, kvs, h, hn => by
    unfold keysD at h
    split at h
    · rename_i q' r' e1 e2
      cases h
      unfold newK at hn
      rw [List.any_cons, Bool.not_or, Bool.and_eq_true, Bool.not_eq_true', key_eq hk e1] at hn
      rw [valV_neg (of_decide_eq_false hn.1)]
      exact newK_val hk e2 hn.2
    · cases h
theorem merge_new : ∀ {ks : List D} {vs : List V} {more : List (Key × V)} {as : List D} {bs : List V} {acc : List (Key × V)}, keysD ks vs = some more → keysD as bs = some acc → nodK as ks = true → mergeK acc more = acc ++ more
  | [], [], more, as, bs, acc, h, _, _ => by
    rw [keysD] at h
    cases h
    rw [List.append_nil]
    rfl
  | [], _ :: _, _, _, _, _, h, _, _ => by simp [keysD] at h
  | _ :: _, [], _, _, _, _, h, _, _ => by simp [keysD] at h
  | k :: ks, v :: vs, more, as, bs, acc, h, ha, hn => by
    rw [nodK, Bool.and_eq_true] at hn
    unfold keysD at h
    split at h
    · rename_i q r e1 e2
      cases h
      have e3 : mergeK acc ((q, v) :: r) = mergeK (putK acc q v) r := rfl
      rw [e3, putK_new v (newK_val e1 ha hn.1), merge_new e2 (keysD_snoc ha e1) hn.2, List.append_assoc]
      rfl
    · cases h
theorem upd_twice {H : Hp} {p : Addr} {x y : HO} : upd (upd H p x) p y = upd H p y := by
  funext a
  unfold upd
  split <;> rfl
def cTs (kvs : List (Key × V)) : List (TE × TE) := kvs.map fun kv => (tC (kV kv.1), tC kv.2)
theorem tPairs_c {σ : L2.St} {H : Hp} : ∀ (kvs : List (Key × V)) (Q : List (V × V) → Hp → Prop), Q (kvs.map fun kv => (kV kv.1, kv.2)) H → tPairs (cTs kvs) σ H Q
  | [], Q, h => h
  | kv :: kvs, Q, h => tPairs_c kvs (fun ps H3 => Q ((kV kv.1, kv.2) :: ps) H3) h
theorem E_dctC {md : Bool} {kds vds : List D} {keys : List (Option Expr)} {values : List Expr} {kvs : List (Key × V)} {pos : Pos} (hp : PPs X pos keys values (cTs kvs)) (hk : keysD kds (kvs.map (·.2)) = some kvs) (hv : ∀ H, RDs T H vds (kvs.map (·.2)))
    (hall : keys.all (·.isSome) = true) (hl : keys.length = values.length) (h0 : keys ≠ []) (h15 : keys.length ≤ 15) (hkl : kvs.length = keys.length) (hvl : vds.length = kds.length) (hkk : Mi.constKeys (kds.map .k) = some kds) (hn : nodK [] kds = true) :
    PE X (.Dict keys values pos) (TE' T W P (.dct md (kds.map .k) (vds.map .k))) := by
  refine PE.imp (pe_disp hp hall hl h0 h15) fun σ H Q ⟨e, fp, R, hq⟩ => ?_
  have hes : ∀ (vds : List D) (e : Mi.Env), evs P (vds.map .k) e = .ok (vds.map .val) e := by
    intro vds
    induction vds with
    | nil => intro e; rw [List.map_nil, evs]; rfl
    | cons d vds ih => intro e; rw [List.map_cons, evs, ev]; simp only [Mi.Res.bind, Mi.leak, bor, Bool.false_and, Bool.false_eq_true, if_false, ih]; rfl
  have hev : ev P (.dct md (kds.map .k) (vds.map .k)) e = .ok (.dct kds (vds.map .val)) e := by
    rw [ev, hes]
    simp only [Mi.Res.bind, hkk]
    rw [if_pos (by rw [List.length_map, hvl]), mkDct_new kds (vds.map .val) [] [] (by rw [List.length_map, hvl]) rfl hn, List.nil_append, List.nil_append]
  rw [hev] at hq
  intro d hd
  refine tPairs_c kvs _ ⟨upd_same, kvs, rfl, by omega, ?_⟩
  rw [upd_twice, show mergeK [] kvs = kvs from by rw [merge_new (as := []) (bs := []) hk rfl hn, List.nil_append]]
  have sn := stp_new (o := .dK kvs) hd
  have kn := keep_new (o := .dK kvs) hd
  exact hq (.ref d) _ fp [d] ⟨(Sp1.refl R).laid kn sn, .dct upd_same hk (RDs.ofC (hv _)), fun _ => Tmp.laid (Sp1.refl R) (List.nodup_cons.mpr ⟨fun m => (nomatch m), .nil⟩) fun x m => by rw [List.mem_singleton] at m; rw [m]; exact hd⟩
/-! ### d.get(k, x) -/
theorem lookDD_val2 {H : Hp} {k x : D} {w : V} {q : Key} (hk : keyD k = some q) (hx : RD T H x w) : ∀ {ks ds : List D} {vs : List V} {kvs : List (Key × V)}, keysD ks vs = some kvs → RDs T H ds vs → RD T H ((Mi.lookDD k ks ds).getD x) ((valV kvs q).getD w)
  | [], _, [], kvs, h, _ => by
    rw [keysD] at h
    cases h
    rw [valV_nil]
    simp only [Mi.lookDD]
    exact hx
  | [], _, _ :: _, _, h, _ => by simp [keysD] at h
  | _ :: _, _, [], _, h, _ => by simp [keysD] at h
  | k' :: ks, _, v' :: vs, kvs, h, .cons (d := d) r rr => by
    unfold keysD at h
    split at h
    · rename_i q' r' e1 e2
      cases h
      unfold Mi.lookDD
      rw [key_eq hk e1]
      by_cases z : q' = q
      · rw [if_pos (decide_eq_true z), valV_pos z]
        exact r
      · rw [if_neg (by rw [decide_eq_false z]; exact Bool.false_ne_true), valV_neg z]
        exact lookDD_val2 hk hx e2 rr
    · cases h
theorem P_split {q : Bool} {a : ME} {r : List ME} {σ : L2.St} {H : Hp} {Q : List V → Hp → Prop} (h : TPs T W P q (a :: r) σ H Q) : tLk (TE' T W P a) σ H fun v H1 => TPs T W P q r σ H1 fun vs H2 => Q (v :: vs) H2 := by
  obtain ⟨e, fp, R, hq⟩ := h
  rw [evP] at hq
  refine Tr.step (sp0 R) hq fun c e1 v1 H1 fp1 F1 h1 V1 hq => ?_
  refine hold_lk2 V1 hq fun c' H2 F2 h2 hf hq => ?_
  refine TrP.step h2.sp hq fun cs e2 vs H3 fp2 F3 h3 V3 hq => ?_
  refine hq (v1 :: vs) H3 fp2 (F2 ++ F3) ⟨h2.sp.trans V3.sp, .cons (h2.next V3.sp fun z => ((Bool.and_eq_true _ _).mp z).2) V3.rc, ?_⟩
  rcases h2.hd with e | e
  · subst e
    exact V3.hd
  · exact .inr ((Bool.and_eq_true _ _).mp e).1
theorem E_get2 {a b c : ME} {ea eb ec : Expr} {apos pos : Pos} (hu : X.A.units + 64 < cLine) (ha : PE X ea (TE' T W P a)) (hb : PE X eb (TE' T W P b)) (hc : PE X ec (TE' T W P c)) (m : M2 X ea "get" apos eb ec pos) :
    PE X (.Call (.Attribute ea "get" apos) [eb, ec] [] pos) (TE' T W P (.mt .get [a, b, c])) := by
  refine PE.imp (pe_dget2 (by omega) (PE.lk ha) (PE.lk hb) (P_one (q := true) hc) m) fun σ H Q h => ?_
  refine mono_L (fun x H1 ⟨⟨c, F, rc, ok⟩, h⟩ => ?_) (mt_rd h)
  cases rc with
  | val rd =>
    cases rd with
    | @dct ks es a vs o kvs hh hk rr =>
      refine ⟨a, rfl, .inl ⟨kvs, .inr ⟨o, hh⟩⟩, mono_L (fun y H2 h2 => mono_P _ _ _ _ (fun ys H3 rm z ez => ?_) h2) (P_split h)⟩
      subst ez
      obtain ⟨cs, F2, z, rcs, hz, q⟩ := rm
      cases rcs with
      | cons r1 r2 => cases r2 with
        | cons r2 r3 => cases r3 with
          | cons r3 r4 =>
            cases r4
            unfold Mi.mtC at hz
            split at hz
            all_goals first
              | (rename_i hm _; cases hm; done)
              | (rename_i hm; cases hm; done)
              | (cases hz; done)
              | skip
            · rename_i e1
              cases e1
              split at hz
              · rename_i hkey
                cases hz
                rw [Bool.and_eq_true] at hkey
                cases r1 with
                | val r1 =>
                  cases r1 with
                  | dct hh2 hk2 rr2 =>
                    obtain ⟨rk, _⟩ := rdOf r2
                    obtain ⟨rx, _⟩ := rdOf r3
                    obtain ⟨q', hq'⟩ := keyD_in hkey.1
                    have hy := key_rd rk hq'
                    subst hy
                    exact ⟨_, .inl ⟨_, q', .inr ⟨_, hh2⟩, rfl, rfl⟩, q.sc (lookDD_val2 hq' rx hk2 rr2)⟩
              · cases hz
    | _ => simp [Mi.recvOk] at ok
  | _ => simp [Mi.recvOk] at ok
end
end MiS
namespace MiS
open PySem PySem.Spec PyProof.Rows L2
open Mi (D C ME MS ev evs evP evA evAnd evOr evC bor pur purs Ag Fl evS evSs)
/-! ### names, side by side, of a tuple that stands there as a display -/
theorem fm_all {α β : Type} (f : α → Option β) : ∀ (l : List α), (l.filterMap f).length = l.length → ∀ a ∈ l, ∃ b, f a = some b
  | [], _, _, m => nomatch m
  | x :: l, h, a, m => by
    cases hx : f x with
    | none =>
      rw [List.filterMap_cons_none hx] at h
      have := List.length_filterMap_le f l
      rw [List.length_cons] at h
      omega
    | some b =>
      rw [List.filterMap_cons_some hx, List.length_cons, List.length_cons] at h
      rcases List.mem_cons.mp m with rfl | m
      · exact ⟨b, hx⟩
      · exact fm_all f l (by omega) a m
theorem nm_some {env : Env} {id : Str} {l1 l2 : Nat} {b : Str} (h : (if (env.kindOf id == some NameKind.local && l1 == l2) = true then some id else none) = some b) : env.kindOf id = some .local ∧ b = id := by
  split at h
  · rename_i z
    cases h
    exact ⟨by simpa using ((Bool.and_eq_true _ _).mp z).1, rfl⟩
  · cases h
theorem fm2 {α β : Type} {f : α → Option β} {a b : α} {x y : β} (h : f a = some x) (g : f b = some y) : [a, b].filterMap f = [x, y] := by
  rw [List.filterMap_cons_some h, List.filterMap_cons_some g]
  rfl
theorem fm3 {α β : Type} {f : α → Option β} {a b c : α} {x y z : β} (h : f a = some x) (g : f b = some y) (k : f c = some z) : [a, b, c].filterMap f = [x, y, z] := by
  rw [List.filterMap_cons_some h, fm2 g k]
theorem sw2 {x y : Str} {px py : Pos} {kt k2 : Nat} {pt pt2 : Pos} {a b : Expr} {env : Env} (hca : ([a, b].all (constantsAlone 8)) = false) :
    swappedStores [.Tuple [.Name x px, .Name y py] kt pt] (.Tuple [a, b] k2 pt2) env = pure none ∨ (swappedStores [.Tuple [.Name x px, .Name y py] kt pt] (.Tuple [a, b] k2 pt2) env = pure (some [x, y]) ∧ env.kindOf x = some .local ∧ env.kindOf y = some .local) := by
  unfold swappedStores
  dsimp only
  split
  · left; rfl
  split
  · left; rfl
  split
  · left; rfl
  rename_i h3
  split
  · left; rfl
  rw [if_neg (by rw [hca]; exact Bool.false_ne_true)]
  right
  rw [Bool.not_eq_true, Bool.or_eq_false_iff] at h3
  have h4 := fm_all _ _ (bne_eq_false_iff_eq.mp h3.1)
  obtain ⟨bx, hx⟩ := h4 _ List.mem_cons_self
  obtain ⟨bY, hy⟩ := h4 _ (List.mem_cons_of_mem _ List.mem_cons_self)
  obtain ⟨kx, rfl⟩ := nm_some hx
  obtain ⟨ky, rfl⟩ := nm_some hy
  refine ⟨congrArg (fun l => pure (some l)) ?_, kx, ky⟩
  exact fm2 hx hy
theorem sw3 {x y z : Str} {px py pz : Pos} {kt k2 : Nat} {pt pt2 : Pos} {a b c : Expr} {env : Env} (hca : ([a, b, c].all (constantsAlone 8)) = false) :
    swappedStores [.Tuple [.Name x px, .Name y py, .Name z pz] kt pt] (.Tuple [a, b, c] k2 pt2) env = pure none ∨ (swappedStores [.Tuple [.Name x px, .Name y py, .Name z pz] kt pt] (.Tuple [a, b, c] k2 pt2) env = pure (some [x, y, z]) ∧ env.kindOf x = some .local ∧ env.kindOf y = some .local ∧ env.kindOf z = some .local) := by
  unfold swappedStores
  dsimp only
  split
  · left; rfl
  split
  · left; rfl
  split
  · left; rfl
  rename_i h3
  split
  · left; rfl
  rw [if_neg (by rw [hca]; exact Bool.false_ne_true)]
  right
  rw [Bool.not_eq_true, Bool.or_eq_false_iff] at h3
  have h4 := fm_all _ _ (bne_eq_false_iff_eq.mp h3.1)
  obtain ⟨bx, hx⟩ := h4 _ List.mem_cons_self
  obtain ⟨bY, hy⟩ := h4 _ (List.mem_cons_of_mem _ List.mem_cons_self)
  obtain ⟨bZ, hz⟩ := h4 _ (List.mem_cons_of_mem _ (List.mem_cons_of_mem _ List.mem_cons_self))
  obtain ⟨kx, rfl⟩ := nm_some hx
  obtain ⟨ky, rfl⟩ := nm_some hy
  obtain ⟨kz, rfl⟩ := nm_some hz
  refine ⟨congrArg (fun l => pure (some l)) ?_, kx, ky, kz⟩
  exact fm3 hx hy hz
/-- all of a display is told ahead: it is one thing -/
theorem sw_fold {es vs : List Expr} {kt k2 : Nat} {pt pt2 : Pos} {env : Env} (hf : (vs.all (foldedForSure 8)) = true) : swappedStores [.Tuple es kt pt] (.Tuple vs k2 pt2) env = pure none := by
  unfold swappedStores
  dsimp only
  split
  · rfl
  split
  · rfl
  split
  · rfl
  first
    | rfl
    | (split
       · rfl
       · exact absurd hf (by assumption))
section
variable {X : Cx} {T : Tb} {W : WX} {P : Mi.Pr} {IO : List Nat}
theorem zip_rev {α β : Type} : ∀ (l : List α) (r : List β), l.length = r.length → l.reverse.zip r.reverse = (l.zip r).reverse
  | [], [], _ => rfl
  | a :: l, b :: r, h => by
    rw [List.reverse_cons, List.reverse_cons, List.zip_append (by rw [List.length_reverse, List.length_reverse]; simpa using h), zip_rev l r (by simpa using h), List.zip_cons_cons]
    exact List.reverse_cons.symm
/-- stored from the right -/
def gRev (K : PySem.W.Frag) (is : List Nat) : TG := fun v σ H Q => ∃ a vs, v = .ref a ∧ SqT K H a vs ∧ vs.length = is.length ∧ gNames is.reverse vs.reverse σ H Q
theorem ps_rev {es : List Expr} {ids : List Str} {is : List Nat} {k1 : Nat} {p1 pos : Pos} {e : Expr} {te : TE} (hc : X.calm = true) (he : PE X e te) (hs : swapsWithSole [.Tuple es k1 p1] e pos.line X.env = pure false) (hw : swappedStores [.Tuple es k1 p1] e X.env = pure (some ids)) (hl : ids.length = is.length)
    (hN : X.N.Nodup) (hid : ∀ p ∈ is.zip ids, X.N[p.1]? = some p.2 ∧ X.env.scope.names.lookup p.2 = some .local) : PS X (.Assign [.Tuple es k1 p1] e pos) (tAsg te (gRev X.K is)) := by
  have stores : ∀ (is : List Nat) (ids : List Str), ids.length = is.length → (∀ p ∈ is.zip ids, X.N[p.1]? = some p.2 ∧ X.env.scope.names.lookup p.2 = some .local) → ∀ (pins : List (Addr × Obj)) (s : Shared) (σ : L2.St) (H : Hp) (vs : List V) (us : List Value) (Q : L2.St → Hp → Prop), Inv X pins σ H s → Vals vs us → gNames is vs σ H Q →
      wpAny (model X.prog X.w) X.A (assignInOrder (ids.map fun n => bindName X.env n) us) (fun _ s' => ∃ σ' H', Inv X pins σ' H' s' ∧ Q σ' H') X.xe s := by
    intro is
    induction is with
    | nil =>
      intro ids hl _ pins s σ H vs us Q I r h
      cases ids with
      | cons _ _ => simp at hl
      | nil =>
        obtain ⟨rfl, h⟩ := h
        exact assignInOrder_nil ⟨σ, H, I, h⟩
    | cons i is ih =>
      intro ids hl hid pins s σ H vs us Q I r h
      cases ids with
      | nil => simp at hl
      | cons x ids =>
        obtain ⟨v, vr, rfl, h⟩ := h
        obtain ⟨h1, h2⟩ := hid (i, x) List.mem_cons_self
        cases r with
        | cons r1 r2 =>
          rw [List.map_cons]
          exact assignInOrder_cons (wpAny_bindName (store_ok I hN h1 (.inl h2) r1 (fun s2 I2 => ih ids (by simpa using hl) (fun p m => hid p (List.mem_cons_of_mem _ m)) pins s2 _ H vr _ Q I2 r2 h) (.inr h2)))
  refine ⟨fun pins s σ H D I h => ?_⟩
  rw [exec_Assign_arm, hs]
  refine wpAny_bind (wpAny_standAt (wpAny_bind (wpAny_pure ?_)))
  rw [if_neg Bool.false_ne_true]
  refine wpAny_bind (wpAny_mono (he.run pins s σ H _ I h) (fun v s1 ⟨x, H1, I1, r1, q1⟩ => ?_) fun _ _ z => z)
  obtain ⟨a, vs, rfl, hq, hvl, q⟩ := q1
  cases r1
  obtain ⟨its, rv, ht, hz⟩ := I1.tuple hq
  rw [hw]
  refine wpAny_bind (wpAny_pure ?_)
  have hsz : ids.length = its.toArray.size := by rw [hl, ← hvl, rv.length]; simp
  show wpAny _ _ (do rule "assign.swapped-stores"; let items ← unpackItems (.ref a) ids.length none; assignInOrder (ids.reverse.map fun n => bindName X.env n) items.reverse; pure Flow.next) _ _ _
  rw [hsz]
  refine wpAny_bind (wpAny_rule (wpAny_bind (unpackItems_tuple (I.ok.hd hc) ht fun h' hx => ?_)))
  have I2 : Inv X pins σ H1 { s1 with heap := h' } := I1.kept (t' := s1.toks) fun b o e => hx b o (Nat.ne_of_lt (Heap.lt_size e)) e
  have rr : Vals vs.reverse its.toArray.toList.reverse := by
    rw [List.toList_toArray]
    have : ∀ {vs : List V} {us : List Value} {ws : List V} {ts : List Value}, Vals vs us → Vals ws ts → Vals (vs.reverse ++ ws) (us.reverse ++ ts) := by
      intro vs us ws ts r
      induction r generalizing ws ts with
      | nil => intro q; exact q
      | cons h t ih =>
        intro q
        rw [List.reverse_cons, List.reverse_cons, List.append_assoc, List.append_assoc]
        exact ih (.cons h q)
    have := this rv .nil
    rw [List.append_nil, List.append_nil] at this
    exact this
  refine wpAny_bind (wpAny_mono (stores is.reverse ids.reverse (by rw [List.length_reverse, List.length_reverse, hl]) (fun p m => ?_) pins _ σ H1 vs.reverse _ D.nx I2 rr q) (fun _ s2 z => wpAny_pure z) fun _ _ z => z)
  rw [zip_rev is ids hl.symm] at m
  exact hid p (List.mem_reverse.mp m)
/-- what a tuple's things are, as they are bound -/
theorem tp_of {H : Hp} {is : List Nat} {c : C} {v : V} {F : List Addr} {e e' : Mi.Env} (rc : RC T H c v F) (hb : Mi.bindTg (.tp is) c e = some e') : ∃ a vs cs, v = .ref a ∧ SqT T.K H a vs ∧ RCs T H cs vs F ∧ cs.length = is.length ∧ e' = (is.zip cs).foldl (fun e p => e.set p.1 (some p.2)) e := by
  cases rc with
  | val hd =>
    cases hd with
    | tup h r =>
      rename_i ds a vs
      simp only [Mi.bindTg] at hb
      split at hb
      · rename_i hl
        cases hb
        exact ⟨a, vs, ds.map .val, rfl, h, RDs.ofC r, by rw [List.length_map]; exact hl, foldl_val is ds e⟩
      · cases hb
    | _ => simp [Mi.bindTg] at hb
  | tup h r =>
    rename_i cs a vs
    simp only [Mi.bindTg] at hb
    split at hb
    · rename_i hl
      cases hb
      exact ⟨a, vs, cs, rfl, h, r, hl, rfl⟩
    · cases hb
  | lst _ _ => simp [Mi.bindTg] at hb
  | dct _ _ _ => simp [Mi.bindTg] at hb
  | obj _ _ _ _ _ => simp [Mi.bindTg] at hb
theorem ls2 {α : Type} {l : List α} (h : l.length = 2) : ∃ a b, l = [a, b] := match l, h with
  | [a, b], _ => ⟨a, b, rfl⟩
theorem ls3 {α : Type} {l : List α} (h : l.length = 3) : ∃ a b c, l = [a, b, c] := match l, h with
  | [a, b, c], _ => ⟨a, b, c, rfl⟩
theorem rcs2 {H : Hp} {c1 c2 : C} {vs : List V} {F : List Addr} (r : RCs T H [c1, c2] vs F) : ∃ v1 v2 F1 F2, vs = [v1, v2] ∧ F = F1 ++ (F2 ++ []) ∧ RC T H c1 v1 F1 ∧ RC T H c2 v2 F2 := by
  cases r with
  | cons r1 r => cases r with
    | cons r2 r => cases r; exact ⟨_, _, _, _, rfl, rfl, r1, r2⟩
theorem rcs3 {H : Hp} {c1 c2 c3 : C} {vs : List V} {F : List Addr} (r : RCs T H [c1, c2, c3] vs F) : ∃ v1 v2 v3 F1 F2 F3, vs = [v1, v2, v3] ∧ F = F1 ++ (F2 ++ (F3 ++ [])) ∧ RC T H c1 v1 F1 ∧ RC T H c2 v2 F2 ∧ RC T H c3 v3 F3 := by
  cases r with
  | cons r1 r => cases r with
    | cons r2 r => cases r with
      | cons r3 r => cases r; exact ⟨_, _, _, _, _, _, rfl, rfl, r1, r2, r3⟩
theorem tg_rev (hK : T.K = X.K) {is : List Nat} (hn : is.Nodup) (h23 : is.length = 2 ∨ is.length = 3) : TgOk T (gRev X.K is) (.tp is) := fun σ H e e' fp c v F Q re rc n d hb k => by
  obtain ⟨a, vs, cs, rfl, hq, rcs, hl, rfl⟩ := tp_of rc hb
  refine ⟨a, vs, rfl, by rw [← hK]; exact hq, by rw [← rcs_length rcs]; exact hl, ?_⟩
  rcases h23 with h23 | h23
  · obtain ⟨i, j, rfl⟩ := ls2 h23
    obtain ⟨c1, c2, rfl⟩ := ls2 (hl.trans h23)
    obtain ⟨v1, v2, F1, F2, rfl, rfl, r1, r2⟩ := rcs2 rcs
    · rw [List.append_nil] at n d k
      have hij : i ≠ j := fun z => by rw [z] at hn; simp at hn
      refine gNames_ok [j, i] [c2, c1] [v2, v1] (F2 ++ (F1 ++ [])) σ H e fp Q re (.cons r2 (.cons r1 .nil)) ?_ (fun a m => d a ?_) rfl fun σ' fp' re' ho hw => k σ' fp' ?_ (fun a h => (ho a h).imp id fun m => ?_) fun ws hi => hw ws fun x m => hi x ?_
      · rw [List.append_nil]
        exact List.perm_append_comm.nodup_iff.mp n
      · rw [List.append_nil] at m
        exact List.perm_append_comm.mem_iff.mp m
      · have e1 : ([j, i].zip [c2, c1]).foldl (fun e p => e.set p.1 (some p.2)) e = ([i, j].zip [c1, c2]).foldl (fun e p => e.set p.1 (some p.2)) e := by
          show (e.set j (some c2)).set i (some c1) = (e.set i (some c1)).set j (some c2)
          exact List.set_comm _ _ (Ne.symm hij)
        rw [e1] at re'
        exact re'
      · rw [List.append_nil] at m
        exact List.perm_append_comm.mem_iff.mp m
      · show x ∈ [i, j]
        simp only [List.mem_cons, List.not_mem_nil, or_false] at m ⊢
        exact m.symm
  · obtain ⟨i, j, l, rfl⟩ := ls3 h23
    obtain ⟨c1, c2, c3, rfl⟩ := ls3 (hl.trans h23)
    obtain ⟨v1, v2, v3, F1, F2, F3, rfl, rfl, r1, r2, r3⟩ := rcs3 rcs
    · rw [List.append_nil] at n d k
      have hij : i ≠ j := fun z => by rw [z] at hn; simp at hn
      have hil : i ≠ l := fun z => by rw [z] at hn; simp at hn
      have hjl : j ≠ l := fun z => by rw [z] at hn; simp at hn
      have pm : (F3 ++ (F2 ++ F1)).Perm (F1 ++ (F2 ++ F3)) := by
        refine List.perm_append_comm.trans ?_
        refine (List.Perm.append_right F3 List.perm_append_comm).trans ?_
        rw [List.append_assoc]
      refine gNames_ok [l, j, i] [c3, c2, c1] [v3, v2, v1] (F3 ++ (F2 ++ (F1 ++ []))) σ H e fp Q re (.cons r3 (.cons r2 (.cons r1 .nil))) ?_ (fun a m => d a ?_) rfl fun σ' fp' re' ho hw => k σ' fp' ?_ (fun a h => (ho a h).imp id fun m => ?_) fun ws hi => hw ws fun x m => hi x ?_
      · rw [List.append_nil]
        exact pm.nodup_iff.mpr n
      · rw [List.append_nil] at m
        exact pm.mem_iff.mp m
      · have e1 : ([l, j, i].zip [c3, c2, c1]).foldl (fun e p => e.set p.1 (some p.2)) e = ([i, j, l].zip [c1, c2, c3]).foldl (fun e p => e.set p.1 (some p.2)) e := by
          show ((e.set l (some c3)).set j (some c2)).set i (some c1) = ((e.set i (some c1)).set j (some c2)).set l (some c3)
          rw [List.set_comm _ _ (Ne.symm hjl), List.set_comm _ _ (Ne.symm hil), List.set_comm _ _ (Ne.symm hij)]
        rw [e1] at re'
        exact re'
      · rw [List.append_nil] at m
        exact pm.mem_iff.mp m
      · show x ∈ [i, j, l]
        simp only [List.mem_cons, List.not_mem_nil, or_false] at m ⊢
        rcases m with m | m | m
        · exact .inr (.inr m)
        · exact .inr (.inl m)
        · exact .inl m
end
end MiS
namespace MiS
open PySem PySem.Spec PyProof.Rows L2
open Mi (D C ME MS ev evs evP evA evAnd evOr evC bor pur purs Ag Fl evS evSs)
abbrev St := L2.St
/-! ### where an exception is handled: the blocks of comprehensions -/
/-- a block whose context bears the handled exception -/
abbrev _root_.L2.Cx.blkH (X : Cx) (s : Shared) (H : Hp) (scope : Scope) (cenv : Env) (fp : List Addr) (p : Addr × Obj) : Cx := { X.blk s H scope cenv fp with pn := [p] }
section
variable {X : Cx}
theorem blkH_inv {pz : List (Addr × Obj)} {σ τ : St} {H G : Hp} {s sB : Shared} {scope : Scope} {cen : Env} {fq : List Addr} {p : Addr × Obj} (I : Inv X pz σ H s) (J : Inv (X.blk s H scope cen fq) [] τ G sB) (hpn : p ∈ X.pn) (hB : sB.heap.get? p.1 = some p.2) (hL : p.1 ≠ cen.locals) (hG : G p.1 = none) :
    Inv (X.blkH s H scope cen fq p) [] τ G sB := by
  obtain ⟨q1, q2, q3, q4, q5⟩ := I.pin p (List.mem_append_left _ hpn)
  obtain ⟨ok, os, bare, base, loc, cell, free, freeC, pin, hok, len⟩ := J
  refine ⟨⟨ok.mod, ok.kind, ok.glob, ok.blt, ok.above, ok.inj, ok.has, ok.cab, ok.hd, ok.frames, ok.stk, ok.exf, ok.bs, ok.bsz, ok.noex, ok.exfs, ok.funs, ok.frf⟩, os, bare, base, loc, cell, free, freeC, fun q hq => ?_, hok, len⟩
  have eq : q = p := by simpa using (show q ∈ [p] ++ ([] : List (Addr × Obj)) from hq)
  rw [eq]
  exact ⟨hB, hG, hL, fun m => (List.mem_cons.mp (I.stkSub p.1 m)).elim q3 q4, q5⟩
theorem lc_coreH {pz : List (Addr × Obj)} {s : Shared} {σ : St} {H : Hp} {Q : VK} {elt tg iter : Expr} {ifs : List Expr} {scope : Scope} {ow : List (Str × Nat)} {pos pos' : Pos} {wi : TI} {g : TG} {tt : TT} {te : TE} {us : Option (Value → Sem Unit)} {Qf : Value → Shared → Prop}
    {p : Addr × Obj} (hot : L2H.Hot1 X.A p) (hpn : p ∈ X.pn) (hN : X.N.Nodup) (I : Inv X pz σ H s) (hi : L2H.PIH X tg iter wi) (ok : BlkOk X.N X.env.scope scope ow)
    (hg : ∀ (s : Shared) (H : Hp) (C : Addr) (cl : List (Str × Addr)) (fq : List Addr), PG (X.blkH s H scope (compEnvC scope cl C X.env) fq p) tg g) (ht : ∀ (s : Shared) (H : Hp) (C : Addr) (cl : List (Str × Addr)) (fq : List Addr), PTs (X.blkH s H scope (compEnvC scope cl C X.env) fq p) ifs tt)
    (he : ∀ (s : Shared) (H : Hp) (C : Addr) (cl : List (Str × Addr)) (fq : List Addr), PE (X.blkH s H scope (compEnvC scope cl C X.env) fq p) elt te) (hs : ∀ xx, foldedSetIterable iter X.env xx = pure xx)
    (h : tLc wi g tt te (ow.map (·.2)) σ H Q)
    (hRe : ∀ Dn C sz mm Gz, Inv X pz σ Gz sz → Q (.ref Dn) Gz → sz.heap.Ns C mm → FpOk X pz Gz C → compPost (model X.prog X.w) X.A X.xe us Qf (.ref Dn) C (.ok .next) sz) :
    wpAny (model X.prog X.w) X.A (comprehension (.ListComp elt [⟨tg, iter, ifs, 0⟩] scope pos) scope X.env pos' (newList []) false (eval iter X.env) us) Qf X.xe s := by
  have hfr : ∀ y ∈ scope.names, y.2 = .free → ∃ c, X.env.cells.lookup y.1 = some c := fun y hy e => by
    rcases ok.free y hy e with k | k
    · exact I.ok.has _ (.inl k)
    · exact I.ok.has _ (.inr k)
  refine wpAny_comprehension_free (use := us) rfl hs (closure_ok hfr) ok.kind (fun y hy e => by rw [ok.uniq y hy, e])
    (thn (hi.run pz s σ H _ I h) fun xv sa hxv => thn hxv fun iv sb hb2 => ?_)
  obtain ⟨itr, fq, tn, Jt, G2, e, J2, Tn, tt2, fa, q⟩ := hb2
  subst e
  refine wpAny_newObj_type (newEnv_comp ?_) (by show 0 ≤ sizeLine; decide)
  generalize hDn : sb.heap.objs.size = Dn
  have eDn : G2 Dn = none := J2.hok.fresh (Nat.le_of_eq hDn)
  obtain ⟨W, ⟨m0, wz⟩, trn⟩ := q Dn eDn
  -- the new list
  generalize hs3 : ({ sb with heap := sb.heap.push { cls := .type "list", data := .seq ([] : List Value).toArray } } : Shared) = sc3
  have J3 : Inv X pz σ (upd G2 Dn (.lst [])) sc3 := by
    rw [← hs3]
    refine J2.laid (t' := sb.toks) (fun b o e => Heap.get?_push_of_some _ e) (Nat.le_of_eq hDn) ⟨Nat.zero_le _, [], 0, .nil, ?_⟩
    rw [← hDn]
    exact Heap.get?_push_size _ rfl
  have h3 : sc3.heap = sb.heap.push { cls := .type "list", data := .seq ([] : List Value).toArray } := by rw [← hs3]
  have szz : ∀ b ∈ fq, b < sb.heap.objs.size := fun b hb => by
    obtain ⟨o, e, _⟩ := Tn.obj _ _ tt2 b hb
    exact Heap.lt_size e
  have fb : ∀ b ∈ fq, FpOk X pz (upd G2 Dn (.lst [])) b ∧ b < sc3.heap.objs.size := fun b hb => by
    have hlt := szz b hb
    refine ⟨⟨?_, (fa b hb).2⟩, by rw [h3, Heap.size_push]; exact Nat.lt_succ_of_lt hlt⟩
    rw [upd_ne (by rw [← hDn]; exact Nat.ne_of_lt hlt)]
    exact (fa b hb).1
  have tt3 : tn 0 sc3.heap := Tn.keep _ _ _ tt2 fun b _ o e => by rw [h3]; exact Heap.get?_push_of_some _ e
  have J4 := block_start J3 ok hN fb
  have gP := hg sc3 (upd G2 Dn (.lst [])) sc3.heap.objs.size (cellsFrom (sc3.heap.objs.size + 1) scope.names (cloFrom X.env.cells scope.names [])) fq
  have tP := ht sc3 (upd G2 Dn (.lst [])) sc3.heap.objs.size (cellsFrom (sc3.heap.objs.size + 1) scope.names (cloFrom X.env.cells scope.names [])) fq
  have eP := he sc3 (upd G2 Dn (.lst [])) sc3.heap.objs.size (cellsFrom (sc3.heap.objs.size + 1) scope.names (cloFrom X.env.cells scope.names [])) fq
  show codeAny _ _ (.compStart (.ListComp elt [⟨tg, iter, ifs, 0⟩] scope pos) 0 (.ref itr) (.ref Dn) (compEnvC scope (cellsFrom (sc3.heap.objs.size + 1) scope.names (cloFrom X.env.cells scope.names [])) sc3.heap.objs.size X.env)) (compPost (model X.prog X.w) X.A X.xe us Qf (.ref Dn) sc3.heap.objs.size) { sc3 with heap := pushCells (sc3.heap.push { cls := .type "dict", data := .dict #[] }) scope.names }
  have nfq : ∀ b ∈ fq, (upd G2 Dn (.lst [])) b = none := fun b hb => (fb b hb).1.1
  generalize hcen : compEnvC scope (cellsFrom (sc3.heap.objs.size + 1) scope.names (cloFrom X.env.cells scope.names [])) sc3.heap.objs.size X.env = cen at J4 gP tP eP ⊢
  have cL : cen.locals = sc3.heap.objs.size := by subst hcen; rfl
  generalize hH3 : upd G2 Dn (.lst []) = G3 at J3 J4 gP tP eP wz nfq fb
  generalize hs4 : ({ sc3 with heap := pushCells (sc3.heap.push { cls := .type "dict", data := .dict #[] }) scope.names } : Shared) = sd at J4 ⊢
  have pP := J3.pin p (List.mem_append_left _ hpn)
  have pB : sd.heap.get? p.1 = some p.2 := by rw [← hs4]; exact pushCells_keeps _ _ _ _ (Heap.get?_push_of_some _ pP.1)
  have hcB : L2H.HotC (X.blkH sc3 G3 scope cen fq p) := ⟨p, hot, List.mem_cons_self⟩
  have K4 := blkH_inv J3 J4 hpn pB (by rw [cL]; exact Nat.ne_of_lt (Heap.lt_size pP.1)) pP.2.1
  have tt4 : tn 0 sd.heap := Tn.keep _ _ _ tt3 fun b _ o e => by rw [← hs4]; exact pushCells_keeps _ _ _ _ (Heap.get?_push_of_some _ e)
  have sta : ∀ {σ' : St} {Gz : Hp} {sz : Shared}, Inv (X.blkH sc3 G3 scope cen fq p) [] σ' Gz sz → (∀ b ∈ fq, Gz b = none) → ∀ b ∈ fq, FpOk (X.blkH sc3 G3 scope cen fq p) [] Gz b := fun {σ' Gz sz} Jz hn b hb =>
    ⟨hn b hb, (Jz.ok.exf b hb).1, Jz.ok.exfs b hb, .inl hb, fun xx c e => (Jz.ok.exf b hb).2 xx c e, fun q hq => by
      have eq : q = p := by simpa using (show q ∈ [p] ++ ([] : List (Addr × Obj)) from hq)
      rw [eq]
      exact (fb b hb).1.2.2.2.2.2 p (List.mem_append_left _ hpn)⟩
  have lp : codeAny (model X.prog X.w) X.A (.compLoop (.ListComp elt [⟨tg, iter, ifs, 0⟩] scope pos) 0 (.ref itr) (.ref Dn) cen) (compPost (model X.prog X.w) X.A X.xe us Qf (.ref Dn) sc3.heap.objs.size) sd := by
    refine compLoop_any (fun n sz => ∃ ix Gz, Inv (X.blkH sc3 G3 scope cen fq p) [] (wipe σ (ow.map (·.2))) Gz sz ∧ tn ix sz.heap ∧ (∀ b ∈ fq, Gz b = none) ∧ W ix n Gz) ?_ m0 ⟨0, G3, K4, tt4, nfq, wz⟩
    rintro n se ⟨ix, G5, J5, tt5, ne5, we⟩
    rcases trn ix n G5 we with ⟨stop, qq⟩ | ⟨go, Nn, hNn, step⟩
    · have tdn := Tn.done (X.blkH sc3 G3 scope cen fq p) rfl rfl rfl hcB ix [] se _ G5 (fun _ _ => False) J5 (sta J5 ne5) tt5 stop
      refine thnF tdn fun r sf ⟨hr, J6⟩ => ?_
      subst hr
      -- back in the def's context
      have J7 : Inv X pz σ G5 sf := J3.call' (ch := fq) J6.os J6.base J6.hok J6.bare fun b hb => ⟨(fb b hb).1.2.2.2.1, (fb b hb).1.2.1, (fb b hb).1.2.2.2.2.1, (fb b hb).1.2.2.2.2.2⟩
      have nC : G5 sc3.heap.objs.size = none := by
        have z : G5 cen.locals = none := J6.free
        rw [cL] at z
        exact z
      obtain ⟨mm, hn, _⟩ := J6.loc
      have hn : sf.heap.Ns cen.locals mm := hn
      rw [cL] at hn
      exact hRe Dn sc3.heap.objs.size sf mm G5 J7 qq hn (J3.fpOk (Nat.le_refl _) nC)
    · have tim := Tn.item (X.blkH sc3 G3 scope cen fq p) rfl rfl rfl hcB ix [] se _ G5 (fun _ _ => False) J5 (sta J5 ne5) tt5 go
      refine thnF tim fun r sf ⟨u, hr, h6⟩ => ?_
      subst hr
      refine thnF h6 fun _ sg ⟨xx, G7, J7, r7, y7, tt7, ne7⟩ => ?_
      have J7z := J7.pinned (sta J7 ne7) (Tn.obj _ _ tt7)
      refine thnF (gP.run _ sg _ G7 xx u _ J7z r7 (step xx G7 y7)) fun _ sh ⟨σ8, G8, J8, hw8, qh⟩ => ?_
      refine thnF (tP.run _ sh σ8 G8 _ J8 qh) fun b si ⟨G9, J9, qi⟩ => ?_
      -- the turn's end
      have fe : ∀ {sz : Shared} {Gz : Hp}, Inv (X.blkH sc3 G3 scope cen fq p) ([] ++ pinsAt fq sg.heap) σ8 Gz sz → Nn Gz → ∃ mm, mm < n ∧ ∃ ix Gz, Inv (X.blkH sc3 G3 scope cen fq p) [] (wipe σ (ow.map (·.2))) Gz sz ∧ tn ix sz.heap ∧ (∀ b ∈ fq, Gz b = none) ∧ W ix mm Gz := fun {sz Gz} Jz nx => by
        obtain ⟨m', hm, w'⟩ := hNn Gz nx
        have pin' : ∀ b ∈ fq, ∀ o, sg.heap.get? b = some o → sz.heap.get? b = some o ∧ Gz b = none := fun b hb o e =>
          let z := Jz.pin (b, o) (List.mem_append_right _ (List.mem_append_right _ (mem_pinsAt hb e)))
          ⟨z.1, z.2.1⟩
        have hl : (wipe σ (ow.map (·.2))).length = σ8.length := by rw [← hw8, wipe_length]
        refine ⟨m', hm, ix + 1, Gz, (Jz.unpinned (pins := [])).weak hl (fun j v e => ?_), Tn.keep _ _ _ tt7 fun b hb o e => (pin' b hb o e).1, fun b hb => ?_, w'⟩
        · rw [← hw8] at e
          exact (wipe_some e).1
        · obtain ⟨o, e, _⟩ := Tn.obj _ _ tt7 b hb
          exact (pin' b hb o e).2
      cases b with
      | false =>
        simp only [Bool.false_eq_true, if_false] at qi ⊢
        exact fe J9 qi
      | true =>
        simp only [if_true] at qi ⊢
        refine thnF (eP.run _ si σ8 G9 _ J9 qi) fun z sj ⟨yv, G10, J10, r10, acc, hD10, hz10, nx⟩ => ?_
        exact app_ok (X := X.blkH sc3 G3 scope cen fq p) J10 hD10 hz10 r10 fun sk J11 => fe J11 nx
  exact codeAny_compStart_list lp (Tn.self X.A 0 _ _ _ tt4 lp)
/-- as a value -/
theorem pe_lcH {elt tg iter : Expr} {ifs : List Expr} {scope : Scope} {ow : List (Str × Nat)} {pos : Pos} {wi : TI} {g : TG} {tt : TT} {te : TE} {p : Addr × Obj} (hot : L2H.Hot1 X.A p) (hpn : p ∈ X.pn) (hN : X.N.Nodup) (hi : L2H.PIH X tg iter wi) (ok : BlkOk X.N X.env.scope scope ow)
    (hg : ∀ (s : Shared) (H : Hp) (C : Addr) (cl : List (Str × Addr)) (fq : List Addr), PG (X.blkH s H scope (compEnvC scope cl C X.env) fq p) tg g) (ht : ∀ (s : Shared) (H : Hp) (C : Addr) (cl : List (Str × Addr)) (fq : List Addr), PTs (X.blkH s H scope (compEnvC scope cl C X.env) fq p) ifs tt)
    (he : ∀ (s : Shared) (H : Hp) (C : Addr) (cl : List (Str × Addr)) (fq : List Addr), PE (X.blkH s H scope (compEnvC scope cl C X.env) fq p) elt te) (hs : ∀ xx, foldedSetIterable iter X.env xx = pure xx := by intro _; rfl) :
    PE X (.ListComp elt [⟨tg, iter, ifs, 0⟩] scope pos) (tLc wi g tt te (ow.map (·.2))) := by
  refine ⟨fun pz s σ H Q I h => ?_⟩
  rw [eval_ListComp]
  refine lc_coreH hot hpn hN I hi ok hg ht he hs h fun Dn C sz mm Gz Jz q hn f => ⟨mm, hn, fun h'' sb => ?_⟩
  obtain ⟨f0, f1, fa, fb, f4, f5⟩ := f
  exact ⟨.ref Dn, Gz, Jz.turned (t' := sz.toks) (fun b o hb e => (sb.2 b hb).trans e) f0 f1 fb f4 f5, rfl, q⟩
/-! ### range there -/
theorem PIH.imp {tg iter : Expr} {wi wi' : TI} (h : L2H.PIH X tg iter wi) (f : ∀ σ H (R : It → Hp → Prop), wi' σ H R → wi σ H R) : L2H.PIH X tg iter wi' := ⟨fun pins s σ H R I q => h.run pins s σ H R I (f σ H R q)⟩
theorem pih_rng {T : Tb} {tg a : Expr} {ta : TA} {p pos : Pos} (hg : Gl X "range") (hm : X.mg "range" = none) (mt : Mono ta) (ha : PA X [a] ta) (hs : starEach [a] X.env = [(false, eval a X.env)]) : L2H.PIH X tg (.Call (.Name "range" p) [a] [] pos) (RIt T .rng 1 ta) :=
  PIH.imp (L2H.pi_range1H hg hm ha hs) fun σ H R h => mt σ H _ _ (fun vs H1 z => by
    obtain ⟨cs, F, ds, r, hn, hi, ok, q⟩ := z
    obtain ⟨c, v, rfl, rfl, rc⟩ := len1 r hn
    obtain ⟨j, e1, h1, h2, e2⟩ := it_rng1 hi
    subst e1 e2
    cases rcInt rc
    exact ⟨j, rfl, h1, h2, q _ (fun _ => True) wk_rng trivial fun _ _ _ _ _ => trivial⟩) h
theorem E_compH {T : Tb} {W : WX} {P : Mi.Pr} {elt : ME} {tg : Mi.Tg} {it : Mi.It} {src cond : List ME} {e tge iter : Expr} {ifs : List Expr} {scope : Scope} {ow : List (Str × Nat)} {pos : Pos} {wi : TI} {g : TG} {p : Addr × Obj}
    (hot : L2H.Hot1 X.A p) (hpn : p ∈ X.pn) (hN : X.N.Nodup) (hi : L2H.PIH X tge iter wi) (ok : BlkOk X.N X.env.scope scope ow) (hg : ∀ (s : Shared) (H : Hp) (C : Addr) (cl : List (Str × Addr)) (fp : List Addr), PG (X.blkH s H scope (compEnvC scope cl C X.env) fp p) tge g)
    (ht : ∀ (s : Shared) (H : Hp) (C : Addr) (cl : List (Str × Addr)) (fp : List Addr), PTs (X.blkH s H scope (compEnvC scope cl C X.env) fp p) ifs (trCs T W0 (evC P cond) (purs cond)))
    (he : ∀ (s : Shared) (H : Hp) (C : Addr) (cl : List (Str × Addr)) (fp : List Addr), PE (X.blkH s H scope (compEnvC scope cl C X.env) fp p) e (TE' T W0 P elt))
    (hs : ∀ x, foldedSetIterable iter X.env x = pure x) (ho : ow.map (·.2) = tg.slots) (tgo : TgOk T g tg)
    (wr : ∀ σ H (R : It → Hp → Prop), TPs T W P (pur elt && purs cond) src σ H (fun vs H1 => ∃ cs F ds, RCs T H1 cs vs F ∧ Mi.itemsK it cs = some ds ∧ ItR T F ds R H1) → wi σ H R) :
    PE X (.ListComp e [⟨tge, iter, ifs, 0⟩] scope pos) (TE' T W P (.comp elt tg it src cond)) :=
  PE.imp (pe_lcH hot hpn hN hi ok hg ht he hs) fun σ H Q h => comp_rd ho tgo wr σ H Q h
/-! ### the handled exception is the one that is held -/
structure HotL (X : Cx) (T : Tb) (p : Addr × Obj) : Prop where
  hot : L2H.Hot1 X.A p
  pn : p ∈ X.pn
  lk : ∀ ae c, T.hx = some (ae, c) → ae = p.1 ∧ ∃ D, T.cls c = some D ∧ L2N.Zn (.ref D) none p.2 ∧ ∃ vs, p.2.data = .fields vs
theorem inst_at {D : Addr} {p : Addr × Obj} {h : Heap} (hget : h.get? p.1 = some p.2) (hz : Zc (.ref D) none p.2) (hf : ∃ vs, p.2.data = .fields vs) : PySem.W.InstAt h p.1 p.2 D none := by
  obtain ⟨a, oc, od, oda, osl⟩ := p
  obtain ⟨vs, hv⟩ := hf
  obtain ⟨h1, h2⟩ := hz
  dsimp only at h1 h2 hv hget
  subst h1 h2 hv
  exact ⟨hget, rfl, rfl, trivial⟩
theorem isE_hot {D : Addr} {p : Addr × Obj} (C : ExcC X.K D) (hm : p ∈ X.pn) (hz : Zc (.ref D) none p.2) (hf : ∃ vs, p.2.data = .fields vs) : CallR X (.builtin "isinstance") (rIsE X.K D p.1) := by
  intro pins s σ H xs us Q I r h
  obtain ⟨c, cv, b, e0, hcv, e, q⟩ := h
  subst e0
  cases r with
  | cons rx rr =>
    cases rr with
    | cons rt rr =>
      cases rr
      cases rx
      have ec := hcv _ rt
      subst ec
      exact PySem.W.kia_one (PySem.W.handS_kitx_exc C.hg C.hk C.hs C.hd C.ha C.hn C.ht C.hm) I.kIn (inst_at (I.pin p (List.mem_append_left _ hm)).1 hz hf) e (fun z => nomatch z) fun tk => ⟨.bl b, H, I.kept (t' := tk) fun _ _ z => z, rfl, q⟩
theorem isET_hot {D : Addr} {p : Addr × Obj} (C : ExcC X.K D) (hm : p ∈ X.pn) (hz : Zc (.ref D) none p.2) (hf : ∃ vs, p.2.data = .fields vs) : CallR X (.builtin "isinstance") (rIsET X.K D p.1) := by
  intro pins s σ H xs us Q I r h
  obtain ⟨tp, cs, cvs, b, e0, hsq, hcv, e, q⟩ := h
  subst e0
  cases r with
  | cons rx rr =>
    cases rr with
    | cons rt rr =>
      cases rr
      cases rx
      cases rt
      obtain ⟨its, r2, ⟨o2, e2, c2, n2, t2⟩, hz2⟩ := I.tuple hsq
      obtain ⟨cls, dct, dat, sl⟩ := o2
      simp only at c2 t2
      subst c2 t2
      have ec := hcv _ r2
      subst ec
      exact PySem.W.kia_tup (PySem.W.handS_kitx_exc C.hg C.hk C.hs C.hd C.ha C.hn C.ht C.hm) I.kIn (inst_at (I.pin p (List.mem_append_left _ hm)).1 hz hf) e2 e (fun z => nomatch z) fun tk => ⟨.bl b, H, I.kept (t' := tk) fun _ _ z => z, rfl, q⟩
theorem HotL.isE {T : Tb} {p : Addr × Obj} (L : HotL X T p) (ec : ∀ k A, T.cls k = some A → ExcC X.K A) : ∀ a c, T.hx = some (a, c) → ∃ D, T.cls c = some D ∧ CallR X (.builtin "isinstance") (rIsE X.K D a) ∧ CallR X (.builtin "isinstance") (rIsET X.K D a) := fun a c e => by
  obtain ⟨e1, D, h1, h2, h3⟩ := L.lk a c e
  subst e1
  exact ⟨D, h1, isE_hot (ec c D h1) L.pn h2.zc h3, isET_hot (ec c D h1) L.pn h2.zc h3⟩
/-! ### defs called there -/
/-- what a def promises there: the handled exception is the one that is held -/
structure FnX (P : Program) (w : World) (K : PySem.W.Frag) (mg : Str → Option Value) (base : Heap) (CX : CXT) (T : Tb) (k : Nat) (f : Addr) (fd : FuncData) (ps : List Str) (sp : Sp) : Prop where
  len : ∀ vs H Q E, sp vs H Q E → vs.length = ps.length
  run : ∀ (A : Around) (outer : List Env) (s : Shared) (H : Hp) (args : Args) (us : List Value) (vs : List V) (Q : VK) (E : XK) (p : Addr × Obj), L2H.RoomH k A → L2H.Hot1 A p →
    (∀ ae c, T.hx = some (ae, c) → ae = p.1 ∧ ∃ D, T.cls c = some D ∧ L2N.Zn (.ref D) none p.2 ∧ ∃ vs, p.2.data = .fields vs) → L2H.PinOk outer H s p → Env0 P w K mg base A outer s H → BindsTo s fd args (ps.zip us) → Vals vs us → sp vs H Q E →
    codeAny (model P w) A (.call (.ref f) args) (CR CX outer P w H s Q E) s
theorem fnX_of {CX : CXT} {P : Program} {w : World} {K : PySem.W.Frag} {mg : Str → Option Value} {base : Heap} {T : Tb} {k : Nat} {f : Addr} {name qual : Str} {params : Arguments} {body : List Stmt} {scope : Scope} {dV kV doc pm cdv ct oc : Value} {an od : Option Addr}
    {osl : Array (Option Value)} {N ps : List Str} {sp : Sp} (lk : K.lookup f = some ⟨oc, od, .func (PySem.W.fnOf name qual params body scope dV kV doc pm an cdv ct), osl⟩) (hcd : PySem.W.codeIn K cdv qual = true) (S : FnScope N ps scope)
    (len : ∀ vs H Q E, sp vs H Q E → vs.length = ps.length)
    (hb0 : ∀ (A : Around) (outer : List Env) (s : Shared) (H : Hp) (vs : List V) (Q : VK) (E : XK) (p : Addr × Obj), HotL (L2H.cxH CX P w K mg base N qual scope f cdv A outer s H E p) T p → L2H.RoomH k (A.deeper (envOfC qual scope s.heap.objs.size f cdv)) → sp vs H Q E →
      ∃ t, PSs (L2H.cxH CX P w K mg base N qual scope f cdv A outer s H E p) body t ∧ t { nx := fun _ Hz => Q .non Hz, rt := Q } (L2.start N vs) H) :
    FnX P w K mg base CX T (k + 1) f (PySem.W.fnOf name qual params body scope dV kV doc pm an cdv ct) ps sp := by
  refine ⟨len, fun A outer s H args us vs Q E p rm hot hl0 hpin e0 hbi r hsp => ?_⟩
  have ln := len _ _ _ _ hsp
  have kx : K.In s.heap := e0.mod.kin.keeps fun b o e => (e0.bs b o e).1
  have nl : s.heap.NoLimit := e0.mod.nolimit.keeps fun b o e => (e0.bs b o e).1
  have kinds : ∀ y ∈ ps.zip us, scope.names.lookup y.1 = some .local ∨ (scope.names.lookup y.1 = some .cell ∧ ((cellsFrom (s.heap.objs.size + 1) scope.names []).lookup y.1).isSome = true) := fun y hy => by
    rcases S.par y.1 (List.of_mem_zip (show (y.1, y.2) ∈ ps.zip us from hy)).1 with q | q
    · exact .inl q
    · exact .inr ⟨q, PySem.W.cellsFrom_some _ _ _ (.inl q)⟩
  refine codeAny_call_function rm.depth (kx _ _ lk) rfl S.co S.gen rfl (PySem.W.codeRec_of kx hcd) (hbi _ _ _ _ ?_)
  refine wpAny_newFunctionEnv_cells S.kind kinds fun env he s1 xc => ?_
  subst he
  refine ⟨nl.keeps xc.toInCall.keep, codeAny_func ?_⟩
  obtain ⟨t, ht, hq⟩ := hb0 A outer s H vs Q E p ⟨hot, List.mem_cons_self, hl0⟩ (rm.deeper _) hsp
  have I0 : Inv (L2H.cxH CX P w K mg base N qual scope f cdv A outer s H E p) [] (L2.start N vs) H s1 := L2H.inv_startH S hpin e0 ln r xc
  have fe : ∀ {τ : St} {G : Hp} {v : V} {u : Value} {sz : Shared}, Inv (L2H.cxH CX P w K mg base N qual scope f cdv A outer s H E p) [] τ G sz → RelV v u → Q v G → CE outer P w H s Q u sz :=
    fun {τ G v u sz} J rv q => ⟨v, G, J.os, J.bare, J.base, J.hok, rv, q⟩
  refine wpAny_mono (ht.run [] s1 (L2.start N vs) H _ I0 hq) (fun fl sz hz => ?_) fun e sz hz => hz
  cases fl with
  | next =>
    obtain ⟨τ, G, J, q⟩ := hz
    exact fe (v := V.non) (u := Value.none) J rfl q
  | ret u =>
    obtain ⟨v, τ, G, J, rv, q⟩ := hz
    exact fe J rv q
  | cont => exact hz.elim fun _ y => y.elim fun _ y => False.elim y.2
  | brk => exact hz.elim fun _ y => y.elim fun _ y => False.elim y.2
theorem FunD.okX {P : Program} {w : World} {K : PySem.W.Frag} {mg : Str → Option Value} {base : Heap} {x qual : Str} {params : Arguments} {body : List Stmt} {scope : Scope} {dvs : List V} {kws : List (Str × V)} {f : Addr} {fd : FuncData} {CX : CXT} {T : Tb} {N ps : List Str} {k : Nat} {sp : Sp}
    (F : FunD K x qual params body scope dvs kws f fd) (S : FnScope N ps scope) (len : ∀ vs H Q E, sp vs H Q E → vs.length = ps.length)
    (hb0 : ∀ (cdv : Value) (A : Around) (outer : List Env) (s : Shared) (H : Hp) (vs : List V) (Q : VK) (E : XK) (p : Addr × Obj), HotL (L2H.cxH CX P w K mg base N qual scope f cdv A outer s H E p) T p → L2H.RoomH k (A.deeper (envOfC qual scope s.heap.objs.size f cdv)) → sp vs H Q E →
      ∃ t, PSs (L2H.cxH CX P w K mg base N qual scope f cdv A outer s H E p) body t ∧ t { nx := fun _ Hz => Q .non Hz, rt := Q } (L2.start N vs) H) : FnX P w K mg base CX T (k + 1) f fd ps sp := by
  obtain ⟨oc, od, dV, kV, doc, pm, an, cdv, ct, osl, e0, lk, hcd, _, _⟩ := F.ex
  subst e0
  exact fnX_of lk hcd S len fun A outer s H vs Q E p => hb0 cdv A outer s H vs Q E p
theorem pe_callX {CX : CXT} {T : Tb} {k : Nat} {f : Addr} {fd : FuncData} {ps : List Str} {sp : Sp} {E : St → XK} {x : Str} {q pos : Pos} {e : Expr} {es : List Expr} {t : TA} {p : Addr × Obj} (F : FnX X.prog X.w X.K X.mg X.base CX T k f fd ps sp) (rm : L2H.RoomH k X.A) (L : HotL X T p) (hg : Gl X x) (hm : X.mg x = some (.ref f)) (hk : PySem.W.keepIn X.K (.ref f) = true) (hb : Binds X.K fd ps []) (hx : ∀ σ, PassesAt CX X σ (E σ))
    (ha : PA X (e :: es) t) (hdb : (x == ("__debug__" : Str)) = false) (he : starEach (e :: es) X.env = (false, eval e X.env) :: starEach es X.env) (hpl : (backTo pos (starEach es X.env)).any (·.1) = false) :
    PE X (.Call (.Name x q) (e :: es) [] pos) (tCallS sp E t) := by
  refine ⟨fun pins s σ H Q I h => wpAny_Call_Name_kw (ld_glob I hg hm ?_ hdb)⟩
  refine PySem.W.callWith_K (h₀ := X.base) I.ok.mod.kin hk (thn (ha.run pos pins s σ H _ I h) fun us s1 hv => ?_) he hpl
  obtain ⟨vs, H1, J, r, hsp⟩ := hv
  refine ⟨J.kIn, ?_⟩
  have hl : us.length = ps.length := r.length.symm.trans (F.len _ _ _ _ hsp)
  have b := hb s1 us J.kIn (by rw [List.append_nil]; exact hl)
  rw [List.append_nil] at b
  obtain ⟨g1, g2, g3, g4, g5⟩ := J.pin p (List.mem_append_left _ L.pn)
  have hpin : L2H.PinOk X.stack H1 s1 p := ⟨g1, g2, fun m => (List.mem_cons.mp (J.stkSub p.1 m)).elim g3 g4, g5⟩
  refine wpAny_call (codeAny_mono (F.run X.A X.stack s1 H1 ⟨us, []⟩ us vs Q (E σ) p rm L.hot L.lk hpin J.env0 b r hsp) fun rr sz hq => ?_)
  cases rr with
  | error ex => exact hx σ pins H1 s1 ex sz J hq
  | ok fl => cases fl with
    | ret u => exact J.after hq
    | _ => exact False.elim hq
/-- a def that is known at this depth, there -/
structure FnEH (X : Cx) (T : Tb) (P : Mi.Pr) (k f : Nat) (x : Str) : Prop where
  ok : ∃ (ad : Addr) (fd : FuncData) (ps : List Str), (∀ cs, P.call f cs ≠ .stuck → cs.length = ps.length) ∧ X.mg x = some (.ref ad) ∧ PySem.W.keepIn X.K (.ref ad) = true ∧ Binds X.K fd ps [] ∧ FnX X.prog X.w X.K X.mg X.base (L2N.CX X.prog X.w) T k ad fd ps (spM T (P.call f) ps.length (P.ios f))
theorem E_callH {T : Tb} {W : WX} {P : Mi.Pr} {k f : Nat} {x : Str} {ms : List ME} {e : Expr} {es : List Expr} {p pos : Pos} {q : Addr × Obj} (F : FnEH X T P k f x) (rm : L2H.RoomH k X.A) (L : HotL X T q) (hg : Gl X x) (hdb : (x == ("__debug__" : Str)) = false) (hx : ∀ σ, PassesAt (L2N.CX X.prog X.w) X σ (WE W σ))
    (ha : PA X (e :: es) (TGs' T W P ms)) (he : starEach (e :: es) X.env = (false, eval e X.env) :: starEach es X.env) (hpl : (backTo pos (starEach es X.env)).any (·.1) = false) : PE X (.Call (.Name x p) (e :: es) [] pos) (TE' T W P (.call f ms)) := by
  obtain ⟨ad, fd, ps, hl, hm, hk, hb, F⟩ := F.ok
  refine PE.imp (pe_callX (E := WE W) F rm L hg hm hk hb hx ha hdb he hpl) fun σ H Q ⟨e0, fp, R, hq⟩ => ?_
  rw [ev] at hq
  unfold tCallS
  refine TrG.step (sp0 R) hq fun as e1 vs H1 fp1 G h1 s ag tG hq => ?_
  exact call_rd hl s ag tG (fun z => ⟨evA_pur ms h1 z, z⟩) hq
end
end MiS
namespace MiS
open PySem PySem.Spec PyProof.Rows L2
open Mi (D C ME MS ev evs evP evA evAnd evOr evC bor pur purs Ag Fl evS evSs)
/-! ### a list walked where an exception is handled -/
section
variable {prog : Program} {w : World} {A : Around} {E : Value → Shared → Prop} {s : Shared}
theorem nextL_hot {ia la x1 : Addr} {i : Nat} {ys} {Q : Option Value → Shared → Prop} (hot : HotX.HotAt A x1 s.heap) (nx : x1 ≠ ia) (hit : s.heap.IsListIter ia la i) (hl : s.heap.IsList la ys) (hx : ys[i]? = none)
    (hQ : ∀ hz, (∀ b, b ≠ ia → ∀ o, s.heap.get? b = some o → hz.get? b = some o) → Q none { s with heap := hz }) : wpAny (model prog w) A (pyNext (.ref ia)) Q E s := by
  obtain ⟨oi, hoi, hci, hdi⟩ := id hit
  obtain ⟨ol, hol, _, nl, hdl⟩ := hl
  obtain ⟨hh, o1, vs1, g1, d1, c1⟩ := hot
  unfold pyNext
  refine wpAny_bind (wpAny_attempt (wpAny_callSpecial?_slot (name := Str.ofString "__next__") hit.typeIs slot_listiter_next (wpAny_call_entry slot_listiter_next hit.typeIs entry_listiter_next ?_ (args_listiter_next _))))
  show wpAny _ _ (field (.ref ia) 0 >>= _) _ _ s
  refine wpAny_bind (wpAny_field hoi hdi (x := .ref la) rfl ?_)
  show wpAny _ _ (if (Value.ref la == Value.none) = true then _ else _) _ _ s
  rw [if_neg (show ¬ ((Value.ref la == Value.none) = true) from Bool.false_ne_true)]
  show wpAny _ _ (field (.ref ia) 1 >>= _) _ _ s
  refine wpAny_bind (wpAny_field hoi hdi (x := .int i 0) rfl ?_)
  show wpAny _ _ (seqItems? (.ref la) >>= _) _ _ s
  refine wpAny_bind (wpAny_seqItems hol hdl ?_)
  simp only [Int.toNat_natCast, hx]
  refine wpAny_bind (wpAny_rule (wpAny_bind (wpAny_setField hoi hdi (by simp) ?_)))
  show wpAny _ _ (newExc (.type "StopIteration") [] >>= _) _ _ _
  refine wpAny_bind ?_
  simp only [newExc, newTuple]
  refine wpAny_bind (wpAny_newObj_type ?_ (by size_fits))
  refine wpAny_bind (m := firstArgMember _ _) (wpAny_of_eq (a := Value.none) (by first | rfl | (simp only [firstArgMember]; rfl)) ?_)
  refine wpAny_newObj_type ?_ (by size_fits)
  have k1 : (s.heap.update ia (Obj.mapFields (·.setIfInBounds 0 .none))).get? x1 = some o1 := by
    rw [Heap.get?_update_other _ _ (Ne.symm nx)]
    exact g1
  refine HotX.raiseNew_hot ⟨hh, o1, vs1, Heap.get?_push_of_some _ (Heap.get?_push_of_some _ k1), d1, c1⟩ (Nat.ne_of_lt (Heap.lt_size (Heap.get?_push_of_some _ k1))) (Heap.get?_push_size _ rfl) rfl (by first | (simp; done) | (simp; omega) | (simp only [Array.size_append]; simp; omega)) ?_
  refine wpAny_bind (wpAny_isInstance (T := "StopIteration") (b := true) ⟨_, Heap.get?_update_self _ (Heap.get?_push_size _ rfl) rfl, rfl⟩ isSubtype_stop ?_)
  refine wpAny_pure (hQ _ fun b nb o e => ?_)
  have e2 : (s.heap.update ia (Obj.mapFields (·.setIfInBounds 0 .none))).get? b = some o := by
    rw [Heap.get?_update_other _ _ (Ne.symm nb)]
    exact e
  rw [Heap.get?_update_other _ _ (Nat.ne_of_gt (Heap.lt_size (Heap.get?_push_of_some _ e2)))]
  exact Heap.get?_push_of_some _ (Heap.get?_push_of_some _ e2)
end
theorem turn_listX {P : Program} {w : World} {K : PySem.W.Frag} {tg : Expr} (a ia : Addr) : L2H.TurnH P w K tg (Itl K a) [ia] ia (fun i h => h.IsListIter ia a i) where
  mem := List.mem_cons_self
  obj := fun i h st b hb => by
    have e := List.mem_singleton.mp hb
    subst e
    obtain ⟨o, e, c, d⟩ := st
    exact ⟨o, e, fun v z => by rw [d] at z; cases z⟩
  keep := fun i h h' st k => st.at fun o e => k ia List.mem_cons_self o e
  item := by
    intro X e1 e2 e3 hc i pins s σ H E I hf st hg
    subst e1 e2 e3
    obtain ⟨xs, x, hq, hx⟩ := hg
    obtain ⟨its, rv, p, hz⟩ := I.list hq
    obtain ⟨u, hu, ru⟩ := rv.get hx
    obtain ⟨g0, g1, g2, g3, g4, g5⟩ := hf ia List.mem_cons_self
    refine wpAny_pyNext_list_item st p.isList (x := u) (by simpa using hu) fun hn st' sb => ?_
    have J : Inv X pins σ H { s with heap := hn } := I.turned (t' := s.toks) (fun b o hb e => (sb.2 b hb).trans e) g0 g1 g3 g4 g5
    obtain ⟨o, e, c, d⟩ := id st'
    exact ⟨u, rfl, go_of (s := { s with heap := hn }) e c d (by decide) ⟨x, H, J, ru, ⟨rfl, fun ys hy => by rw [I.list_inj hy hq]; exact hx⟩, st', fun b hb => (hf b hb).1⟩⟩
  done := by
    intro X e1 e2 e3 hc i pins s σ H E I hf st hg
    subst e1 e2 e3
    obtain ⟨xs, hq, hx⟩ := hg
    obtain ⟨its, rv, p, hz⟩ := I.list hq
    obtain ⟨g0, g1, g2, g3, g4, g5⟩ := hf ia List.mem_cons_self
    obtain ⟨q, ⟨hh, vs1, q1, q2⟩, hq2⟩ := hc
    have hp := (I.pin q (List.mem_append_left _ hq2)).1
    have hl := rv.length
    exact nextL_hot ⟨hh, q.2, vs1, hp, q1, q2⟩ (g5 q (List.mem_append_left _ hq2)) st p.isList (by simp; omega) fun hn eb => ⟨rfl, I.turned (t' := s.toks) (fun b o hb e => eb b hb o e) g0 g1 g3 g4 g5⟩
  self := fun _ _ _ _ _ st h => wpAny_pyIter_listiter st h
theorem pih_list {X : Cx} {tg l : Expr} {tl : TE} (hl : PE X l tl) : L2H.PIH X tg l (iList X.K tl) := by
  refine ⟨fun pins s σ H R I h => thn (hl.run pins s σ H _ I h) fun v s1 hv => ?_⟩
  obtain ⟨x, H1, J, r1, q1⟩ := hv
  obtain ⟨a, e, ⟨xs, hq⟩, q⟩ := q1
  subst e
  cases r1
  obtain ⟨its, rv, p, hz⟩ := J.list hq
  refine wpAny_pyIter_list p.isList ⟨s1.heap.objs.size, [s1.heap.objs.size], _, _, H1, rfl, J.kept (t' := s1.toks) fun b o e => Heap.get?_push_of_some _ e, turn_listX a _, ⟨_, Heap.get?_push_size _ rfl, rfl, rfl⟩, fun b hb => ?_, q⟩
  have e := List.mem_singleton.mp hb
  subst e
  exact J.fpOk (Nat.le_refl _) (J.hok.fresh (Nat.le_refl _))
/-- things of lists, walked there -/
def RItL (T : Tb) (te : TE) : TI := fun σ H R => te σ H fun v H1 => ∃ c F ds, RC T H1 c v F ∧ c.asL = some ds ∧ ItR T F ds R H1
theorem pih_seqL {X : Cx} {T : Tb} {tg l : Expr} {te : TE} (hK : T.K = X.K) (hl : PE X l te) : L2H.PIH X tg l (RItL T te) := by
  refine ⟨fun pins s σ H R I h => thn (hl.run pins s σ H _ I h) fun v s1 hv => ?_⟩
  obtain ⟨x, H1, J, r1, c, F, ds, rc, hx, q⟩ := hv
  have fr : ∀ b ∈ [s1.heap.objs.size], FpOk X pins H1 b := fun b hb => by
    have e := List.mem_singleton.mp hb
    subst e
    exact J.fpOk (Nat.le_refl _) (J.hok.fresh (Nat.le_refl _))
  obtain ⟨a, vs, G, rfl, hn, g, hG, st⟩ := asL_G rc hx
  cases r1
  obtain ⟨its, rv, p, hz⟩ := J.list (by rw [← hK]; exact (hG _ g).1)
  exact wpAny_pyIter_list p.isList ⟨s1.heap.objs.size, [s1.heap.objs.size], _, _, H1, rfl, J.kept (t' := s1.toks) fun b o e => Heap.get?_push_of_some _ e, turn_listX a _, ⟨_, Heap.get?_push_size _ rfl, rfl, rfl⟩, fr, q _ G (wk_list hK hn hG) g st⟩
section
variable {X : Cx} {T : Tb} {W : WX} {P : Mi.Pr} {IO : List Nat}
theorem S_forH {t : Mi.Tg} {it : Mi.It} {src : List ME} {b : List MS} {tge iter : Expr} {body : List Stmt} {wi : TI} {g : TG} {pos : Pos} {Qc : List C → Prop} (hp : PassesOwn (model X.prog X.w) X.A X.env X.xe) (hc : L2H.HotC X) (hi : L2H.PIH X tge iter wi) (hg : PG X tge g) (hb : PSs X body (TSs' T W IO P b))
    (hs : ∀ x, foldedSetIterable iter X.env x = pure x) (tgo : TgOk T g t) (hio : ∀ i ∈ IO, i ∉ t.slots) (hQ : ∀ e cs e1, Mi.evs P src e = .ok cs e1 → Qc cs)
    (wr : ∀ σ H (R : It → Hp → Prop), TAs T W P src σ H (fun vs H1 => ∃ cs F ds, RCs T H1 cs vs F ∧ Mi.itemsK it cs = some ds ∧ Qc cs ∧ ItR T F ds R H1) → wi σ H R) : PS X (.For tge iter body [] pos) (TS' T W IO P (.for_ t it src b)) := by
  refine PS.imp (L2H.ps_forH hp hc hi hg hb hs) fun D σ H ⟨e0, fp0, R0, hq⟩ => ?_
  rw [evS] at hq
  unfold tFor
  refine wr σ H _ ?_
  refine TrA.stepS (sp0 R0) hq fun cs e1 vs H1 fp1 F h1 V1 hq => ?_
  split at hq
  · rename_i ds hds
    refine ⟨cs, F, ds, V1.rc, hds, hQ _ _ _ h1, ?_⟩
    intro J G wk g1 stab
    let f : Mi.D → Mi.Env → Mi.Res Fl := fun d e => match Mi.bindTg t (.val d) e with
        | some e => evSs P b e
        | none => .stuck
    refine for_it wk (fun i σi Hi => ∃ e fp, SpS T IO σ H (own fp0) σi Hi e fp ∧ FinS T W IO σ H (own fp0) D (Mi.forLoop f (ds.drop i) e) ∧ G Hi ∧ ∀ a ∈ F, (∃ u, Hi a = some u) ∧ ¬ own fp a) ?_ (fun i σi Hi _ ⟨_, _, _, _, g, _⟩ => g) ?_ ?_
    · exact ⟨e1, fp1, SpS.ofE V1.sp, hq, g1, fun a m => ⟨by obtain ⟨u, eu, _⟩ := RCs.cell V1.rc a m; exact ⟨u, eu⟩, V1.tm.out a m⟩⟩
    · intro i x σi Hi H' hlt ⟨e, fp, s, hq, gi, hF⟩ ⟨sy, ky, d, hd, rd⟩
      rw [List.drop_eq_getElem_cons hlt] at hq
      have hdd : ds[i] = d := by rw [List.getElem?_eq_getElem hlt] at hd; exact Option.some.inj hd
      rw [hdd, Mi.forLoop] at hq
      cases hbt : Mi.bindTg t (.val d) e with
      | none => simp only [f, hbt] at hq; exact hq.elim
      | some e2 =>
        have hq' : FinS T W IO σ H (own fp0) D ((evSs P b e2).bind fun o e => match o with | .rt c => .ok (.rt c) e | _ => Mi.forLoop f (ds.drop (i + 1)) e) := by
          simp only [f, hbt] at hq
          exact hq
        have s1 : SpS T IO σ H (own fp0) σi H' e fp := ⟨s.sp.laid ky sy, s.io⟩
        refine tgo σi H' e e2 fp (.val d) x [] _ s1.sp.re (.val rd) .nil (fun _ m => nomatch m) hbt fun σ2 fp2 re2 ho2 hw2 => ?_
        have s2 : SpS T IO σ H (own fp0) σ2 H' e2 fp2 := ⟨s1.sp.re' re2 (fun a h => (ho2 a h).elim id fun m => nomatch m), fun i m => by
          rw [← s1.io i m, ← wipe_out (hio i m), hw2 t.slots fun i m => m, wipe_out (hio i m)]⟩
        have g2 : G H' := stab _ _ gi ky fun a m u eu => sy a u eu fun z => z
        have hF2 : ∀ a ∈ F, (∃ u, H' a = some u) ∧ ¬ own fp2 a := fun a m => by
          obtain ⟨⟨u, eu⟩, no⟩ := hF a m
          exact ⟨⟨u, sy a u eu fun z => z⟩, fun z => (ho2 a z).elim no fun m => nomatch m⟩
        refine ⟨e2, fp2, re2, fin_body s2 hq' fun e' σ' H'' fp' x hq => ⟨e', fp', s2.trans x, hq, ?_, fun a m => ?_⟩⟩
        · exact stab _ _ g2 x.sp.keep fun a m u eu => x.sp.stp a u eu (hF2 a m).2
        · obtain ⟨⟨u, eu⟩, no⟩ := hF2 a m
          refine ⟨⟨u, x.sp.stp a u eu no⟩, fun z => ?_⟩
          rcases x.sp.sub a z with z | z
          · exact no z
          · rw [eu] at z; cases z
    · intro σn Hn ⟨e, fp, s, hq, _, _⟩
      rw [List.drop_length, Mi.forLoop] at hq
      exact hq σn Hn fp s
  · exact hq.elim
def LstC (cs : List C) : Prop := (∃ c, cs = [.lst c]) ∨ ∃ ds, cs = [.val (.lst ds)]
theorem evs_lst {ms : List ME} {e e1 : Mi.Env} {cs : List C} (h : Mi.evs P [.lst ms] e = .ok cs e1) : LstC cs := by
  rw [Mi.evs, ev] at h
  cases h1 : Mi.evs P ms e with
  | ok c e' =>
    rw [h1] at h
    simp only [Mi.Res.bind, Mi.leak, bor, Bool.false_and, Bool.false_eq_true, if_false, Mi.evs] at h
    cases h
    exact .inl ⟨c, rfl⟩
  | exc _ _ => rw [h1] at h; cases h
  | stuck => rw [h1] at h; cases h
theorem evs_frz {ms : List ME} {e e1 : Mi.Env} {cs : List C} (h : Mi.evs P [.frz (.lst ms)] e = .ok cs e1) : LstC cs := by
  rw [Mi.evs, ev, ev] at h
  cases h1 : Mi.evs P ms e with
  | ok c e' =>
    rw [h1] at h
    simp only [Mi.Res.bind, Mi.leak, bor, Mi.C.isVal, Bool.not_true, Bool.and_false, Bool.false_and, Bool.false_eq_true, if_false, Mi.evs] at h
    cases h
    exact .inr ⟨Mi.C.frzs c, rfl⟩
  | exc _ _ => rw [h1] at h; cases h
  | stuck => rw [h1] at h; cases h
theorem itR_L {src : ME} (σ : L2.St) (H : Hp) (R : It → Hp → Prop) (h : TAs T W P [src] σ H (fun vs H1 => ∃ cs F ds, RCs T H1 cs vs F ∧ Mi.itemsK .seq cs = some ds ∧ LstC cs ∧ ItR T F ds R H1)) : RItL T (tOne (TAs T W P [src])) σ H R := by
  refine mono_A σ H _ _ (fun vs H1 z v e => ?_) h
  obtain ⟨cs, F, ds, rc, hi, hc, hr⟩ := z
  subst e
  unfold Mi.itemsK at hi
  split at hi
  · rcases hc with ⟨c, hc⟩ | ⟨ds', hc⟩
    · subst hc
      exact ⟨.lst c, F, ds, by
        cases rc with
        | cons h1 r1 => cases r1; rw [List.append_nil]; exact h1, hi, hr⟩
    · subst hc
      exact ⟨.val (.lst ds'), F, ds, by
        cases rc with
        | cons h1 r1 => cases r1; rw [List.append_nil]; exact h1, hi, hr⟩
  · cases hi
end
end MiS
namespace MiS
open PySem PySem.Spec PyProof.Rows L2
open Mi (D C ME MS ev evs evP evA evAnd evOr evC bor pur purs Ag Fl evS evSs)
section
variable {X : Cx} {T : Tb} {W : WX} {P : Mi.Pr}
theorem E_call0 {k f : Nat} {x : Str} {p pos : Pos} (F : FnE X T P k f x) (hr : Room k X.A) (hg : Gl X x) (hdb : (x == ("__debug__" : Str)) = false) (hx : ∀ σ, PassesAt (L2N.CX X.prog X.w) X σ (WE W σ)) : PE X (.Call (.Name x p) [] [] pos) (TE' T W P (.call f [])) := by
  obtain ⟨ad, fd, ps, hl, hm, hk, hb, F⟩ := F.ok
  refine PE.imp (t := tCallS (spM T (P.call f) ps.length (P.ios f)) (WE W) tNil) ⟨fun pins s σ H Q I h => wpAny_Call_Name_kw (ld_glob I hg hm ?_ hdb)⟩ fun σ H Q ⟨e0, fp, R, hq⟩ => ?_
  · exact PySem.W.callWith_K0 I.kIn hk (run_fnS (us := []) F hr hb (hx σ) I .nil h)
  · rw [ev] at hq
    unfold tCallS tNil
    have h1 : Mi.evA P [] e0 = .ok [] e0 := by rw [evA]
    rw [h1] at hq
    exact call_rd (G := []) hl (sp0 R) .nil (Tmp.nil) (fun z => ⟨rfl, z⟩) hq
end
end MiS
namespace MiS
open PySem PySem.Spec PyProof.Rows L2
open Mi (D C ME MS ev evs evP evA evAnd evOr evC bor pur purs Ag Fl evS evSs)
/-! ### what is known of a place -/
structure Bk where
  N : List Str
  gname : Nat → Option Str
  fname : Nat → Option Str
  cname : Nat → Option Str
  cm : Bool
  hname : Nat → Option Str
  hs : Bool
def visB (sc : Scope) (x : Str) : Bool := match sc.names.lookup x with
  | some .local => true
  | some .cell => true
  | some .free => true
  | _ => false
def locB (sc : Scope) (x : Str) : Bool := match sc.names.lookup x with
  | some .local => true
  | some .cell => true
  | _ => false
def glbB (sc : Scope) (x : Str) : Bool := sc.names.lookup x == some .globalImplicit
def dbgB (x : Str) : Bool := !(x == ("__debug__" : Str)) && !(x == ("__classdict__" : Str)) && !(x == ("__name__" : Str))
def bltNames : List Str := ["len", "int", "str", "abs", "max", "min", "sum", "any", "all", "sorted", "list", "tuple", "bool", "isinstance", "range", "enumerate", "zip", "ValueError"]
structure GE (X : Cx) (T : Tb) (W : WX) (P : Mi.Pr) (B : Bk) (k : Nat) (sc : Scope) : Prop where
  hK : T.K = X.K
  hu : X.A.units + 64 < cLine
  hc : B.cm = true → X.calm = true
  hN : X.N = B.N
  nd : X.N.Nodup
  vis : ∀ x, visB sc x = true → Vis X.env.scope x
  loc : ∀ x, locB sc x = true → L2.Loc X.env.scope x ∧ (X.fn x = true ∨ X.env.scope.names.lookup x = some .local)
  cf : ∀ x, (sc.names.lookup x = some .cell ∨ sc.names.lookup x = some .free) → (X.env.scope.names.lookup x = some .cell ∨ X.env.scope.names.lookup x = some .free)
  glb : ∀ x, glbB sc x = true → Gl X x
  glob : ∀ n x, B.gname n = some x → ∃ v u, X.mg x = some u ∧ RelV v u ∧ ∀ H, RD T H (P.glob n) v
  blt : ∀ x ∈ bltNames, X.mg x = none
  fn : B.cm = true → ∀ f x, B.fname f = some x → FnE X T P k f x
  hr : B.cm = true → Room k X.A
  hx : (B.cm = true ∨ B.hs = true) → ∀ σ, PassesAt (L2N.CX X.prog X.w) X σ (WE W σ)
  cls : ∀ c x, B.cname c = some x → ∃ A, T.cls c = some A ∧ X.mg x = some (.ref A)
  kit : ∀ c d A D, T.cls c = some A → T.cls d = some D → PySem.W.kitOne X.K (.ref A) (.ref D) = some (P.sub c d)
  kitV : ∀ c A, T.cls c = some A → PySem.W.kitOne X.K (.ref A) (.type "ValueError") = some (P.sub c 0)
  excC : ∀ k A, T.cls k = some A → ExcC X.K A
  cs : B.cm = true → B.hs = false
  hot : B.hs = true → ∃ p, HotL X T p
  fnh : ∀ h f x, B.hname f = some x → FnEH X (T.hold h) P k f x
  hrh : B.hs = true → L2H.RoomH k X.A
theorem relabel_lookup {scope : Scope} {env : Env} (x : Str) : (relabel scope env).names.lookup x = (scope.names.lookup x).map fun k => if (k == NameKind.free && env.scope.kind == .function && env.kindOf x == some .cell) then NameKind.cell else k := by
  unfold relabel
  show List.lookup x (scope.names.map _) = _
  induction scope.names with
  | nil => rfl
  | cons p r ih =>
    obtain ⟨n, k⟩ := p
    rw [List.map_cons]
    by_cases h : x = n
    · subst h
      simp only [List.lookup_cons, beq_self_eq_true, Option.map_some]
      split <;> simp_all [List.lookup_cons]
    · have hb : (x == n) = false := beq_eq_false_iff_ne.mpr h
      simp only [List.lookup_cons, hb]
      rw [← ih]
      split <;> simp [List.lookup_cons, hb]
section
variable {X : Cx} {T : Tb} {W : WX} {P : Mi.Pr} {B : Bk} {k : Nat} {sc : Scope}
theorem GE.blk (hcm : B.cm = true) (G : GE X T W P B k sc) (scope : Scope) (s : Shared) (H : Hp) (Ca : Addr) (cl : List (Str × Addr)) (fp : List Addr) : GE (X.blk s H scope (compEnvC scope cl Ca X.env) fp) T W0 P B k scope where
  hK := G.hK
  hu := G.hu
  hc := G.hc
  hN := G.hN
  nd := G.nd
  vis := fun x h => by
    show Vis (relabel scope X.env) x
    unfold Vis
    rw [relabel_lookup]
    unfold visB at h
    split at h <;> first | (rename_i e; rw [e]; first | (left; rfl) | (right; left; rfl) | (simp only [Option.map_some]; split <;> simp)) | cases h
  loc := fun x h => by
    show L2.Loc (relabel scope X.env) x ∧ ((scope.names.lookup x == some .cell) = true ∨ (relabel scope X.env).names.lookup x = some .local)
    unfold L2.Loc
    rw [relabel_lookup]
    unfold locB at h
    split at h
    · rename_i e; rw [e]; exact ⟨.inl rfl, .inr rfl⟩
    · rename_i e; rw [e]; exact ⟨.inr rfl, .inl rfl⟩
    · cases h
  cf := fun x h => by
    show (relabel scope X.env).names.lookup x = some .cell ∨ (relabel scope X.env).names.lookup x = some .free
    rw [relabel_lookup]
    rcases h with e | e
    · rw [e]; left; rfl
    · rw [e]; simp only [Option.map_some]; split <;> simp
  glb := fun x h => by
    unfold glbB at h
    show (relabel scope X.env).names.lookup x = some .globalImplicit
    rw [relabel_lookup, beq_iff_eq.mp h]
    rfl
  glob := G.glob
  blt := G.blt
  fn := fun z f x h => by
    obtain ⟨ad, fd, ps, r⟩ := (G.fn z f x h).ok
    exact ⟨ad, fd, ps, r⟩
  hr := G.hr
  cls := G.cls
  kit := G.kit
  kitV := G.kitV
  excC := G.excC
  cs := G.cs
  hot := fun z => by rw [G.cs hcm] at z; cases z
  fnh := fun h f x e => by
    obtain ⟨ad, fd, ps, r⟩ := (G.fnh h f x e).ok
    exact ⟨ad, fd, ps, r⟩
  hrh := G.hrh
  hx := fun _ σ pins H s e s' I c => by
    obtain ⟨_, _, _, _, _, _, _, _, _, _, _, _, w⟩ := c
    exact w.elim
theorem GE.blkH (hhs : B.hs = true) (G : GE X T W P B k sc) {p : Addr × Obj} (L : HotL X T p) (scope : Scope) (s : Shared) (H : Hp) (Ca : Addr) (cl : List (Str × Addr)) (fp : List Addr) : GE (X.blkH s H scope (compEnvC scope cl Ca X.env) fp p) T W0 P B k scope where
  hK := G.hK
  hu := G.hu
  hc := G.hc
  hN := G.hN
  nd := G.nd
  vis := fun x h => by
    show Vis (relabel scope X.env) x
    unfold Vis
    rw [relabel_lookup]
    unfold visB at h
    split at h <;> first | (rename_i e; rw [e]; first | (left; rfl) | (right; left; rfl) | (simp only [Option.map_some]; split <;> simp)) | cases h
  loc := fun x h => by
    show L2.Loc (relabel scope X.env) x ∧ ((scope.names.lookup x == some .cell) = true ∨ (relabel scope X.env).names.lookup x = some .local)
    unfold L2.Loc
    rw [relabel_lookup]
    unfold locB at h
    split at h
    · rename_i e; rw [e]; exact ⟨.inl rfl, .inr rfl⟩
    · rename_i e; rw [e]; exact ⟨.inr rfl, .inl rfl⟩
    · cases h
  cf := fun x h => by
    show (relabel scope X.env).names.lookup x = some .cell ∨ (relabel scope X.env).names.lookup x = some .free
    rw [relabel_lookup]
    rcases h with e | e
    · rw [e]; left; rfl
    · rw [e]; simp only [Option.map_some]; split <;> simp
  glb := fun x h => by
    unfold glbB at h
    show (relabel scope X.env).names.lookup x = some .globalImplicit
    rw [relabel_lookup, beq_iff_eq.mp h]
    rfl
  glob := G.glob
  blt := G.blt
  fn := fun z f x h => by
    obtain ⟨ad, fd, ps, r⟩ := (G.fn z f x h).ok
    exact ⟨ad, fd, ps, r⟩
  hr := G.hr
  cls := G.cls
  kit := G.kit
  kitV := G.kitV
  excC := G.excC
  cs := G.cs
  hot := fun _ => ⟨p, L.hot, List.mem_cons_self, L.lk⟩
  fnh := fun h f x e => by
    obtain ⟨ad, fd, ps, r⟩ := (G.fnh h f x e).ok
    exact ⟨ad, fd, ps, r⟩
  hrh := G.hrh
  hx := fun _ σ pins H s e s' I c => by
    obtain ⟨_, _, _, _, _, _, _, _, _, _, _, _, w⟩ := c
    exact w.elim
theorem GE.isE (G : GE X T W P B k sc) (h : B.hs = true) : ∀ a c, T.hx = some (a, c) → ∃ D, T.cls c = some D ∧ CallR X (.builtin "isinstance") (rIsE X.K D a) ∧ CallR X (.builtin "isinstance") (rIsET X.K D a) := by
  obtain ⟨p, L⟩ := G.hot h
  exact L.isE G.excC
/-! ### what the text of an expression is -/
def nst : Expr → Bool
  | .Starred _ _ => false
  | _ => true
theorem star_of {ea : Expr} {er : List Expr} {env : Env} (h : nst ea = true) : starEach (ea :: er) env = (false, eval ea env) :: starEach er env := by
  cases ea <;> first | rfl | cases h
theorem plain_of {env : Env} {pos : Pos} : ∀ {es : List Expr}, es.all nst = true → (backTo pos (starEach es env)).any (·.1) = false
  | [], _ => rfl
  | e :: es, h => by
    rw [List.all_cons, Bool.and_eq_true] at h
    rw [star_of h.1]
    show ((false, _) :: backTo pos (starEach es env)).any (·.1) = false
    rw [List.any_cons, plain_of h.2]
    rfl
theorem all_of {env : Env} {pos : Pos} : ∀ {es : List Expr}, es.all nst = true → (backTo pos (starEach es env)).all (fun x => !x.1) = true
  | [], _ => rfl
  | e :: es, h => by
    rw [List.all_cons, Bool.and_eq_true] at h
    rw [star_of h.1]
    show ((false, _) :: backTo pos (starEach es env)).all (fun x => !x.1) = true
    rw [List.all_cons, all_of h.2]
    rfl
theorem few_of {env : Env} {cpos : Pos} {es : List Expr} (h : es.all nst = true) (hn : es.length < 29) : ((backTo cpos (starEach es env)).all (fun x => !x.1) && (backToKw cpos (keywordEach [] env)).all (fun x => x.1.isSome)
      && decide (es.length + ([] : List Keyword).length + (if ([] : List Keyword).isEmpty then 0 else 1) < 30)) = true := by
  rw [all_of h]
  have : decide (es.length + ([] : List Keyword).length + (if ([] : List Keyword).isEmpty then 0 else 1) < 30) = true := by
    apply decide_eq_true
    show es.length + 0 + 0 < 30
    omega
  rw [this]
  rfl
def notCall : Expr → Bool
  | .Call (.Name _ _) [] [] _ => false
  | _ => true
theorem base_of {e : Expr} {a : Str} {env : Env} (h : notCall e = true) : attributeBase e a env (eval e env) = eval e env := by
  unfold attributeBase
  split
  · cases h
  · rfl
def notSlice : Expr → Bool
  | .Slice _ _ _ _ => false
  | _ => true
theorem plainIx_of {e : Expr} (h : notSlice e = true) : PlainIx e := fun o i => by
  cases e <;> first | rfl | cases h
def notSet : Expr → Bool
  | .Set _ _ _ => false
  | _ => true
theorem fold_of {e : Expr} {env : Env} (h : notSet e = true) (x : Value) : foldedSetIterable e env x = pure x := by
  cases e <;> first | rfl | cases h
theorem marks_of {op : CmpOp} {e : Expr} (h : notSet e = true) : behindInMarks op e = false := by
  cases e <;> first | rfl | cases h
def notComp : Expr → Bool
  | .ListComp _ _ _ _ => false
  | .SetComp _ _ _ _ => false
  | .DictComp _ _ _ _ _ => false
  | _ => true
theorem swap_of {e : Expr} {t : Option Expr} {l : Nat} {env : Env} (h : notComp e = true) : swapsWith e t l env = pure false := by
  cases e <;> first | rfl | cases h
def nmB (B : Bk) (sc : Scope) (i : Nat) (e : Expr) : Bool := match e with
  | .Name x _ => B.N[i]? == some x && visB sc x && dbgB x
  | _ => false
theorem nm_of (G : GE X T W P B k sc) {i : Nat} {e : Expr} (h : nmB B sc i e = true) : PE X e (tVar i) ∧ nst e = true ∧ notCall e = true ∧ notSet e = true ∧ ∀ whole, isTrue e X.env whole = (do let v ← whole; standAt e.pos; holding [v] (truthy v)) := by
  unfold nmB at h
  split at h
  · rename_i x p
    simp only [Bool.and_eq_true, beq_iff_eq, dbgB, Bool.not_eq_true'] at h
    exact ⟨pe_var (by rw [G.hN]; exact h.1.1) (G.vis x h.1.2) h.2.1.1 h.2.1.2, rfl, rfl, rfl, fun _ => rfl⟩
  · cases h
def litB : Mi.D → Expr → Bool
  | .int i, .Constant (.int j) _ _ => i == j
  | .str s, .Constant (.str x) _ _ => x.cps.toList == s && okS s
  | .bl b, .Constant (.bool c) _ _ => b == c
  | .non, .Constant .none _ _ => true
  | _, _ => false
theorem lit_of {d : Mi.D} {e : Expr} (h : litB d e = true) : ∃ v, PE X e (tC v) ∧ (∀ H, RD T H d v) ∧ ∀ whole, isTrue e X.env whole = (do let v ← whole; standAt e.pos; holding [v] (truthy v)) := by
  unfold litB at h
  split at h
  · rename_i i j _ _
    rw [beq_iff_eq] at h; subst h
    exact ⟨_, pe_int, fun H => .int _, fun _ => rfl⟩
  · rename_i s x _ _
    simp only [Bool.and_eq_true, beq_iff_eq] at h
    obtain ⟨h1, h2⟩ := h
    subst h1
    exact ⟨_, pe_str, fun H => .str _ h2, fun _ => rfl⟩
  · rename_i b c _ _
    rw [beq_iff_eq] at h; subst h
    exact ⟨_, pe_bl, fun H => .bl _, fun _ => rfl⟩
  · exact ⟨_, pe_non, fun H => .non, fun _ => rfl⟩
  · cases h
def biN : Mi.Bi → Str
  | .len => "len" | .int => "int" | .str => "str" | .abs => "abs" | .max => "max" | .min => "min" | .sum => "sum" | .any => "any" | .all => "all" | .sorted => "sorted" | .list => "list" | .tuple => "tuple" | .lenset => "" | .sortset => "" | .listrng => "" | .listzip => ""
def tyNm : Mi.Ty → Str
  | .int => "int" | .bool => "bool" | .str => "str" | .tuple => "tuple" | .list => "list" | .cls _ => ""
end
end MiS
namespace MiS
open PySem PySem.Spec PyProof.Rows L2
open Mi (D C ME MS ev evs evP evA evAnd evOr evC bor pur purs Ag Fl evS evSs)
/-! ### whether an expression is the text's -/
def tgB (B : Bk) (sc : Scope) : Mi.Tg → Expr → Bool
  | .nm i, .Name x _ => B.N[i]? == some x && locB sc x
  | .tp is, .Tuple es _ _ => B.cm && decide (is.length = es.length) && (is.zip es).all fun p => match p.2 with
    | .Name x _ => B.N[p.1]? == some x && locB sc x
    | _ => false
  | _, _ => false
def tgOwn (B : Bk) (t : Mi.Tg) : List (Str × Nat) := t.slots.filterMap fun i => (B.N[i]?).map fun x => (x, i)
def isTupE : Expr → Bool
  | .Tuple _ _ _ => true
  | _ => false
/-- which method, of how many arguments -/
def mtB : Mi.Mt → Str → Nat → Bool
  | .join, nm, n => (nm == ("join" : Str)) && n == 1
  | .index, nm, n => (nm == ("index" : Str)) && n == 1
  | .get, nm, n => (nm == ("get" : Str)) && (n == 1 || n == 2)
  | _, _, _ => false
def itG (it : Mi.It) (b : Bool) : Bool := match it with
  | .seq => true
  | .items => true
  | _ => b
/-- what an iteration is of -/
def itArgs (it : Mi.It) (tge iter : Expr) : Option (Str × List Expr) := match it with
  | .seq => if nst iter then some ("", [iter]) else none
  | .rng => (match iter with | .Call (.Name x _) [a] [] _ => if x == ("range" : Str) then some (x, [a]) else none | .Call (.Name x _) [a, b] [] _ => if x == ("range" : Str) then some (x, [a, b]) else none | _ => none)
  | .enum => (match iter with | .Call (.Name x _) [a] [] _ => if x == ("enumerate" : Str) && isTupE tge then some (x, [a]) else none | _ => none)
  | .zip => (match iter with | .Call (.Name x _) [a, b] [] _ => if x == ("zip" : Str) && isTupE tge then some (x, [a, b]) else none | _ => none)
  | .items => (match iter with | .Call (.Attribute ea nm apos) [] [] cpos => if nm == ("items" : Str) && isTupE tge && notCall ea && (apos.endLine == cpos.line) && nst ea then some ("", [ea]) else none | _ => none)
/-- a list display -/
def lstM : List ME → Bool
  | [.lst _] => true
  | [.frz (.lst _)] => true
  | _ => false
/-- range of one number -/
def rng1 : Expr → Bool
  | .Call _ [_] [] _ => true
  | _ => false
/-- the name of a class of exceptions -/
def excB (B : Bk) (c : Nat) (x : Str) : Bool := if c == 0 then x == ("ValueError" : Str) else B.cname c == some x && dbgB x
def tysB (B : Bk) (sc : Scope) : List Mi.Ty → List Expr → Bool
  | [], [] => true
  | .cls c :: ts, .Name x _ :: es => B.cname c == some x && dbgB x && glbB sc x && tysB B sc ts es
  | _, _ => false
/-- a display of a dict of constants -/
def dctB : List ME → List ME → List (Option Expr) → List Expr → Bool
  | [], [], [], [] => true
  | .k dk :: ks, .k dv :: vs, some ek :: keys, ev :: values => keyB dk && litB dk ek && litB dv ev && dctB ks vs keys values
  | _, _, _, _ => false
def kdsOf : List ME → List D
  | .k d :: ks => d :: kdsOf ks
  | _ => []
mutual
def chE (B : Bk) (sc : Scope) : ME → Expr → Bool
  | .var i => fun e => nmB B sc i e
  | .mvar i => fun e => nmB B sc i e
  | .fvar i => fun e => nmB B sc i e
  | .frz a => fun e => chE B sc a e
  | .lk _ a => fun e => match e with
    | .Call _ _ _ _ => !bor a && chE B sc a e
    | _ => false
  | .k d => fun e => litB d e
  | .g n => fun e => match e with
    | .Name x _ => B.gname n == some x && glbB sc x && dbgB x
    | _ => false
  | .tup es => fun e => match e with
    | .Tuple eas _ _ => decide (es.length ≤ 1000) && chL B sc es eas
    | _ => false
  | .lst es => fun e => match e with
    | .List eas _ => decide (es.length ≤ 1000) && chL B sc es eas
    | _ => false
  | .dct _ ks vs => fun e => match e with
    | .Dict [] [] _ => ks.isEmpty && vs.isEmpty
    | .Dict keys values _ => dctB ks vs keys values && decide (keys.length ≤ 15) && nodK [] (kdsOf ks) && !keys.isEmpty
    | _ => false
  | .pop p k => fun e => match p, e with
    | .var i, .Call (.Attribute eo nm apos) [] [] cpos => k.isEmpty && (nm == ("pop" : Str)) && nmB B sc i eo && (apos.endLine == cpos.line)
    | _, _ => false
  | .bin o a b => fun e => match e with
    | .BinOp ea op eb _ => decide (op = trB o) && chE B sc a ea && chE B sc b eb
    | _ => false
  | .neg a => fun e => match e with
    | .UnaryOp .USub ea _ => chE B sc a ea
    | _ => false
  | .cmp o a b => fun e => match e with
    | .Compare ea [op] [eb] _ => decide (op = trC o) && notSet eb && chE B sc a ea && chE B sc b eb
    | _ => false
  | .chn o p a b c => fun e => match e with
    | .Compare ea [op, op'] [eb, ec] _ => decide (op = trC o) && decide (op' = trC p) && notSet eb && notSet ec && chE B sc a ea && chE B sc b eb && chE B sc c ec
    | _ => false
  | .and es => fun e => match e with
    | .BoolOp .And eas _ => !es.isEmpty && chL B sc es eas
    | _ => false
  | .or es => fun e => match e with
    | .BoolOp .Or eas _ => !es.isEmpty && chL B sc es eas
    | _ => false
  | .not a => fun e => match e with
    | .UnaryOp .Not ea _ => chE B sc a ea
    | _ => false
  | .ite c a b => fun e => match e with
    | .IfExp ec ea eb _ => chE B sc c ec && chE B sc a ea && chE B sc b eb
    | _ => false
  | .sub a b => fun e => match e with
    | .Subscript ea eb _ => notSlice eb && chE B sc a ea && chE B sc b eb
    | _ => false
  | .slL a b => fun e => match e with
    | .Subscript ea (.Slice (some eb) none none _) _ => chE B sc a ea && chE B sc b eb
    | _ => false
  | .slH a b => fun e => match e with
    | .Subscript ea (.Slice none (some eb) none _) _ => chE B sc a ea && chE B sc b eb
    | _ => false
  | .slB a b c => fun e => match e with
    | .Subscript ea (.Slice (some eb) (some ec) none _) _ => chE B sc a ea && chE B sc b eb && chE B sc c ec
    | _ => false
  | .rev a => fun e => match e with
    | .Subscript ea (.Slice none none (some (.UnaryOp .USub (.Constant (.int 1) _ _) _)) _) _ => chE B sc a ea
    | _ => false
  | .call f args => fun e => match e with
    | .Call (.Name x _) (e1 :: es) [] _ => ((B.cm && B.fname f == some x) || (B.hs && B.hname f == some x)) && glbB sc x && dbgB x && chA B sc args (e1 :: es)
    | .Call (.Name x _) [] [] _ => B.cm && B.fname f == some x && glbB sc x && dbgB x && args.isEmpty
    | _ => false
  | .bi b args => fun e => match e with
    | .Call (.Name x _) (e1 :: es) [] _ => ((B.cm || (B.hs && !calmBi b)) && okBi b && (x == biN b) && glbB sc x && chL B sc args (e1 :: es)) || (match e1, es with
      | .Call (.Name y _) [a1, a2] [] _, [] => B.cm && (b == .listzip) && (x == ("list" : Str)) && (y == ("zip" : Str)) && glbB sc x && glbB sc y && chL B sc args [a1, a2]
      | _, _ => false)
    | _ => false
  | .mt m args => fun e => match e with
    | .Call (.Attribute ea nm apos) ebs [] pos => mtB m nm ebs.length && notCall ea && (apos.endLine == pos.line) && chL B sc args (ea :: ebs)
    | _ => false
  | .isi a tys => fun e => match tys, e with
    | [t], .Call (.Name y _) [ea, .Name x _] [] _ => (y == ("isinstance" : Str)) && glbB sc y && (match t with | .cls c => B.hs && excB B c x | _ => x == tyNm t) && glbB sc x && nst ea && chE B sc a ea
    | tys, .Call (.Name y _) [ea, .Tuple es _ _] [] _ => (y == ("isinstance" : Str)) && glbB sc y && B.hs && decide (2 ≤ tys.length) && decide (tys.length ≤ 100) && tysB B sc tys es && nst ea && chE B sc a ea
    | _, _ => false
  | .comp elt tg it src cond => fun e => match e with
    | .ListComp ee [⟨tge, iter, ifs, ia⟩] scope _ => (B.cm || (B.hs && it == .rng && rng1 iter)) && (ia == 0) && notSet iter && blkC B.N sc scope (tgOwn B tg) && decide ((tgOwn B tg).map (·.2) = tg.slots) && tgB B scope tg tge && chE B scope elt ee &&
        decide (ifs.length ≤ 1) && chL B scope cond ifs &&
        (match itArgs it tge iter with
          | some (x, es) => itG it (glbB sc x) && chL B sc src es
          | none => false)
    | _ => false
  | _ => fun _ => false
def chL (B : Bk) (sc : Scope) : List ME → List Expr → Bool
  | [] => fun es => es.isEmpty
  | a :: r => fun es => match es with
    | ea :: er => nst ea && chE B sc a ea && chL B sc r er
    | [] => false
def chA (B : Bk) (sc : Scope) : List ME → List Expr → Bool
  | [] => fun es => es.isEmpty
  | a :: r => fun es => match es with
    | ea :: er => (match a with
      | .io i => nmB B sc i ea
      | .bw _ => false
      | .tmp a => nst ea && chE B sc a ea
      | a => nst ea && chE B sc a ea) && chA B sc r er
    | [] => false
end
/-- whether an index, a path is the text's -/
def atmB (B : Bk) (sc : Scope) : ME → Expr → Bool
  | .var i, e => nmB B sc i e
  | .k d, e => litB d e
  | .g n, .Name x _ => B.gname n == some x && glbB sc x && dbgB x
  | _, _ => false
def pthB (B : Bk) (sc : Scope) : ME → Expr → Bool
  | .var i, e => nmB B sc i e
  | .sub a b, .Subscript ea eb _ => notSlice eb && pthB B sc a ea && atmB B sc b eb
  | _, _ => false
end MiS
namespace MiS
open PySem PySem.Spec PyProof.Rows L2
open Mi (D C ME MS ev evs evP evA evAnd evOr evC bor pur purs Ag Fl evS evSs)
section
variable {T : Tb} {P : Mi.Pr} {B : Bk} {k : Nat}
/-- what a checked expression keeps -/
structure EOk (X : Cx) (T : Tb) (W : WX) (P : Mi.Pr) (m : ME) (e : Expr) : Prop where
  E : PE X e (TE' T W P m)
  Te : PT X e (TT' T W P m)
structure LOk (X : Cx) (T : Tb) (W : WX) (P : Mi.Pr) (ms : List ME) (es : List Expr) : Prop where
  len : ms.length = es.length
  ns : es.all nst = true
  el : ∀ a ea, (a, ea) ∈ ms.zip es → EOk X T W P a ea
  A : PA X es (TAs T W P ms)
  Q : ∀ q, PA X es (TPs T W P q ms)
  and : ms ≠ [] → ∀ pos, PE X (.BoolOp .And es pos) (Tr T W (evAnd P ms) true (purs ms)) ∧ PW X (.BoolOp .And es pos) (TrT T W (evAnd P ms) (purs ms))
  or : ms ≠ [] → ∀ pos, PE X (.BoolOp .Or es pos) (Tr T W (evOr P ms) true (purs ms)) ∧ PW X (.BoolOp .Or es pos) (TrT T W (evOr P ms) (purs ms))
structure AOk (X : Cx) (T : Tb) (W : WX) (P : Mi.Pr) (ms : List ME) (es : List Expr) : Prop where
  len : ms.length = es.length
  ns : es.all nst = true
  A : PA X es (TGs' T W P ms)
theorem EOk.gen {X : Cx} {W : WX} (hK : T.K = X.K) {m : ME} {e : Expr} (h : PE X e (TE' T W P m)) (he : ∀ whole, isTrue e X.env whole = (do let v ← whole; standAt e.pos; holding [v] (truthy v))) : EOk X T W P m e := ⟨h, T_val hK h he⟩
theorem gl_ne {X : Cx} {W : WX} {sc : Scope} (G : GE X T W P B k sc) {x : Str} (h : x ∈ bltNames) : X.mg x = none := G.blt x h
def tgG (K : PySem.W.Frag) : Mi.Tg → TG
  | .nm i => gName i
  | .tp is => gTup K is.length (gNames is)
theorem tg_PG {X : Cx} {W : WX} {sc : Scope} (G : GE X T W P B k sc) {tg : Mi.Tg} {e : Expr} (h : tgB B sc tg e = true) : PG X e (tgG X.K tg) ∧ TgOk T (tgG X.K tg) tg := by
  unfold tgB at h
  split at h
  · rename_i i x p
    simp only [Bool.and_eq_true, beq_iff_eq] at h
    obtain ⟨l1, l2⟩ := G.loc x h.2
    exact ⟨pg_name G.nd (by rw [G.hN]; exact h.1) l1 l2, tg_nm⟩
  · rename_i is es _ _
    simp only [Bool.and_eq_true, decide_eq_true_eq, List.all_eq_true] at h
    obtain ⟨⟨hcm, h1⟩, h2⟩ := h
    have h := And.intro h1 h2
    refine ⟨pg_tup (G.hc hcm) (PGs_names rfl G.nd is es (fun p hp => ?_) h.1) (by rw [assignEach_len]; exact h.1.symm) ?_, tg_tp G.hK⟩
    · have := h.2 p hp
      split at this
      · rename_i x pos e
        simp only [Bool.and_eq_true, beq_iff_eq] at this
        obtain ⟨l1, l2⟩ := G.loc x this.2
        exact ⟨x, pos, e, by rw [G.hN]; exact this.1, l1, l2⟩
      · cases this
    · obtain ⟨hl, hall⟩ := h
      have : ∀ (is : List Nat) (es : List Expr), is.length = es.length → (∀ p ∈ is.zip es, (match p.2 with | .Name x _ => B.N[p.1]? == some x && locB sc x | _ => false) = true) → (assignEach es X.env).findIdx? (·.1) = none := by
        intro is
        induction is with
        | nil => intro es hl _; cases es with
          | nil => rfl
          | cons _ _ => cases hl
        | cons i is ih =>
          intro es hl hall
          cases es with
          | nil => cases hl
          | cons e es =>
            have h1 := hall (i, e) List.mem_cons_self
            have h2 := ih es (by simpa using hl) fun p hp => hall p (List.mem_cons_of_mem _ hp)
            dsimp only at h1
            split at h1
            · show List.findIdx? (·.1) ((false, _) :: assignEach es X.env) = none
              rw [List.findIdx?_cons, h2]
              rfl
            · cases h1
      exact this is es hl hall
  · cases h
theorem hv_bi (b : Mi.Bi) (h : okBi b = true) : biN b ∈ bltNames ∧ biN b ≠ "__name__" ∧ (biN b == ("__debug__" : Str)) = false ∧ bootBuiltins (biN b) = some (biV b) := by
  cases b <;> first | (cases h; done) | exact ⟨by decide +kernel, by decide +kernel, by decide +kernel, rfl⟩
theorem itR_E {W : WX} {q : Bool} {s : ME} {wi : TI} {te : TE} (hwi : wi = RItE T te) (hte : te = tOne (TPs T W P q [s])) (σ : L2.St) (H : Hp) (R : It → Hp → Prop) (h : TPs T W P q [s] σ H (fun vs H1 => ∃ cs F ds, RCs T H1 cs vs F ∧ Mi.itemsK .seq cs = some ds ∧ ItR T F ds R H1)) : wi σ H R := by
  subst hwi hte
  refine mono_P σ H _ _ (fun vs H1 ⟨cs, F, ds, rc, hi, hr⟩ v e => ?_) h
  subst e
  unfold Mi.itemsK at hi
  split at hi
  · rename_i hok
    have hl : cs.length = 1 := (rcs_length rc)
    obtain ⟨c, v', rfl, e2, rc1⟩ := len1 rc hl
    cases e2
    exact ⟨c, F, ds, rc1, hi, hok, hr⟩
  · cases hi
theorem itR_A {W : WX} {s : ME} {wi : TI} {te : TE} (hwi : wi = RItE T te) (hte : te = tOne (TAs T W P [s])) (σ : L2.St) (H : Hp) (R : It → Hp → Prop) (h : TAs T W P [s] σ H (fun vs H1 => ∃ cs F ds, RCs T H1 cs vs F ∧ Mi.itemsK .seq cs = some ds ∧ ItR T F ds R H1)) : wi σ H R := by
  subst hwi hte
  refine mono_A σ H _ _ (fun vs H1 ⟨cs, F, ds, rc, hi, hr⟩ v e => ?_) h
  subst e
  unfold Mi.itemsK at hi
  split at hi
  · rename_i hok
    have hl : cs.length = 1 := (rcs_length rc)
    obtain ⟨c, v', rfl, e2, rc1⟩ := len1 rc hl
    cases e2
    exact ⟨c, F, ds, rc1, hi, hok, hr⟩
  · cases hi
theorem evP_len : ∀ (ms : List ME) {q : Bool} {e e' : Mi.Env} {cs : List C}, evP P q ms e = .ok cs e' → cs.length = ms.length
  | [], q, e, e', cs, h => by rw [evP] at h; cases h; rfl
  | a :: r, q, e, e', cs, h => by
    rw [evP] at h
    obtain ⟨c, e1, h1, h⟩ := bind_ok h
    obtain ⟨c2, e2, h2, h⟩ := bind_ok h
    obtain ⟨ds, e3, h3, h⟩ := bind_ok h
    cases h
    rw [List.length_cons, evP_len r h3, List.length_cons]
/-- with the length known -/
theorem itR_P {W : WX} {q : Bool} {it : Mi.It} {ms : List ME} {n : Nat} (hn : ms.length = n) (σ : L2.St) (H : Hp) (R : It → Hp → Prop) (h : TPs T W P q ms σ H (fun vs H1 => ∃ cs F ds, RCs T H1 cs vs F ∧ Mi.itemsK it cs = some ds ∧ ItR T F ds R H1)) : RIt T it n (TPs T W P q ms) σ H R := by
  obtain ⟨e, fp, R0, hq⟩ := h
  refine ⟨e, fp, R0, ?_⟩
  cases hr : evP P q ms e with
  | ok cs' e1 =>
    rw [hr] at hq
    intro vs H1 fp1 F1 x
    obtain ⟨cs, F, ds, rc, hi, hw⟩ := hq vs H1 fp1 F1 x
    unfold Mi.itemsK at hi
    split at hi
    · rename_i hok
      exact ⟨cs, F, ds, rc, by rw [rcs_length rc, ← rcs_length x.rc, evP_len ms hr, hn], hi, hok, hw⟩
    · cases hi
  | exc n e1 => rw [hr] at hq; exact hq
  | stuck => rw [hr] at hq; exact hq
theorem itR_As {W : WX} {it : Mi.It} {ms : List ME} {n : Nat} (hn : ms.length = n) (σ : L2.St) (H : Hp) (R : It → Hp → Prop) (h : TAs T W P ms σ H (fun vs H1 => ∃ cs F ds, RCs T H1 cs vs F ∧ Mi.itemsK it cs = some ds ∧ ItR T F ds R H1)) : RIt T it n (TAs T W P ms) σ H R := by
  obtain ⟨e, fp, R0, hq⟩ := h
  refine ⟨e, fp, R0, ?_⟩
  cases hr : evs P ms e with
  | ok cs' e1 =>
    rw [hr] at hq
    intro vs H1 fp1 F1 x
    obtain ⟨cs, F, ds, rc, hi, hw⟩ := hq vs H1 fp1 F1 x
    unfold Mi.itemsK at hi
    split at hi
    · rename_i hok
      exact ⟨cs, F, ds, rc, by rw [rcs_length rc, ← rcs_length x.rc, evs_len ms hr, hn], hi, hok, hw⟩
    · cases hi
  | exc n e1 => rw [hr] at hq; exact hq
  | stuck => rw [hr] at hq; exact hq
theorem T_ite {X : Cx} {W : WX} {c a b : ME} {ec ea eb : Expr} {pos : Pos} (hc : PT X ec (TT' T W P c)) (ha : PT X ea (TT' T W P a)) (hb : PT X eb (TT' T W P b)) : PT X (.IfExp ec ea eb pos) (TT' T W P (.ite c a b)) := by
  have base : PT X (.IfExp ec ea eb pos) (fun σ H Q => TT' T W P c σ H fun t H1 => if t = true then TT' T W P a σ H1 Q else TT' T W P b σ H1 Q) := by
    refine ⟨fun pins s σ H Q I h => ?_⟩
    rw [show isTrue (.IfExp ec ea eb pos) X.env (eval (.IfExp ec ea eb pos) X.env) = (do if ← isTrue ec X.env (eval ec X.env) then isTrue ea X.env (eval ea X.env) else isTrue eb X.env (eval eb X.env)) from by rw [PySem.isTrue]]
    refine wpAny_bind (thn (hc.run pins s σ H _ I h) fun d s1 ⟨H1, I1, q1⟩ => ?_)
    cases d with
    | true => exact ha.run pins s1 σ H1 Q I1 q1
    | false => exact hb.run pins s1 σ H1 Q I1 q1
  refine PT.imp base fun σ H Q ⟨e, fp, R, hq⟩ => ?_
  rw [ev] at hq
  refine TrT.step (sp0 R) hq fun t e1 H1 fp1 s1 hq => ?_
  have fin : ∀ (m : ME), ((pur a && pur b) = true → pur m = true) → FinG T W σ H (own fp) (fun c' e' => ∃ b', Mi.truth c' = some b' ∧ ∀ H' fp', Sp1 T σ H (own fp) (pur (.ite c a b)) H' e' fp' → Q b' H') (ev P m e1) → TT' T W P m σ H1 Q := by
    intro m hp hq
    refine ⟨e1, fp1, s1.re, ?_⟩
    cases h : ev P m e1 with
    | ok d e2 =>
      rw [h] at hq
      obtain ⟨b', hb', q⟩ := hq
      refine ⟨b', hb', fun H2 fp2 x => q H2 fp2 ((s1.trans x).weak fun z => ?_)⟩
      simp only [pur, Bool.and_eq_true] at z ⊢
      exact ⟨z.1.1, hp (by rw [Bool.and_eq_true]; exact ⟨z.1.2, z.2⟩)⟩
    | exc n e2 => rw [h] at hq; exact fun H2 fp2 x => hq H2 fp2 ((s1.trans x).weak fun z => by cases z)
    | stuck => rw [h] at hq; exact hq
  cases t with
  | true => exact fin a (fun z => ((Bool.and_eq_true _ _).mp z).1) hq
  | false => exact fin b (fun z => ((Bool.and_eq_true _ _).mp z).2) hq
theorem truth_frz (c : C) : ∀ b, Mi.truth (.val c.frz) = some b → Mi.truth c = some b := by
  intro b h
  cases c with
  | val d => exact h
  | lst cs => cases cs <;> exact h
  | tup cs => cases h
  | dct _ _ => cases h
  | obj _ _ _ => cases h
theorem T_frz {X : Cx} {W : WX} {a : ME} {ea : Expr} (ha : PT X ea (TT' T W P a)) : PT X ea (TT' T W P (.frz a)) := by
  refine PT.imp ha fun σ H Q ⟨e, fp, R, hq⟩ => ⟨e, fp, R, ?_⟩
  rw [ev] at hq
  cases h : ev P a e with
  | ok c e1 =>
    rw [h] at hq
    unfold Mi.leak at hq
    by_cases z : (bor a && !c.isVal) = true
    · simp only [Mi.Res.bind, z, if_true] at hq; exact hq.elim
    · simp only [Mi.Res.bind, z, if_false] at hq
      obtain ⟨b, hb, q⟩ := hq
      exact ⟨b, truth_frz c b hb, fun H' fp' x => q H' fp' (x.weak fun z => by simpa [pur] using z)⟩
  | exc n e1 => rw [h] at hq; exact hq
  | stuck => rw [h] at hq; exact hq
end
end MiS
namespace MiS
open PySem PySem.Spec PyProof.Rows L2
open Mi (D C ME MS ev evs evP evA evAnd evOr evC bor pur purs Ag Fl evS evSs)
variable {T : Tb} {P : Mi.Pr} {B : Bk} {k : Nat}
theorem bltI {x : Str} (h : decide (x ∈ bltNames) = true) : x ∈ bltNames := of_decide_eq_true h
/-- what is iterated over: for loops and comprehensions -/
theorem it_okH {X : Cx} {W : WX} {sc : Scope} (G : GE X T W P B k sc) {tge iter : Expr} {src : List ME} {x : Str} {es : List Expr} (h : itArgs .rng tge iter = some (x, es)) (h1 : rng1 iter = true) (hg : itG .rng (glbB sc x) = true) (l : LOk X T W P src es) :
    ∀ q, ∃ wi, L2H.PIH X tge iter wi ∧ ∀ σ H (R : It → Hp → Prop), TPs T W P q src σ H (fun vs H1 => ∃ cs F ds, RCs T H1 cs vs F ∧ Mi.itemsK .rng cs = some ds ∧ ItR T F ds R H1) → wi σ H R := by
  simp only [itArgs] at h
  split at h
  · rename_i x' _ a _
    split at h
    · rename_i hx
      cases h
      have hx := beq_iff_eq.mp hx
      subst hx
      have hn : nst a = true := by have := l.ns; rw [List.all_cons, Bool.and_eq_true] at this; exact this.1
      exact fun q => ⟨_, pih_rng (G.glb _ hg) (G.blt _ (by decide +kernel)) mono_P (l.Q q) (star_of hn), fun σ H R => itR_P l.len σ H R⟩
    · cases h
  · simp [rng1] at h1
  · cases h
theorem it_ok {X : Cx} {W : WX} {sc : Scope} (G : GE X T W P B k sc) {tge iter : Expr} {it : Mi.It} {src : List ME} {x : Str} {es : List Expr} (h : itArgs it tge iter = some (x, es)) (hg : itG it (glbB sc x) = true) (l : LOk X T W P src es) :
    (∀ q, ∃ wi, PI X tge iter wi ∧ ∀ σ H (R : It → Hp → Prop), TPs T W P q src σ H (fun vs H1 => ∃ cs F ds, RCs T H1 cs vs F ∧ Mi.itemsK it cs = some ds ∧ ItR T F ds R H1) → wi σ H R) ∧
    (∃ wi, PI X tge iter wi ∧ ∀ σ H (R : It → Hp → Prop), TAs T W P src σ H (fun vs H1 => ∃ cs F ds, RCs T H1 cs vs F ∧ Mi.itemsK it cs = some ds ∧ ItR T F ds R H1) → wi σ H R) := by
  cases it with
  | seq =>
    simp only [itArgs] at h
    split at h
    · cases h
      have hl := l.len
      match src, hl with
      | [s], _ =>
        have e := l.el s iter List.mem_cons_self
        exact ⟨fun q => ⟨_, pi_seq G.hK (P_one e.E), fun σ H R => itR_E rfl rfl σ H R⟩, ⟨_, pi_seq G.hK (A_one e.E), fun σ H R => itR_A rfl rfl σ H R⟩⟩
    · cases h
  | rng =>
    simp only [itArgs] at h
    split at h
    · rename_i x' _ a _
      split at h
      · rename_i hx
        cases h
        have hx := beq_iff_eq.mp hx
        subst hx
        have hn : nst a = true := by have := l.ns; rw [List.all_cons, Bool.and_eq_true] at this; exact this.1
        have hs : starEach [a] X.env = [(false, eval a X.env)] := star_of hn
        exact ⟨fun q => ⟨_, pi_rng1 (G.glb _ hg) (G.blt _ (by decide +kernel)) mono_P (l.Q q) hs, fun σ H R => itR_P l.len σ H R⟩, ⟨_, pi_rng1 (G.glb _ hg) (G.blt _ (by decide +kernel)) mono_A l.A hs, fun σ H R => itR_As l.len σ H R⟩⟩
      · cases h
    · rename_i x' _ a b _
      split at h
      · rename_i hx
        cases h
        have hx := beq_iff_eq.mp hx
        subst hx
        have hn := l.ns
        rw [List.all_cons, Bool.and_eq_true, List.all_cons, Bool.and_eq_true] at hn
        have hs2 : starEach [b] X.env = [(false, eval b X.env)] := star_of hn.2.1
        have hs : starEach [a, b] X.env = [(false, eval a X.env), (false, eval b X.env)] := by rw [star_of hn.1, hs2]
        exact ⟨fun q => ⟨_, pi_rng2 (G.glb _ hg) (G.blt _ (by decide +kernel)) mono_P (l.Q q) hs hs2, fun σ H R => itR_P l.len σ H R⟩, ⟨_, pi_rng2 (G.glb _ hg) (G.blt _ (by decide +kernel)) mono_A l.A hs hs2, fun σ H R => itR_As l.len σ H R⟩⟩
      · cases h
    · cases h
  | enum =>
    simp only [itArgs] at h
    split at h
    · rename_i x' _ a _
      split at h
      · rename_i hx
        cases h
        rw [Bool.and_eq_true] at hx
        obtain ⟨hx, ht⟩ := hx
        have hx := beq_iff_eq.mp hx
        subst hx
        have hn : nst a = true := by have := l.ns; rw [List.all_cons, Bool.and_eq_true] at this; exact this.1
        have hs : starEach [a] X.env = [(false, eval a X.env)] := star_of hn
        unfold isTupE at ht
        split at ht
        · exact ⟨fun q => ⟨_, pi_en G.hK (G.glb _ hg) (G.blt _ (by decide +kernel)) mono_P (l.Q q) hs, fun σ H R => itR_P l.len σ H R⟩, ⟨_, pi_en G.hK (G.glb _ hg) (G.blt _ (by decide +kernel)) mono_A l.A hs, fun σ H R => itR_As l.len σ H R⟩⟩
        · cases ht
      · cases h
    · cases h
  | zip =>
    simp only [itArgs] at h
    split at h
    · rename_i x' _ a b _
      split at h
      · rename_i hx
        cases h
        rw [Bool.and_eq_true] at hx
        obtain ⟨hx, ht⟩ := hx
        have hx := beq_iff_eq.mp hx
        subst hx
        have hn := l.ns
        rw [List.all_cons, Bool.and_eq_true, List.all_cons, Bool.and_eq_true] at hn
        have hs : starEach [a, b] X.env = (false, eval a X.env) :: starEach [b] X.env := star_of hn.1
        have hpl : ∀ pos, (backTo pos (starEach [b] X.env)).any (·.1) = false := fun pos => plain_of (by rw [List.all_cons, hn.2.1]; rfl)
        unfold isTupE at ht
        split at ht
        · exact ⟨fun q => ⟨_, pi_zp G.hK (G.glb _ hg) (G.blt _ (by decide +kernel)) mono_P (l.Q q) hs (hpl _), fun σ H R => itR_P l.len σ H R⟩, ⟨_, pi_zp G.hK (G.glb _ hg) (G.blt _ (by decide +kernel)) mono_A l.A hs (hpl _), fun σ H R => itR_As l.len σ H R⟩⟩
        · cases ht
      · cases h
    · cases h
  | items =>
    simp only [itArgs] at h
    split at h
    · rename_i ea nm apos cpos
      split at h
      · rename_i hx
        cases h
        simp only [Bool.and_eq_true, beq_iff_eq] at hx
        obtain ⟨⟨⟨⟨rfl, ht⟩, hnc⟩, hl⟩, hn⟩ := hx
        have hl' : (apos.endLine == cpos.line) = true := by rw [hl]; exact beq_self_eq_true _
        have hlen := l.len
        match src, hlen with
        | [s], _ =>
          have e := l.el s ea List.mem_cons_self
          unfold isTupE at ht
          split at ht
          · exact ⟨fun q => ⟨_, pi_itm mono_P (P_one e.E) (base_of hnc) hl', fun σ H R => itR_P l.len σ H R⟩, ⟨_, pi_itm mono_A (A_one e.E) (base_of hnc) hl', fun σ H R => itR_As l.len σ H R⟩⟩
          · cases ht
      · cases h
    · cases h
theorem tyE {X : Cx} {W : WX} {sc : Scope} (G : GE X T W P B k sc) {t : Mi.Ty} (ht : ∀ c, t ≠ .cls c) (hg : glbB sc (tyNm t) = true) {p : Pos} : PE X (.Name (tyNm t) p) (tC (.ty (tyN t))) := by
  cases t with
  | cls c => exact absurd rfl (ht c)
  | int => exact pe_bltn (G.glb _ hg) (G.blt _ (by decide +kernel)) rfl rfl (by decide +kernel) (by decide +kernel)
  | bool => exact pe_bltn (G.glb _ hg) (G.blt _ (by decide +kernel)) rfl rfl (by decide +kernel) (by decide +kernel)
  | str => exact pe_bltn (G.glb _ hg) (G.blt _ (by decide +kernel)) rfl rfl (by decide +kernel) (by decide +kernel)
  | tuple => exact pe_bltn (G.glb _ hg) (G.blt _ (by decide +kernel)) rfl rfl (by decide +kernel) (by decide +kernel)
  | list => exact pe_bltn (G.glb _ hg) (G.blt _ (by decide +kernel)) rfl rfl (by decide +kernel) (by decide +kernel)
theorem bi_ok {X : Cx} {W : WX} {sc : Scope} (G : GE X T W P B k sc) {b : Mi.Bi} {args : List ME} {e1 : Expr} {es : List Expr} {p pos : Pos} (hcm : B.cm = true ∨ (B.hs = true ∧ calmBi b = false)) (hb : okBi b = true) (hg : glbB sc (biN b) = true) (l : LOk X T W P args (e1 :: es)) : PE X (.Call (.Name (biN b) p) (e1 :: es) [] pos) (TE' T W P (.bi b args)) := by
  obtain ⟨h1, h2, h3, h4⟩ := hv_bi b hb
  have hn := l.ns
  rw [List.all_cons, Bool.and_eq_true] at hn
  have hpl : (backTo pos (starEach es X.env)).any (·.1) = false := plain_of hn.2
  have hcc : calmBi b = true → X.calm = true := fun z => hcm.elim G.hc fun y => by rw [y.2] at z; cases z
  have fB : ∀ id, biV b = .builtin id → PE X (.Call (.Name (biN b) p) (e1 :: es) [] pos) (TE' T W P (.bi b args)) := fun id hid => E_biB G.hK hcc hb hid (G.glb _ hg) (G.blt _ h1) (by rw [h4, hid]) h2 h3 (l.Q true) (star_of hn.1) hpl
  have fT : ∀ id, biV b = .type id → PE X (.Call (.Name (biN b) p) (e1 :: es) [] pos) (TE' T W P (.bi b args)) := fun id hid => E_biT G.hK hcc hb hid (G.glb _ hg) (G.blt _ h1) (by rw [h4, hid]) h2 h3 (l.Q true) (star_of hn.1) hpl
  cases b <;> first | (cases hb; done) | exact fB _ rfl | exact fT _ rfl
/-- a class of exceptions by its name -/
theorem exc_nm {X : Cx} {W : WX} {sc : Scope} (G : GE X T W P B k sc) {c : Nat} {x : Str} {p : Pos} (h : excB B c x = true) (hg : glbB sc x = true) : ∃ (v : V) (cv : Value), PE X (.Name x p) (tC v) ∧ (∀ u, RelV v u → u = cv) ∧ ∀ k D, T.cls k = some D → PySem.W.kitOne X.K (.ref D) cv = some (P.sub k c) := by
  unfold excB at h
  split at h
  · rename_i hz
    rw [beq_iff_eq] at hz h
    subst hz h
    exact ⟨.ty "ValueError", .type "ValueError", pe_bltn (G.glb _ hg) (G.blt _ (by decide +kernel)) rfl rfl (by decide +kernel) (by decide +kernel), (fun u r => by cases u <;> first | (cases r; rfl) | cases r), fun k D hD => G.kitV k D hD⟩
  · simp only [Bool.and_eq_true, beq_iff_eq, dbgB, Bool.not_eq_true'] at h
    obtain ⟨A, hA, hm⟩ := G.cls c x h.1
    exact ⟨.ref A, .ref A, pe_glob (G.glb x hg) hm rfl h.2.1.1, (fun u r => by cases u <;> first | (cases r; rfl) | cases r), fun k D hD => G.kit k c D A hD hA⟩
theorem tys_ok {X : Cx} {W : WX} {sc : Scope} (G : GE X T W P B k sc) : ∀ (tys : List Mi.Ty) (es : List Expr), tysB B sc tys es = true → ∃ As : List Addr, PA X es (fun σ H Q => Q (As.map V.ref) H) ∧ As.length = tys.length ∧ ∀ k D, T.cls k = some D → PySem.W.kitAny X.K (.ref D) (As.map Value.ref) = some (tys.any (Mi.tyD P.sub (.exc k)))
  | [], [], _ => ⟨[], PA.imp pa_nil fun σ H Q q => q, rfl, fun _ _ _ => rfl⟩
  | [], _ :: _, h => by rw [tysB] at h <;> first | cases h | (intros; intro z; cases z)
  | .int :: _, _, h => by rw [tysB] at h <;> first | cases h | (intros; intro z; cases z)
  | .bool :: _, _, h => by rw [tysB] at h <;> first | cases h | (intros; intro z; cases z)
  | .str :: _, _, h => by rw [tysB] at h <;> first | cases h | (intros; intro z; cases z)
  | .tuple :: _, _, h => by rw [tysB] at h <;> first | cases h | (intros; intro z; cases z)
  | .list :: _, _, h => by rw [tysB] at h <;> first | cases h | (intros; intro z; cases z)
  | .cls c :: ts, es0, h => by
    unfold tysB at h
    split at h
    · rename_i z; cases z
    · rename_i ts' x p es z1
      cases z1
      simp only [Bool.and_eq_true, beq_iff_eq, dbgB, Bool.not_eq_true'] at h
      obtain ⟨⟨⟨h1, h2⟩, h3⟩, h4⟩ := h
      obtain ⟨As, r1, r2, r3⟩ := tys_ok G ts es h4
      obtain ⟨A, hA, hm⟩ := G.cls c x h1
      refine ⟨A :: As, PA.imp (pa_cons (pe_glob (v := .ref A) (G.glb x h3) hm rfl h2.1.1) r1 rfl) fun σ H Q q => q, by rw [List.length_cons, r2, List.length_cons], fun k D hD => ?_⟩
      rw [List.map_cons, List.any_cons]
      refine kitAny_cons (G.kit k c D A hD hA) (fun z => ?_) fun z => ?_
      · rw [r3 k D hD, show Mi.tyD P.sub (.exc k) (.cls c) = P.sub k c from rfl, z, Bool.false_or]
      · rw [show Mi.tyD P.sub (.exc k) (.cls c) = P.sub k c from rfl, z, Bool.true_or]
    · cases h
theorem dctC_of {X : Cx} {pos : Pos} : ∀ (ks vs : List ME) (keys : List (Option Expr)) (values : List Expr), dctB ks vs keys values = true → ∃ (kds vds : List D) (kvs : List (Key × V)), ks = kds.map .k ∧ vs = vds.map .k ∧ kdsOf ks = kds ∧ PPs X pos keys values (cTs kvs) ∧ keysD kds (kvs.map (·.2)) = some kvs ∧ (∀ H, RDs T H vds (kvs.map (·.2))) ∧
    keys.all (·.isSome) = true ∧ keys.length = values.length ∧ kvs.length = keys.length ∧ vds.length = kds.length ∧ Mi.constKeys (kds.map .k) = some kds
  | [], [], [], [], _ => ⟨[], [], [], rfl, rfl, rfl, pps_nil, rfl, fun _ => .nil, rfl, rfl, rfl, rfl, rfl⟩
  | .k dk :: ks, .k dv :: vs, some ek :: keys, ev :: values, h => by
    rw [dctB] at h
    simp only [Bool.and_eq_true] at h
    obtain ⟨⟨⟨h1, h2⟩, h3⟩, h4⟩ := h
    obtain ⟨kds, vds, kvs, e1, e2, e3, q1, q2, q3, q4, q5, q6, q7, q8⟩ := dctC_of (X := X) (pos := pos) ks vs keys values h4
    obtain ⟨v1, p1, r1, _⟩ := lit_of (X := X) (T := T) h2
    obtain ⟨v2, p2, r2, _⟩ := lit_of (X := X) (T := T) h3
    have hk : ∃ q, keyD dk = some q := by
      cases dk <;> first | (simp [keyB] at h1; done) | exact ⟨_, rfl⟩
    obtain ⟨q, hk⟩ := hk
    have hv : v1 = kV q := key_rd (T := T) (r1 (fun _ => none)) hk
    refine ⟨dk :: kds, dv :: vds, (q, v2) :: kvs, by rw [e1]; rfl, by rw [e2]; rfl, by rw [kdsOf, e3], ?_, ?_, fun H => .cons (r2 H) (q3 H), by rw [List.all_cons, q4]; rfl, by rw [List.length_cons, List.length_cons, q5], by rw [List.length_cons, List.length_cons, q6], by rw [List.length_cons, List.length_cons, q7], ?_⟩
    · rw [hv] at p1
      exact pps_cons p1 p2 q1
    · rw [List.map_cons, keysD, hk, q2]
    · cases dk with
      | int i => rw [List.map_cons, Mi.constKeys, q8]; rfl
      | str x => rw [List.map_cons, Mi.constKeys, q8]; rfl
      | _ => simp [keyB] at h1
  | [], _ :: _, _, _, h => by simp [dctB] at h
  | [], [], _ :: _, _, h => by simp [dctB] at h
  | [], [], [], _ :: _, h => by simp [dctB] at h
mutual
theorem chE_ok : ∀ (m : ME) (e : Expr) {X : Cx} {W : WX} {sc : Scope}, GE X T W P B k sc → chE B sc m e = true → EOk X T W P m e
  | .var i, e, X, W, sc, G, h => by
    rw [chE] at h
    dsimp only at h
    obtain ⟨h1, _, _, _, he⟩ := nm_of G h
    exact .gen G.hK (E_var h1) he
  | .mvar i, e, X, W, sc, G, h => by
    rw [chE] at h
    dsimp only at h
    obtain ⟨h1, _, _, _, he⟩ := nm_of G h
    exact .gen G.hK (E_mvar h1) he
  | .fvar i, e, X, W, sc, G, h => by
    rw [chE] at h
    dsimp only at h
    obtain ⟨h1, _, _, _, he⟩ := nm_of G h
    exact .gen G.hK (E_fvar h1) he
  | .k d, e, X, W, sc, G, h => by
    rw [chE] at h
    dsimp only at h
    obtain ⟨v, h1, h2, he⟩ := lit_of h
    exact .gen G.hK (E_tC h1 h2 fun e => by rw [ev]) he
  | .g n, e, X, W, sc, G, h => by
    rw [chE] at h
    dsimp only at h
    split at h
    · rename_i x p
      simp only [Bool.and_eq_true, beq_iff_eq, dbgB, Bool.not_eq_true'] at h
      obtain ⟨v, u, hm, r, rd⟩ := G.glob n x h.1.1
      exact .gen G.hK (E_tC (pe_glob (G.glb x h.1.2) hm r h.2.1.1) rd fun e => by rw [ev]) fun _ => rfl
    · cases h
  | .tup es, e, X, W, sc, G, h => by
    rw [chE] at h
    dsimp only at h
    split at h
    · simp only [Bool.and_eq_true, decide_eq_true_eq] at h
      exact .gen G.hK (E_tup h.1 (chL_ok es _ G h.2).A) fun _ => rfl
    · cases h
  | .lst es, e, X, W, sc, G, h => by
    rw [chE] at h
    dsimp only at h
    split at h
    · simp only [Bool.and_eq_true, decide_eq_true_eq] at h
      exact .gen G.hK (E_lst h.1 (chL_ok es _ G h.2).A) fun _ => rfl
    · cases h
  | .bin o a b, e, X, W, sc, G, h => by
    rw [chE] at h
    dsimp only at h
    split at h
    · simp only [Bool.and_eq_true, decide_eq_true_eq] at h
      obtain ⟨⟨rfl, h1⟩, h2⟩ := h
      exact .gen G.hK (E_bin G.hK (chE_ok a _ G h1).E (chE_ok b _ G h2).E) fun _ => rfl
    · cases h
  | .neg a, e, X, W, sc, G, h => by
    rw [chE] at h
    dsimp only at h
    split at h
    · exact .gen G.hK (E_neg (chE_ok a _ G h).E) fun _ => rfl
    · cases h
  | .cmp o a b, e, X, W, sc, G, h => by
    rw [chE] at h
    dsimp only at h
    split at h
    · simp only [Bool.and_eq_true, decide_eq_true_eq] at h
      obtain ⟨⟨⟨rfl, hs⟩, h1⟩, h2⟩ := h
      exact ⟨E_cmp G.hK G.hu (marks_of hs) (chE_ok a _ G h1).E (chE_ok b _ G h2).E, T_cmp G.hK G.hu (marks_of hs) (chE_ok a _ G h1).E (chE_ok b _ G h2).E⟩
    · cases h
  | .chn o p a b c, e, X, W, sc, G, h => by
    rw [chE] at h
    dsimp only at h
    split at h
    · simp only [Bool.and_eq_true, decide_eq_true_eq] at h
      obtain ⟨⟨⟨⟨⟨⟨rfl, rfl⟩, hs1⟩, hs2⟩, h1⟩, h2⟩, h3⟩ := h
      obtain ⟨r1, r2⟩ := E_chn (pos := _) G.hK G.hu (o := o) (o' := p) (marks_of hs2) (chE_ok a _ G h1).E (chE_ok b _ G h2).E (chE_ok c _ G h3).E
      exact ⟨r1, r2⟩
    · cases h
  | .and es, e, X, W, sc, G, h => by
    rw [chE] at h
    dsimp only at h
    split at h
    · simp only [Bool.and_eq_true, Bool.not_eq_true'] at h
      have ne : es ≠ [] := fun z => by rw [z] at h; exact absurd h.1 (by simp)
      obtain ⟨r1, r2⟩ := (chL_ok es _ G h.2).and ne _
      refine ⟨PE.imp r1 fun σ H Q q => ?_, PT.imp r2.pt fun σ H Q q => ?_⟩
      · obtain ⟨e, fp, R, q⟩ := q
        rw [ev] at q
        exact ⟨e, fp, R, q⟩
      · obtain ⟨e, fp, R, q⟩ := q
        rw [ev] at q
        exact ⟨e, fp, R, q⟩
    · cases h
  | .or es, e, X, W, sc, G, h => by
    rw [chE] at h
    dsimp only at h
    split at h
    · simp only [Bool.and_eq_true, Bool.not_eq_true'] at h
      have ne : es ≠ [] := fun z => by rw [z] at h; exact absurd h.1 (by simp)
      obtain ⟨r1, r2⟩ := (chL_ok es _ G h.2).or ne _
      refine ⟨PE.imp r1 fun σ H Q q => ?_, PT.imp r2.pt fun σ H Q q => ?_⟩
      · obtain ⟨e, fp, R, q⟩ := q
        rw [ev] at q
        exact ⟨e, fp, R, q⟩
      · obtain ⟨e, fp, R, q⟩ := q
        rw [ev] at q
        exact ⟨e, fp, R, q⟩
    · cases h
  | .not a, e, X, W, sc, G, h => by
    rw [chE] at h
    dsimp only at h
    split at h
    · exact ⟨E_not G.hK (chE_ok a _ G h).E, T_not (chE_ok a _ G h).Te⟩
    · cases h
  | .sub a b, e, X, W, sc, G, h => by
    rw [chE] at h
    dsimp only at h
    split at h
    · simp only [Bool.and_eq_true] at h
      exact .gen G.hK (E_sub G.hK G.hu (plainIx_of h.1.1) (chE_ok a _ G h.1.2).E (chE_ok b _ G h.2).E) fun _ => rfl
    · cases h
  | .slL a b, e, X, W, sc, G, h => by
    rw [chE] at h
    dsimp only at h
    split at h
    · simp only [Bool.and_eq_true] at h
      exact .gen G.hK (E_slL G.hK (chE_ok a _ G h.1).E (chE_ok b _ G h.2).E) fun _ => rfl
    · cases h
  | .slH a b, e, X, W, sc, G, h => by
    rw [chE] at h
    dsimp only at h
    split at h
    · simp only [Bool.and_eq_true] at h
      exact .gen G.hK (E_slH G.hK (chE_ok a _ G h.1).E (chE_ok b _ G h.2).E) fun _ => rfl
    · cases h
  | .slB a b c, e, X, W, sc, G, h => by
    rw [chE] at h
    dsimp only at h
    split at h
    · simp only [Bool.and_eq_true] at h
      exact .gen G.hK (E_slB G.hK (chE_ok a _ G h.1.1).E (chE_ok b _ G h.1.2).E (chE_ok c _ G h.2).E) fun _ => rfl
    · cases h
  | .rev a, e, X, W, sc, G, h => by
    rw [chE] at h
    dsimp only at h
    split at h
    · exact .gen G.hK (E_rev G.hK (chE_ok a _ G h).E) fun _ => rfl
    · cases h
  | .call f args, e, X, W, sc, G, h => by
    rw [chE] at h
    dsimp only at h
    split at h
    · rename_i x p e1 es pos
      simp only [Bool.and_eq_true, Bool.or_eq_true, beq_iff_eq, dbgB, Bool.not_eq_true'] at h
      obtain ⟨⟨⟨hf, hgl⟩, hdb⟩, hA⟩ := h
      have l := chA_ok args _ G hA
      have hn := l.ns
      rw [List.all_cons, Bool.and_eq_true] at hn
      rcases hf with ⟨hcm, hf⟩ | ⟨hhs, hf⟩
      · exact .gen G.hK (E_call (G.fn hcm f x hf) (G.hr hcm) (G.glb x hgl) hdb.1.1 (G.hx (.inl hcm)) l.A (star_of hn.1) (plain_of hn.2) l.len) fun _ => rfl
      · obtain ⟨q, L⟩ := G.hot hhs
        exact .gen G.hK (E_callH (G.fnh T.hx f x hf) (G.hrh hhs) L (G.glb x hgl) hdb.1.1 (G.hx (.inr hhs)) l.A (star_of hn.1) (plain_of hn.2)) fun _ => rfl
    · simp only [Bool.and_eq_true, beq_iff_eq, dbgB, Bool.not_eq_true', List.isEmpty_iff] at h
      obtain ⟨⟨⟨⟨hcm, hf⟩, hgl⟩, hdb⟩, hA⟩ := h
      subst hA
      exact .gen G.hK (E_call0 (G.fn hcm f _ hf) (G.hr hcm) (G.glb _ hgl) hdb.1.1 (G.hx (.inl hcm))) fun _ => rfl
    · cases h
  | .bi b args, e, X, W, sc, G, h => by
    rw [chE] at h
    dsimp only at h
    split at h
    · rename_i x p e1 es pos
      rcases (Bool.or_eq_true _ _).mp h with h | h
      · simp only [Bool.and_eq_true, Bool.or_eq_true, Bool.not_eq_true', beq_iff_eq] at h
        obtain ⟨⟨⟨⟨hcm, hb⟩, rfl⟩, hg⟩, hl⟩ := h
        exact .gen G.hK (bi_ok G hcm hb hg (chL_ok args _ G hl)) fun _ => rfl
      · split at h
        · simp only [Bool.and_eq_true, beq_iff_eq] at h
          obtain ⟨⟨⟨⟨⟨⟨hcm, rfl⟩, rfl⟩, rfl⟩, hg⟩, hg2⟩, hl⟩ := h
          have l := chL_ok args _ G hl
          have hn := l.ns
          rw [List.all_cons, Bool.and_eq_true] at hn
          exact .gen G.hK (E_lz G.hK (G.hc hcm) (G.glb _ hg) (G.blt _ (by decide +kernel)) (G.glb _ hg2) (G.blt _ (by decide +kernel)) (l.Q true) (star_of hn.1) (plain_of hn.2)) fun _ => rfl
        · cases h
    · cases h
  | .mt m args, e, X, W, sc, G, h => by
    rw [chE] at h
    dsimp only at h
    split at h
    · rename_i ea nm apos ebs pos
      simp only [Bool.and_eq_true] at h
      obtain ⟨⟨⟨hm, hc⟩, hl⟩, hL⟩ := h
      have l := chL_ok args _ G hL
      have two : (m = .join ∨ m = .index) → ebs.length = 1 → ∃ a b eb, args = [a, b] ∧ ebs = [eb] ∧ EOk X T W P a ea ∧ EOk X T W P b eb ∧ nst eb = true := by
        intro _ h1
        have h2 := l.len
        match ebs, h1, args, h2 with
        | [eb], _, [a, b], _ =>
          have hn := l.ns
          rw [List.all_cons, Bool.and_eq_true, List.all_cons, Bool.and_eq_true] at hn
          exact ⟨a, b, eb, rfl, rfl, l.el a ea List.mem_cons_self, l.el b eb (List.mem_cons_of_mem _ List.mem_cons_self), hn.2.1⟩
      cases m with
      | join =>
        simp only [mtB, Bool.and_eq_true, beq_iff_eq] at hm
        obtain ⟨rfl, h1⟩ := hm
        obtain ⟨a, b, eb, rfl, rfl, ka, kb, hn⟩ := two (.inl rfl) h1
        exact .gen G.hK (E_join G.hK ka.E kb.E (star_of hn) (base_of hc) hl) fun _ => rfl
      | index =>
        simp only [mtB, Bool.and_eq_true, beq_iff_eq] at hm
        obtain ⟨rfl, h1⟩ := hm
        obtain ⟨a, b, eb, rfl, rfl, ka, kb, hn⟩ := two (.inr rfl) h1
        exact .gen G.hK (E_index ka.E kb.E (star_of hn) (base_of hc) hl) fun _ => rfl
      | lindex => simp [mtB] at hm
      | get =>
        simp only [mtB, Bool.and_eq_true, beq_iff_eq] at hm
        obtain ⟨rfl, h1⟩ := hm
        have h2 := l.len
        match ebs, h1, args, h2 with
        | [eb, ec], _, [a, b, c], _ =>
          have hn := l.ns
          rw [List.all_cons, Bool.and_eq_true, List.all_cons, Bool.and_eq_true, List.all_cons, Bool.and_eq_true] at hn
          exact .gen G.hK (E_get2 G.hu (l.el a ea List.mem_cons_self).E (l.el b eb (List.mem_cons_of_mem _ List.mem_cons_self)).E (l.el c ec (List.mem_cons_of_mem _ (List.mem_cons_of_mem _ List.mem_cons_self))).E ⟨base_of hc, few_of (by rw [List.all_cons, List.all_cons, hn.2.1, hn.2.2.1]; rfl) (by show 2 < 29; decide), hl, by rw [star_of hn.2.1, star_of hn.2.2.1]; rfl⟩) fun _ => rfl
        | [eb], _, [a, b], _ =>
          have hn := l.ns
          rw [List.all_cons, Bool.and_eq_true, List.all_cons, Bool.and_eq_true] at hn
          exact .gen G.hK (E_get G.hu (l.el a ea List.mem_cons_self).E (l.el b eb (List.mem_cons_of_mem _ List.mem_cons_self)).E ⟨base_of hc, few_of (by rw [List.all_cons, hn.2.1]; rfl) (by show 1 < 29; decide), hl, by rw [star_of hn.2.1]; rfl⟩) fun _ => rfl
      | count => simp [mtB] at hm
    · cases h
  | .isi a tys, e, X, W, sc, G, h => by
    rw [chE] at h
    dsimp only at h
    split at h
    · rename_i t y p ea x p2 pos
      simp only [Bool.and_eq_true, beq_iff_eq] at h
      obtain ⟨⟨⟨⟨⟨rfl, hg⟩, ht⟩, hg2⟩, hn⟩, h1⟩ := h
      have k1 := chE_ok a _ G h1
      cases t with
      | cls c =>
        dsimp only at ht
        rw [Bool.and_eq_true] at ht
        obtain ⟨v, cv, hx, hv, hk⟩ := exc_nm (p := p2) G ht.2 hg2
        refine .gen G.hK (E_isx hv hx (G.glb _ hg) (G.blt _ (by decide +kernel)) (fun ae k z => ?_) k1.E (star_of hn)) fun _ => rfl
        obtain ⟨D, h2, h3, _⟩ := G.isE ht.1 ae k z
        exact ⟨D, h3, hk k D h2⟩
      | _ =>
        dsimp only at ht
        rw [beq_iff_eq] at ht
        subst ht
        exact .gen G.hK (E_isi G.hK (fun c z => by cases z) (G.glb _ hg) (G.blt _ (by decide +kernel)) (tyE G (fun c z => by cases z) hg2) k1.E (star_of hn)) fun _ => rfl
    · rename_i p ea es x1 p2 pos
      simp only [Bool.and_eq_true, beq_iff_eq, Bool.not_eq_true', decide_eq_true_eq] at h
      obtain ⟨⟨⟨⟨⟨⟨⟨rfl, hg⟩, hcm⟩, hlen⟩, hle⟩, hty⟩, hn⟩, h1⟩ := h
      have k1 := chE_ok a _ G h1
      obtain ⟨As, hpa, hl, hk⟩ := tys_ok G tys es hty
      refine .gen G.hK (E_isxT hlen hle hl hpa (G.glb _ hg) (G.blt _ (by decide +kernel)) (fun ae k z => ?_) k1.E (star_of hn)) fun _ => rfl
      obtain ⟨D, h2, _, h3⟩ := G.isE hcm ae k z
      exact ⟨D, h3, hk k D h2⟩
    · cases h
  | .ite c a b, e, X, W, sc, G, h => by
    rw [chE] at h
    dsimp only at h
    split at h
    · simp only [Bool.and_eq_true] at h
      have kc := chE_ok c _ G h.1.1
      have ka := chE_ok a _ G h.1.2
      have kb := chE_ok b _ G h.2
      exact ⟨E_ite kc.Te ka.E kb.E, T_ite kc.Te ka.Te kb.Te⟩
    · cases h
  | .comp elt tg it src cond, e, X, W, sc, G, h => by
    rw [chE] at h
    dsimp only at h
    split at h
    · rename_i ee tge iter ifs ia scope pos
      simp only [Bool.and_eq_true, Bool.or_eq_true, decide_eq_true_eq, beq_iff_eq] at h
      obtain ⟨⟨⟨⟨⟨⟨⟨⟨⟨hmd, rfl⟩, hset⟩, hblk⟩, hown⟩, htg⟩, helt⟩, hifs⟩, hcond⟩, hit⟩ := h
      rcases hmd with hcm | ⟨⟨hhs, hrg⟩, hr1⟩
      · split at hit
        · rename_i x es hargs
          rw [Bool.and_eq_true] at hit
          have l := chL_ok src es G hit.2
          obtain ⟨wi, hpi, hwr⟩ := (it_ok G hargs hit.1 l).1 (pur elt && purs cond)
          have hblk' : BlkOk X.N X.env.scope scope (tgOwn B tg) := by
            have b := blkOk_by hblk
            exact ⟨b.kind, b.uniq, by rw [G.hN]; exact b.ix, fun y hy e => G.cf _ (b.free y hy e), fun y hy e => by rw [G.hN]; exact b.own y hy e⟩
          have tgo : TgOk T (tgG X.K tg) tg := (tg_PG (G.blk hcm scope X.s_0 X.H_0 0 [] []) htg).2
          have hg : ∀ (s : Shared) (H : Hp) (Ca : Addr) (cl : List (Str × Addr)) (fp : List Addr), PG (X.blk s H scope (compEnvC scope cl Ca X.env) fp) tge (tgG X.K tg) := fun s H Ca cl fp => (tg_PG (G.blk hcm scope s H Ca cl fp) htg).1
          refine .gen G.hK (E_comp (G.hc hcm) G.nd hpi hblk' hg (fun s H Ca cl fp => ?_) (fun s H Ca cl fp => (chE_ok elt ee (G.blk hcm scope s H Ca cl fp) helt).E) (fold_of hset) hown tgo hwr) fun _ => rfl
          have lc := chL_ok cond ifs (G.blk hcm scope s H Ca cl fp) hcond
          have hlen := lc.len
          cases ifs with
          | nil => cases cond with
            | nil => exact C_nil
            | cons _ _ => simp at hlen
          | cons ec r =>
            cases r with
            | cons _ _ => simp at hifs
            | nil => cases cond with
              | nil => simp at hlen
              | cons c r => cases r with
                | cons _ _ => simp at hlen
                | nil => exact C_one (lc.el c ec List.mem_cons_self).Te
        · cases hit
      · obtain ⟨p, L⟩ := G.hot hhs
        subst hrg
        split at hit
        · rename_i x es hargs
          rw [Bool.and_eq_true] at hit
          have l := chL_ok src es G hit.2
          obtain ⟨wi, hpi, hwr⟩ := it_okH G hargs hr1 hit.1 l (pur elt && purs cond)
          have hblk' : BlkOk X.N X.env.scope scope (tgOwn B tg) := by
            have b := blkOk_by hblk
            exact ⟨b.kind, b.uniq, by rw [G.hN]; exact b.ix, fun y hy e => G.cf _ (b.free y hy e), fun y hy e => by rw [G.hN]; exact b.own y hy e⟩
          have tgo : TgOk T (tgG X.K tg) tg := (tg_PG (G.blkH hhs L scope X.s_0 X.H_0 0 [] []) htg).2
          have hg : ∀ (s : Shared) (H : Hp) (Ca : Addr) (cl : List (Str × Addr)) (fp : List Addr), PG (X.blkH s H scope (compEnvC scope cl Ca X.env) fp p) tge (tgG X.K tg) := fun s H Ca cl fp => (tg_PG (G.blkH hhs L scope s H Ca cl fp) htg).1
          refine .gen G.hK (E_compH L.hot L.pn G.nd hpi hblk' hg (fun s H Ca cl fp => ?_) (fun s H Ca cl fp => (chE_ok elt ee (G.blkH hhs L scope s H Ca cl fp) helt).E) (fold_of hset) hown tgo hwr) fun _ => rfl
          have lc := chL_ok cond ifs (G.blkH hhs L scope s H Ca cl fp) hcond
          have hlen := lc.len
          cases ifs with
          | nil => cases cond with
            | nil => exact C_nil
            | cons _ _ => simp at hlen
          | cons ec r =>
            cases r with
            | cons _ _ => simp at hifs
            | nil => cases cond with
              | nil => simp at hlen
              | cons c r => cases r with
                | cons _ _ => simp at hlen
                | nil => exact C_one (lc.el c ec List.mem_cons_self).Te
        · cases hit
    · cases h
  | .frz a, e, X, W, sc, G, h => by
    rw [chE] at h
    have ka := chE_ok a _ G h
    exact ⟨E_frz ka.E, T_frz ka.Te⟩
  | .dct md ks vs, e, X, W, sc, G, h => by
    rw [chE] at h
    dsimp only at h
    split at h
    · simp only [Bool.and_eq_true, List.isEmpty_iff] at h
      obtain ⟨rfl, rfl⟩ := h
      exact .gen G.hK E_dct0 fun _ => rfl
    · rename_i keys values pos _
      simp only [Bool.and_eq_true, decide_eq_true_eq, Bool.not_eq_true'] at h
      obtain ⟨⟨⟨h1, h2⟩, h3⟩, h4⟩ := h
      obtain ⟨kds, vds, kvs, rfl, rfl, e0, q1, q2, q3, q4, q5, q6, q7, q8⟩ := dctC_of (X := X) (T := T) (pos := pos) ks vs keys values h1
      rw [e0] at h3
      exact .gen G.hK (E_dctC q1 q2 q3 q4 q5 (fun z => by rw [z] at h4; cases h4) h2 q6 q7 q8 h3) fun _ => rfl
    · cases h
  | .pop p k, e, X, W, sc, G, h => by
    rw [chE] at h
    dsimp only at h
    split at h
    · simp only [Bool.and_eq_true, List.isEmpty_iff, beq_iff_eq] at h
      obtain ⟨⟨⟨rfl, rfl⟩, h1⟩, h2⟩ := h
      obtain ⟨q1, q2, q3, q4, _⟩ := nm_of G h1
      exact .gen G.hK (E_pop0 G.hK q1 (base_of q3) (by rw [h2]; exact beq_self_eq_true _)) fun _ => rfl
    · cases h
  | .io _, _, _, _, _, _, h => by rw [chE] at h <;> first | cases h | (intros; intro z; cases z)
  | .bw _, _, _, _, _, _, h => by rw [chE] at h <;> first | cases h | (intros; intro z; cases z)
  | .chn3 _ _ _ _ _ _ _, _, _, _, _, _, h => by rw [chE] at h <;> first | cases h | (intros; intro z; cases z)
  | .attr _ _, _, _, _, _, _, h => by rw [chE] at h <;> first | cases h | (intros; intro z; cases z)
  | .mcall _ _ _, _, _, _, _, _, h => by rw [chE] at h <;> first | cases h | (intros; intro z; cases z)
  | .make _ _ _, _, _, _, _, _, h => by rw [chE] at h <;> first | cases h | (intros; intro z; cases z)
  | .setd _ _ _, _, _, _, _, _, h => by rw [chE] at h <;> first | cases h | (intros; intro z; cases z)
  | .fmt _, _, _, _, _, _, h => by rw [chE] at h <;> first | cases h | (intros; intro z; cases z)
  | .lk i a, e, X, W, sc, G, h => by
    rw [chE] at h
    dsimp only at h
    split at h
    · obtain ⟨h1, h2⟩ := (Bool.and_eq_true _ _).mp h
      exact .gen G.hK (E_lk (by simpa using h1) (chE_ok a _ G h2).E) fun _ => rfl
    · cases h
  | .tmp _, _, _, _, _, _, h => by rw [chE] at h <;> first | cases h | (intros; intro z; cases z)
theorem chL_ok : ∀ (ms : List ME) (es : List Expr) {X : Cx} {W : WX} {sc : Scope}, GE X T W P B k sc → chL B sc ms es = true → LOk X T W P ms es
  | [], es, X, W, sc, G, h => by
    rw [chL] at h
    dsimp only at h
    cases es with
    | nil => exact ⟨rfl, rfl, fun _ _ m => (nomatch m), A_nil, fun q => P_nil, fun z => absurd rfl z, fun z => absurd rfl z⟩
    | cons _ _ => cases h
  | a :: r, es, X, W, sc, G, h => by
    rw [chL] at h
    dsimp only at h
    cases es with
    | nil => cases h
    | cons ea er =>
      simp only [Bool.and_eq_true] at h
      have h1 := chE_ok a ea G h.1.2
      have h2 := chL_ok r er G h.2
      refine ⟨by rw [List.length_cons, List.length_cons, h2.len], by rw [List.all_cons, h.1.1, h2.ns]; rfl, fun a' ea' m => (List.mem_cons.mp m).elim (fun z => by cases z; exact h1) (h2.el a' ea'), A_cons (star_of h.1.1) h1.E h2.A, fun q => P_cons (star_of h.1.1) h1.E (h2.Q q), fun _ pos => ?_, fun _ pos => ?_⟩
      · cases r with
        | nil => cases er with
          | nil => exact ⟨E_and1 h1.E, T_and1 h1.Te⟩
          | cons _ _ => have := h2.len; simp at this
        | cons b r => cases er with
          | nil => have := h2.len; simp at this
          | cons eb er =>
            obtain ⟨r1, r2⟩ := h2.and (fun z => by cases z) pos
            exact ⟨E_andC h1.E r1, T_andC h1.Te r2⟩
      · cases r with
        | nil => cases er with
          | nil => exact ⟨E_or1 h1.E, T_or1 h1.Te⟩
          | cons _ _ => have := h2.len; simp at this
        | cons b r => cases er with
          | nil => have := h2.len; simp at this
          | cons eb er =>
            obtain ⟨r1, r2⟩ := h2.or (fun z => by cases z) pos
            exact ⟨E_orC h1.E r1, T_orC h1.Te r2⟩
theorem chA_ok : ∀ (ms : List ME) (es : List Expr) {X : Cx} {W : WX} {sc : Scope}, GE X T W P B k sc → chA B sc ms es = true → AOk X T W P ms es
  | [], es, X, W, sc, G, h => by
    rw [chA] at h
    dsimp only at h
    cases es with
    | nil => exact ⟨rfl, rfl, G_nil⟩
    | cons _ _ => cases h
  | a :: r, es, X, W, sc, G, h => by
    rw [chA] at h
    dsimp only at h
    cases es with
    | nil => cases h
    | cons ea er =>
      simp only [Bool.and_eq_true] at h
      have h2 := chA_ok r er G h.2
      have h0 := h.1
      split at h0
      · obtain ⟨q1, q2, _⟩ := nm_of G h0
        exact ⟨by rw [List.length_cons, List.length_cons, h2.len], by rw [List.all_cons, q2, h2.ns]; rfl, G_io (star_of q2) q1 h2.A⟩
      · cases h0
      · rename_i a
        rw [Bool.and_eq_true] at h0
        have h1 := chE_ok a ea G h0.2
        exact ⟨by rw [List.length_cons, List.length_cons, h2.len], by rw [List.all_cons, h0.1, h2.ns]; rfl, G_tmp (star_of h0.1) h1.E h2.A⟩
      · rename_i n1 n2 n3
        rw [Bool.and_eq_true] at h0
        have h1 := chE_ok a ea G h0.2
        have hv : isV a = true := by cases a <;> first | rfl | exact absurd rfl (n1 _) | exact absurd rfl (n2 _) | exact absurd rfl (n3 _)
        exact ⟨by rw [List.length_cons, List.length_cons, h2.len], by rw [List.all_cons, h0.1, h2.ns]; rfl, G_v hv (star_of h0.1) h1.E h2.A⟩
end
theorem atm_ok {X : Cx} {W : WX} {sc : Scope} (G : GE X T W P B k sc) {b : ME} {e : Expr} (h : atmB B sc b e = true) : atm b = true ∧ PE X e (tAtm T P b) := by
  unfold atmB at h
  split at h
  · obtain ⟨h1, _⟩ := nm_of G h
    exact ⟨rfl, A_var h1⟩
  · obtain ⟨v, h1, h2, he⟩ := lit_of h
    exact ⟨rfl, A_tC h1 h2 fun e => by rw [ev]⟩
  · rename_i n x p
    simp only [Bool.and_eq_true, beq_iff_eq, dbgB, Bool.not_eq_true'] at h
    obtain ⟨v, u, hm, r, rd⟩ := G.glob n x h.1.1
    exact ⟨rfl, A_tC (pe_glob (G.glb x h.1.2) hm r h.2.1.1) rd fun e => by rw [ev]⟩
  · cases h
theorem pth_ok {X : Cx} {W : WX} {sc : Scope} (G : GE X T W P B k sc) : ∀ (m : ME) (e : Expr), pthB B sc m e = true → pth m = true ∧ PE X e (tPth T P m) ∧ notCall e = true := by
  intro m
  induction m using pth.induct with
  | case1 i =>
    intro e h
    rw [pthB] at h
    obtain ⟨h1, _, h3, _⟩ := nm_of G h
    exact ⟨rfl, P_var h1, h3⟩
  | case2 a b iha =>
    intro e h
    cases e <;> try (rw [pthB] at h <;> first | (cases h; done) | (intros; intro z; cases z; done))
    rename_i ea eb p
    rw [pthB] at h
    simp only [Bool.and_eq_true] at h
    obtain ⟨⟨h1, h2⟩, h3⟩ := h
    obtain ⟨a1, a2, _⟩ := iha ea h2
    obtain ⟨b1, b2⟩ := atm_ok G h3
    exact ⟨by rw [pth, a1, b1]; rfl, P_sub G.hu (plainIx_of h1) a1 b1 a2 b2, rfl⟩
  | case3 p h1 h2 =>
    intro e h
    cases p <;> first | exact absurd rfl (h1 _) | exact absurd rfl (h2 _ _) | (rw [pthB] at h <;> first | (cases h; done) | (intros; intro z; cases z; done) | skip)
end MiS
namespace MiS
open PySem PySem.Spec PyProof.Rows L2
open Mi (D C ME MS ev evs evP evA evAnd evOr evC bor pur purs Ag Fl evS evSs)
/-! ### statements -/
/-- whether a comprehension is stored by swapping -/
def swB (sc : Scope) (e : Expr) (y : Str) (pl : Nat) : Bool := match e with
  | .ListComp _ _ s p => (if sc.kind.isAnnotationScope then ScopeKind.function else sc.kind) == .function && sc.names.lookup y == some .local && pl == p.line && !(s.names.any fun (n, k) => n == y && (k == .local || k == .cell))
  | _ => false
def notTup : Expr → Bool
  | .Tuple _ _ _ => false
  | _ => true
/-- a display whose things go to names side by side -/
def parB (B : Bk) (is : List Nat) (e : Expr) : Bool := match e with
  | .Tuple vs _ _ => vs.all (foldedForSure 8) || (B.cm && !(vs.all (constantsAlone 8)) && (is.length == 2 || is.length == 3) && is.length == vs.length && decide is.Nodup)
  | _ => false
def moId : Mi.Mo → String
  | .append => "list.append" | .extend => "list.extend" | .insert => "list.insert" | .clear => "list.clear"
def moNm : Mi.Mo → Str
  | .append => "append" | .extend => "extend" | .insert => "insert" | .clear => "clear"
def okMo : Mi.Mo → Bool
  | .append => true | .extend => true | _ => false
def isComp : ME → Bool
  | .comp _ _ _ _ _ => true
  | _ => false
def isClear : Mi.Mo → Bool
  | .clear => true
  | _ => false
mutual
def chS (B : Bk) (sc : Scope) (IO : List Nat) : MS → Stmt → Bool
  | .asg fz t x => fun st => match t, st with
    | .nm i, .Assign [.Name y py] e pos => B.N[i]? == some y && locB sc y && !IO.contains i && chE B sc x e && (notComp e || (isComp x && B.cm)) && (!(swB sc e y py.line) || sc.names.lookup y == some .local)
    | .tp is, .Assign [.Tuple es k1 p1] e pos => (notTup e || parB B is e) && notComp e && tgB B sc (.tp is) (.Tuple es k1 p1) && (IO.all fun i => !is.contains i) && chE B sc x e
    | _, _ => false
  | .ssub p ix x => fun st => match p, st with
    | .var i, .Assign [.Subscript eo ei p0] e pos => nmB B sc i eo && chE B sc ix ei && chE B sc x e && notSlice ei
    | p, .Assign [.Subscript eo ei p0] e pos => !Mi.isVarB p && pthB B sc p eo && chE B sc ix ei && chE B sc x e && notSlice ei
    | _, _ => false
  | .mut p o args => fun st => match p, st with
    | .var i, .Expr (.Call (.Attribute eo nm apos) es [] cpos) pos => nmB B sc i eo && nm == moNm o && (apos.endLine == cpos.line) && (okMo o && !es.isEmpty && decide (es.length < 29) && chL B sc args es || isClear o && es.isEmpty && args.isEmpty)
    | p, .Expr (.Call (.Attribute eo nm apos) es [] cpos) pos => !Mi.isVarB p && pthB B sc p eo && nm == moNm o && (apos.endLine == cpos.line) && (okMo o && !es.isEmpty && decide (es.length < 29) && chL B sc args es)
    | _, _ => false
  | .ex x => fun st => match st with
    | .Expr e _ => notComp e && chE B sc x e
    | _ => false
  | .ret x => fun st => match st with
    | .Return (some e) _ => chE B sc x e
    | _ => false
  | .ite c a b => fun st => match st with
    | .If ec ea eb _ => chE B sc c ec && chSs B sc IO a ea && chSs B sc IO b eb
    | _ => false
  | .for_ t it src b => fun st => match st with
    | .For tge iter body [] _ => (B.cm || (B.hs && (it == .seq) && lstM src)) && notSet iter && tgB B sc t tge && (IO.all fun i => !t.slots.contains i) && (match itArgs it tge iter with | some (x, es) => itG it (glbB sc x) && chL B sc src es | none => false) && chSs B sc IO b body
    | _ => false
  | .whl c b => fun st => match st with
    | .While ec body [] _ => B.cm && chE B sc c ec && chSs B sc IO b body
    | _ => false
  | .pass => fun st => match st with
    | .Pass _ => true
    | _ => false
  | .raise c => fun st => match st with
    | .Raise (some (.Call (.Name x _) [.Constant (.str _) _ _] [] _)) none _ => B.cm && B.cname c == some x && glbB sc x && dbgB x
    | _ => false
  | .tri b c i h => fun st => match i, st with
    | some i, .Try body [.ExceptHandler (some (.Name x _)) (some n) (b0 :: suite) _] [] [] _ => B.cm && B.cname c == some x && glbB sc x && dbgB x && B.N[i]? == some n && sc.names.lookup n == some .local && !IO.contains i && chSs B sc IO b body && chSs ⟨B.N, B.gname, B.fname, B.cname, false, B.hname, true⟩ sc IO h (b0 :: suite)
    | none, .Try body [.ExceptHandler (some (.Name x _)) none (b0 :: suite) _] [] [] _ => B.cm && B.cname c == some x && glbB sc x && dbgB x && chSs B sc IO b body && chSs ⟨B.N, B.gname, B.fname, B.cname, false, B.hname, false⟩ sc IO h (b0 :: suite)
    | _, _ => false
  | .tri2 b c h d g => fun st => match st with
    | .Try body [.ExceptHandler (some (.Name x _)) none (b0 :: suite) _, .ExceptHandler (some (.Name y _)) none (b2 :: suite2) _] [] [] _ => B.cm && B.cname c == some x && glbB sc x && dbgB x && B.cname d == some y && glbB sc y && dbgB y && chSs B sc IO b body && chSs ⟨B.N, B.gname, B.fname, B.cname, false, B.hname, false⟩ sc IO h (b0 :: suite) && chSs ⟨B.N, B.gname, B.fname, B.cname, false, B.hname, false⟩ sc IO g (b2 :: suite2)
    | _ => false
  | .cont => fun st => match st with
    | .Continue _ => true
    | _ => false
  | _ => fun _ => false
def chSs (B : Bk) (sc : Scope) (IO : List Nat) : List MS → List Stmt → Bool
  | [] => fun sts => sts.isEmpty
  | m :: r => fun sts => match sts with
    | st :: rest => chS B sc IO m st && chSs B sc IO r rest
    | [] => false
end
structure GS (X : Cx) (T : Tb) (W : WX) (P : Mi.Pr) (B : Bk) (k : Nat) (sc : Scope) : Prop where
  ge : GE X T W P B k sc
  hsc : X.env.scope = sc
  hp : (B.cm = true ∨ B.hs = true) → PassesOwn (model X.prog X.w) X.A X.env X.xe
  tk : B.cm = true → L2N.Takes X W
  stk : X.stack = X.env :: X.outer
  frm : X.env.frame = some X.env.locals
  hxn : B.cm = true → T.hx = none
  exc : ∀ c x, B.cname c = some x → ∃ A, T.cls c = some A ∧ ExcOk X.K X.mg x A
  exm : ∀ k a c A, T.cls k = some a → T.cls c = some A → PySem.W.exmOne X.K (.ref a) (.ref A) = some (P.sub k c)
  excC : ∀ k A, T.cls k = some A → ExcC X.K A
variable {T : Tb} {P : Mi.Pr} {B : Bk} {k : Nat} {IO : List Nat}
theorem GS.try_ {X : Cx} {W W' : WX} {sc : Scope} (hcm : B.cm = true) (G : GS X T W P B k sc) {pn : List (Addr × Obj)} {xe : Value → Shared → Prop} (tk : L2N.Takes (X.tr pn xe) W') (ps : PassesOwn (model X.prog X.w) X.A X.env xe) : GS (X.tr pn xe) T W' P B k sc where
  ge := ⟨G.ge.hK, G.ge.hu, G.ge.hc, G.ge.hN, G.ge.nd, G.ge.vis, G.ge.loc, G.ge.cf, G.ge.glb, G.ge.glob, G.ge.blt, fun z f x h => by
    obtain ⟨ad, fd, ps, r⟩ := (G.ge.fn z f x h).ok
    exact ⟨ad, fd, ps, r⟩, G.ge.hr, fun _ σ => L2N.passAt tk σ, G.ge.cls, G.ge.kit, G.ge.kitV, G.ge.excC, G.ge.cs, fun z => (by rw [G.ge.cs hcm] at z; cases z), fun h f x e => by
    obtain ⟨ad, fd, ps, r⟩ := (G.ge.fnh h f x e).ok
    exact ⟨ad, fd, ps, r⟩, G.ge.hrh⟩
  hsc := G.hsc
  hp := fun _ => ps
  tk := fun _ => tk
  stk := G.stk
  frm := G.frm
  hxn := G.hxn
  exc := G.exc
  exm := G.exm
  excC := G.excC
/-- an except suite -/
theorem GS.suite_ {X : Cx} {W : WX} {sc : Scope} (hcm : B.cm = true) (G : GS X T W P B k sc) {a : Addr} {oe : Obj} {pn : List (Addr × Obj)} {h : Option (Addr × Nat)} (hh : ∀ ae c, h = some (ae, c) → ae = a ∧ ∃ D, T.cls c = some D ∧ L2N.Zn (.ref D) none oe ∧ ∃ vs, oe.data = .fields vs) : GS (X.suite a ((a, oe) :: pn)) (T.hold h) W0 P ⟨B.N, B.gname, B.fname, B.cname, false, B.hname, h.isSome⟩ k sc where
  ge := ⟨G.ge.hK, G.ge.hu, fun z => Bool.noConfusion (show false = true from z), G.ge.hN, G.ge.nd, G.ge.vis, G.ge.loc, G.ge.cf, G.ge.glb, fun n x e => by
    obtain ⟨v, u, h1, h2, h3⟩ := G.ge.glob n x e
    exact ⟨v, u, h1, h2, fun H => (h3 H).hold (G.hxn hcm)⟩, G.ge.blt, fun z => Bool.noConfusion (show false = true from z), fun z => Bool.noConfusion (show false = true from z), fun _ σ pins H s e s' I c => (by
      obtain ⟨_, _, _, _, _, _, _, _, _, _, _, _, w⟩ := c
      exact w.elim), G.ge.cls, G.ge.kit, G.ge.kitV, G.ge.excC, fun z => Bool.noConfusion (show false = true from z), fun z => (by
      obtain ⟨q, e⟩ := Option.isSome_iff_exists.mp z
      obtain ⟨ae, c⟩ := q
      obtain ⟨e1, D, h1, h2, vs, h3⟩ := hh ae c e
      exact ⟨(a, oe), ⟨rfl, vs, h3, h2.2.2 vs h3⟩, List.mem_cons_self, fun ae c e => hh ae c e⟩), fun h f x e => (by
      obtain ⟨ad, fd, ps, r⟩ := (G.ge.fnh h f x e).ok
      exact ⟨ad, fd, ps, r⟩), fun _ => ⟨(G.ge.hr hcm).dp, (G.ge.hr hcm).un⟩⟩
  hsc := G.hsc
  hp := fun _ => PassesOwn.never
  tk := fun z => Bool.noConfusion (show false = true from z)
  stk := G.stk
  frm := G.frm
  hxn := fun z => Bool.noConfusion (show false = true from z)
  exc := G.exc
  exm := G.exm
  excC := G.excC
theorem hold_none (h : T.hx = none) : T.hold none = T := by
  cases T
  simp only [Tb.hold] at h ⊢
  rw [h]
theorem comp_parts {X : Cx} {W : WX} {sc : Scope} (hcm : B.cm = true) (G : GE X T W P B k sc) {elt : ME} {tg : Mi.Tg} {it : Mi.It} {src cond : List ME} {e : Expr} (h : chE B sc (.comp elt tg it src cond) e = true) :
    ∃ (ee tge iter : Expr) (ifs : List Expr) (scope : Scope) (pos : Pos) (wi : TI), e = .ListComp ee [⟨tge, iter, ifs, 0⟩] scope pos ∧ PI X tge iter wi ∧ BlkOk X.N X.env.scope scope (tgOwn B tg) ∧
      (∀ (s : Shared) (H : Hp) (C : Addr) (cl : List (Str × Addr)) (fp : List Addr), PG (X.blk s H scope (compEnvC scope cl C X.env) fp) tge (tgG X.K tg)) ∧
      (∀ (s : Shared) (H : Hp) (C : Addr) (cl : List (Str × Addr)) (fp : List Addr), PTs (X.blk s H scope (compEnvC scope cl C X.env) fp) ifs (trCs T W0 (evC P cond) (purs cond))) ∧
      (∀ (s : Shared) (H : Hp) (C : Addr) (cl : List (Str × Addr)) (fp : List Addr), PE (X.blk s H scope (compEnvC scope cl C X.env) fp) ee (TE' T W0 P elt)) ∧
      (∀ x, foldedSetIterable iter X.env x = pure x) ∧ ∀ σ H Q, TE' T W P (.comp elt tg it src cond) σ H Q → tLc wi (tgG X.K tg) (trCs T W0 (evC P cond) (purs cond)) (TE' T W0 P elt) ((tgOwn B tg).map (·.2)) σ H Q := by
  rw [chE] at h
  dsimp only at h
  split at h
  · rename_i ee tge iter ifs ia scope pos
    simp only [Bool.and_eq_true, decide_eq_true_eq, beq_iff_eq] at h
    obtain ⟨⟨⟨⟨⟨⟨⟨⟨⟨_, rfl⟩, hset⟩, hblk⟩, hown⟩, htg⟩, helt⟩, hifs⟩, hcond⟩, hit⟩ := h
    split at hit
    · rename_i x es hargs
      rw [Bool.and_eq_true] at hit
      have l := chL_ok src es G hit.2
      obtain ⟨wi, hpi, hwr⟩ := (it_ok G hargs hit.1 l).1 (pur elt && purs cond)
      have hblk' : BlkOk X.N X.env.scope scope (tgOwn B tg) := by
        have b := blkOk_by hblk
        exact ⟨b.kind, b.uniq, by rw [G.hN]; exact b.ix, fun y hy e => G.cf _ (b.free y hy e), fun y hy e => by rw [G.hN]; exact b.own y hy e⟩
      have tgo : TgOk T (tgG X.K tg) tg := (tg_PG (G.blk hcm scope X.s_0 X.H_0 0 [] []) htg).2
      refine ⟨ee, tge, iter, ifs, scope, pos, wi, rfl, hpi, hblk', fun s H Ca cl fp => (tg_PG (G.blk hcm scope s H Ca cl fp) htg).1, fun s H Ca cl fp => ?_, fun s H Ca cl fp => (chE_ok elt ee (G.blk hcm scope s H Ca cl fp) helt).E, fold_of hset, comp_rd hown tgo hwr⟩
      have lc := chL_ok cond ifs (G.blk hcm scope s H Ca cl fp) hcond
      have hlen := lc.len
      cases ifs with
      | nil => cases cond with
        | nil => exact C_nil
        | cons _ _ => simp at hlen
      | cons ec r =>
        cases r with
        | cons _ _ => simp at hifs
        | nil => cases cond with
          | nil => simp at hlen
          | cons c r => cases r with
            | cons _ _ => simp at hlen
            | nil => exact C_one (lc.el c ec List.mem_cons_self).Te
    · cases hit
  · cases h
theorem set_ok {X : Cx} {W : WX} {sc : Scope} (G : GS X T W P B k sc) {fz : Bool} {i : Nat} {x : ME} {y : Str} {py pos : Pos} {e : Expr} (hN : B.N[i]? = some y) (hl : locB sc y = true) (hi : i ∉ IO) (hx : chE B sc x e = true) (hc : notComp e = true ∨ (∃ a b c d f, x = .comp a b c d f) ∧ B.cm = true) (hs : swB sc e y py.line = false ∨ sc.names.lookup y = some .local) :
    PS X (.Assign [.Name y py] e pos) (TS' T W IO P (.asg fz (.nm i) x)) := by
  have hN' : X.N[i]? = some y := by rw [G.ge.hN]; exact hN
  obtain ⟨l1, l2⟩ := G.ge.loc y hl
  have plain : swapsWith e (some (.Name y py)) pos.line X.env = pure false → PS X (.Assign [.Name y py] e pos) (TS' T W IO P (.asg fz (.nm i) x)) := fun hsw =>
    S_set hi (ps_set G.ge.nd hN' l1 (chE_ok x e G.ge hx).E hsw l2) fun σ H Q q => q
  rcases hc with hc | ⟨⟨a, b, c, d, f, rfl⟩, hcm⟩
  · exact plain (swap_of hc)
  · obtain ⟨ee, tge, iter, ifs, scope, cpos, wi, rfl, h1, h2, h3, h4, h5, h6, h7⟩ := comp_parts hcm G.ge hx
    have esw : swapsWith (.ListComp ee [⟨tge, iter, ifs, 0⟩] scope cpos) (some (.Name y py)) pos.line X.env = pure (swB sc (.ListComp ee [⟨tge, iter, ifs, 0⟩] scope cpos) y py.line) := by
      rw [← G.hsc]
      rfl
    cases hb : swB sc (.ListComp ee [⟨tge, iter, ifs, 0⟩] scope cpos) y py.line with
    | false => exact plain (by rw [esw, hb])
    | true =>
      have hloc : sc.names.lookup y = some .local := hs.resolve_left (by rw [hb]; exact Bool.noConfusion)
      refine S_set hi (ps_setLc (G.ge.hc hcm) G.ge.nd hN' (by rw [G.hsc]; exact hloc) (by rw [esw, hb]) h1 h2 h3 h4 h5 h6) h7
theorem mut_ok {X : Cx} {W : WX} {sc : Scope} (G : GS X T W P B k sc) {i : Nat} {o : Mi.Mo} {a : ME} {r : List ME} {eo e : Expr} {es : List Expr} {apos cpos pos : Pos} (ho : okMo o = true) (hn : nmB B sc i eo = true) (hl : (apos.endLine == cpos.line) = true) (l : LOk X T W P (a :: r) (e :: es)) (h29 : (e :: es).length < 29) :
    PS X (.Expr (.Call (.Attribute eo (moNm o) apos) (e :: es) [] cpos) pos) (TS' T W IO P (.mut (.var i) o (a :: r))) := by
  obtain ⟨q1, q2, q3, q4, _⟩ := nm_of G.ge hn
  have ns := l.ns
  rw [List.all_cons, Bool.and_eq_true] at ns
  have hlx : (apos.endLine == cpos.line) = true := hl
  cases o with
  | append => exact S_mut G.ge.hK PySem.F.slot_list_append PySem.F.type_list_append rMo_append q1 l.A (swap_of rfl) (base_of q3) (few_of l.ns h29) hlx (star_of ns.1) (plain_of ns.2)
  | extend => exact S_mut G.ge.hK PySem.F.slot_list_extend PySem.F.type_list_extend (rMo_extend G.ge.hK) q1 l.A (swap_of rfl) (base_of q3) (few_of l.ns h29) hlx (star_of ns.1) (plain_of ns.2)
  | insert => cases ho
  | clear => cases ho
theorem mutP_ok {X : Cx} {W : WX} {sc : Scope} (G : GS X T W P B k sc) {p : ME} {o : Mi.Mo} {a : ME} {r : List ME} {eo e : Expr} {es : List Expr} {apos cpos pos : Pos} (hv : Mi.isVarB p = false) (ho : okMo o = true) (hn : pthB B sc p eo = true) (hl : (apos.endLine == cpos.line) = true) (l : LOk X T W P (a :: r) (e :: es)) (h29 : (e :: es).length < 29) :
    PS X (.Expr (.Call (.Attribute eo (moNm o) apos) (e :: es) [] cpos) pos) (TS' T W IO P (.mut p o (a :: r))) := by
  obtain ⟨q1, q2, q3⟩ := pth_ok G.ge p eo hn
  have ns := l.ns
  rw [List.all_cons, Bool.and_eq_true] at ns
  have hlx : (apos.endLine == cpos.line) = true := hl
  cases o with
  | append => exact S_mutP q1 hv G.ge.hK PySem.F.slot_list_append PySem.F.type_list_append rMo_append q2 l.A (swap_of rfl) (base_of q3) (few_of l.ns h29) hlx (star_of ns.1) (plain_of ns.2)
  | extend => exact S_mutP q1 hv G.ge.hK PySem.F.slot_list_extend PySem.F.type_list_extend (rMo_extend G.ge.hK) q2 l.A (swap_of rfl) (base_of q3) (few_of l.ns h29) hlx (star_of ns.1) (plain_of ns.2)
  | insert => cases ho
  | clear => cases ho
theorem tp_nm {B : Bk} {sc : Scope} {is : List Nat} {es : List Expr} {k1 : Nat} {p1 : Pos} (h : tgB B sc (.tp is) (.Tuple es k1 p1) = true) : is.length = es.length ∧ ∀ p ∈ is.zip es, ∃ x q, p.2 = .Name x q ∧ B.N[p.1]? = some x := by
  unfold tgB at h
  simp only [Bool.and_eq_true, decide_eq_true_eq, List.all_eq_true] at h
  refine ⟨h.1.2, fun p m => ?_⟩
  have := h.2 p m
  split at this
  · rename_i x q e
    rw [Bool.and_eq_true, beq_iff_eq] at this
    exact ⟨x, q, e, this.1⟩
  · cases this
mutual
theorem chS_ok : ∀ (m : MS) (st : Stmt) {B : Bk} {T : Tb} {X : Cx} {W : WX} {sc : Scope}, GS X T W P B k sc → chS B sc IO m st = true → PS X st (TS' T W IO P m)
  | .asg fz t x, st, B, T, X, W, sc, G, h => by
    rw [chS] at h
    dsimp only at h
    split at h
    · rename_i i y py e pos
      simp only [Bool.and_eq_true, Bool.or_eq_true, beq_iff_eq, Bool.not_eq_true', List.contains_iff_mem, decide_eq_true_eq] at h
      obtain ⟨⟨⟨⟨⟨h1, h2⟩, h3⟩, h4⟩, h5⟩, h6⟩ := h
      refine set_ok G h1 h2 (by intro m; have := List.contains_iff_mem.mpr m; rw [this] at h3; cases h3) h4 (h5.imp id fun z => ?_) h6
      refine ⟨?_, z.2⟩
      have z := z.1
      cases x <;> first | (cases z; done) | exact ⟨_, _, _, _, _, rfl⟩
    · rename_i is es k1 p1 e pos
      simp only [Bool.and_eq_true, Bool.not_eq_true', List.all_eq_true] at h
      obtain ⟨⟨⟨⟨h2, hnc⟩, h3⟩, h4⟩, h5⟩ := h
      obtain ⟨g1, g2⟩ := tg_PG G.ge h3
      have hio : ∀ i ∈ IO, i ∉ is := fun i m z => by
        have := h4 i m
        rw [List.contains_iff_mem.mpr z] at this; cases this
      have hsw : swapsWithSole [.Tuple es k1 p1] e pos.line X.env = pure false := (swap_of hnc : swapsWith e (some (.Tuple es k1 p1)) pos.line X.env = pure false)
      have plain : swappedStores [.Tuple es k1 p1] e X.env = pure none → PS X (.Assign [.Tuple es k1 p1] e pos) (TS' T W IO P (.asg fz (.tp is) x)) := fun z =>
        S_tup hio g2 (ps_asg (PE.lk (chE_ok x e G.ge h5).E) g1 hsw z rfl) fun σ H Q q => q
      rcases (Bool.or_eq_true _ _).mp h2 with h2 | h2
      · refine plain ?_
        unfold swappedStores
        cases e <;> first | rfl | cases h2
      · unfold parB at h2
        split at h2
        · rename_i vs k2 p2 _
          rcases (Bool.or_eq_true _ _).mp h2 with hf | h2
          · exact plain (sw_fold hf)
          · simp only [Bool.and_eq_true, Bool.not_eq_true', Bool.or_eq_true, beq_iff_eq, decide_eq_true_eq] at h2
            obtain ⟨⟨⟨⟨hcm, hca⟩, h23⟩, hlv⟩, hnd⟩ := h2
            obtain ⟨hlen, hnm⟩ := tp_nm h3
            have rev : ∀ ids : List Str, swappedStores [.Tuple es k1 p1] (.Tuple vs k2 p2) X.env = pure (some ids) → ids.length = is.length → (∀ p ∈ is.zip ids, X.N[p.1]? = some p.2 ∧ X.env.scope.names.lookup p.2 = some .local) → PS X (.Assign [.Tuple es k1 p1] (.Tuple vs k2 p2) pos) (TS' T W IO P (.asg fz (.tp is) x)) := fun ids z hl hid =>
              S_tup hio (tg_rev G.ge.hK hnd h23) (ps_rev (G.ge.hc hcm) (PE.lk (chE_ok x _ G.ge h5).E) hsw z hl G.ge.nd hid) fun σ H Q q => q
            rcases h23 with z | z
            · obtain ⟨i, j, rfl⟩ := ls2 z
              obtain ⟨a, b, rfl⟩ := ls2 (hlv.symm.trans z)
              obtain ⟨e1, e2, rfl⟩ := ls2 (hlen.symm.trans z)
              obtain ⟨x1, q1, rfl, n1⟩ := hnm (i, e1) List.mem_cons_self
              obtain ⟨x2, q2, rfl, n2⟩ := hnm (j, e2) (List.mem_cons_of_mem _ List.mem_cons_self)
              rcases sw2 (x := x1) (y := x2) (px := q1) (py := q2) (kt := k1) (pt := p1) (k2 := k2) (pt2 := p2) (env := X.env) hca with w | ⟨w, k1', k2'⟩
              · exact plain w
              · refine rev [x1, x2] w rfl fun p m => ?_
                rcases List.mem_cons.mp m with rfl | m
                · exact ⟨by rw [G.ge.hN]; exact n1, k1'⟩
                · rcases List.mem_cons.mp m with rfl | m
                  · exact ⟨by rw [G.ge.hN]; exact n2, k2'⟩
                  · cases m
            · obtain ⟨i, j, l, rfl⟩ := ls3 z
              obtain ⟨a, b, c, rfl⟩ := ls3 (hlv.symm.trans z)
              obtain ⟨e1, e2, e3, rfl⟩ := ls3 (hlen.symm.trans z)
              obtain ⟨x1, q1, rfl, n1⟩ := hnm (i, e1) List.mem_cons_self
              obtain ⟨x2, q2, rfl, n2⟩ := hnm (j, e2) (List.mem_cons_of_mem _ List.mem_cons_self)
              obtain ⟨x3, q3, rfl, n3⟩ := hnm (l, e3) (List.mem_cons_of_mem _ (List.mem_cons_of_mem _ List.mem_cons_self))
              rcases sw3 (x := x1) (y := x2) (z := x3) (px := q1) (py := q2) (pz := q3) (kt := k1) (pt := p1) (k2 := k2) (pt2 := p2) (env := X.env) hca with w | ⟨w, k1', k2', k3'⟩
              · exact plain w
              · refine rev [x1, x2, x3] w rfl fun p m => ?_
                rcases List.mem_cons.mp m with rfl | m
                · exact ⟨by rw [G.ge.hN]; exact n1, k1'⟩
                · rcases List.mem_cons.mp m with rfl | m
                  · exact ⟨by rw [G.ge.hN]; exact n2, k2'⟩
                  · rcases List.mem_cons.mp m with rfl | m
                    · exact ⟨by rw [G.ge.hN]; exact n3, k3'⟩
                    · cases m
        · cases h2
    · cases h
  | .ssub p ix x, st, B, T, X, W, sc, G, h => by
    rw [chS] at h
    dsimp only at h
    split at h
    · rename_i i eo ei p0 e pos
      simp only [Bool.and_eq_true] at h
      obtain ⟨⟨⟨h1, h2⟩, h3⟩, h4⟩ := h
      obtain ⟨q1, q2, q3, q4, _⟩ := nm_of G.ge h1
      refine S_ssub G.ge.hK G.ge.hu q1 (chE_ok ix ei G.ge h2).E (chE_ok x e G.ge h3).E (fun v => ?_) ?_ ?_ rfl
      · cases ei <;> first | rfl | cases h4
      · cases e <;> rfl
      · cases e <;> rfl
    · rename_i eo ei p0 e pos hneg
      simp only [Bool.and_eq_true, Bool.not_eq_true'] at h
      obtain ⟨⟨⟨⟨h0, h1⟩, h2⟩, h3⟩, h4⟩ := h
      obtain ⟨q1, q2, q3⟩ := pth_ok G.ge _ _ h1
      refine S_ssubP G.ge.hu q1 h0 G.ge.hK q2 (chE_ok ix ei G.ge h2).E (chE_ok x e G.ge h3).E (fun v => ?_) ?_ ?_ rfl
      · cases ei <;> first | rfl | cases h4
      · cases e <;> rfl
      · cases e <;> rfl
    · cases h
  | .mut p o args, st, B, T, X, W, sc, G, h => by
    rw [chS] at h
    dsimp only at h
    split at h
    · rename_i i eo nm apos es cpos pos
      simp only [Bool.and_eq_true, Bool.or_eq_true, beq_iff_eq, Bool.not_eq_true', decide_eq_true_eq] at h
      obtain ⟨⟨⟨h1, rfl⟩, h3⟩, h4⟩ := h
      have h3' : (apos.endLine == cpos.line) = true := by rw [h3]; exact beq_self_eq_true _
      rcases h4 with ⟨⟨⟨h5, h6⟩, h7⟩, h8⟩ | ⟨⟨h5, h6⟩, h7⟩
      · have l := chL_ok args es G.ge h8
        cases es with
        | nil => cases h6
        | cons e es => cases args with
          | nil => have := l.len; simp at this
          | cons a r => exact mut_ok G h5 h1 h3' l h7
      · cases o <;> first | (cases h5; done) | skip
        cases es with
        | cons _ _ => cases h6
        | nil => cases args with
          | cons _ _ => cases h7
          | nil =>
            obtain ⟨q1, q2, q3, q4, _⟩ := nm_of G.ge h1
            exact S_clear G.ge.hK q1 (swap_of rfl) (base_of q3) h3'
    · rename_i eo nm apos es cpos pos hneg
      simp only [Bool.and_eq_true, beq_iff_eq, Bool.not_eq_true', decide_eq_true_eq] at h
      obtain ⟨⟨⟨⟨h0, h1⟩, rfl⟩, h3⟩, ⟨⟨h5, h6⟩, h7⟩, h8⟩ := h
      have h3' : (apos.endLine == cpos.line) = true := by rw [h3]; exact beq_self_eq_true _
      have l := chL_ok args es G.ge h8
      cases es with
      | nil => cases h6
      | cons e es => cases args with
        | nil => have := l.len; simp at this
        | cons a r => exact mutP_ok G h0 h5 h1 h3' l h7
    · cases h
  | .ex x, st, B, T, X, W, sc, G, h => by
    rw [chS] at h
    dsimp only at h
    split at h
    · simp only [Bool.and_eq_true] at h
      exact S_ex (swap_of h.1) (chE_ok x _ G.ge h.2).E
    · cases h
  | .ret x, st, B, T, X, W, sc, G, h => by
    rw [chS] at h
    dsimp only at h
    split at h
    · exact S_ret (chE_ok x _ G.ge h).E
    · cases h
  | .ite c a b, st, B, T, X, W, sc, G, h => by
    rw [chS] at h
    dsimp only at h
    split at h
    · simp only [Bool.and_eq_true] at h
      exact S_ite (chE_ok c _ G.ge h.1.1).Te (chSs_ok a _ G h.1.2) (chSs_ok b _ G h.2)
    · cases h
  | .for_ t it src b, st, B, T, X, W, sc, G, h => by
    rw [chS] at h
    dsimp only at h
    split at h
    · rename_i tge iter body pos
      simp only [Bool.and_eq_true, Bool.or_eq_true, List.all_eq_true, Bool.not_eq_true', beq_iff_eq] at h
      obtain ⟨⟨⟨⟨⟨hmd, h1⟩, h2⟩, h3⟩, h4⟩, h5⟩ := h
      split at h4
      · rename_i x es hargs
        rw [Bool.and_eq_true] at h4
        obtain ⟨g1, g2⟩ := tg_PG G.ge h2
        have hio : ∀ i ∈ IO, i ∉ t.slots := fun i m z => by
          have := h3 i m
          rw [List.contains_iff_mem.mpr z] at this; cases this
        rcases hmd with hcm | ⟨⟨hhs, hsq⟩, hlm⟩
        · obtain ⟨wi, hpi, hwr⟩ := (it_ok G.ge hargs h4.1 (chL_ok src es G.ge h4.2)).2
          exact S_for (G.hp (.inl hcm)) (G.ge.hc hcm) hpi g1 (chSs_ok b _ G h5) (fold_of h1) g2 hio hwr
        · subst hsq
          obtain ⟨p, L⟩ := G.ge.hot hhs
          have l := chL_ok src es G.ge h4.2
          have hl := l.len
          simp only [itArgs] at hargs
          split at hargs
          · cases hargs
            match src, hlm, hl, l with
            | [.lst ms], _, _, l =>
              have e := l.el (.lst ms) iter List.mem_cons_self
              exact S_forH (G.hp (.inr hhs)) ⟨p, L.hot, L.pn⟩ (pih_seqL G.ge.hK (A_one e.E)) g1 (chSs_ok b _ G h5) (fold_of h1) g2 hio (fun e cs e1 z => evs_lst z) fun σ H R => itR_L σ H R
            | [.frz (.lst ms)], _, _, l =>
              have e := l.el (.frz (.lst ms)) iter List.mem_cons_self
              exact S_forH (G.hp (.inr hhs)) ⟨p, L.hot, L.pn⟩ (pih_seqL G.ge.hK (A_one e.E)) g1 (chSs_ok b _ G h5) (fold_of h1) g2 hio (fun e cs e1 z => evs_frz z) fun σ H R => itR_L σ H R
          · cases hargs
      · cases h4
    · cases h
  | .whl c b, st, B, T, X, W, sc, G, h => by
    rw [chS] at h
    dsimp only at h
    split at h
    · simp only [Bool.and_eq_true] at h
      exact S_whl (G.hp (.inl h.1.1)) (chE_ok c _ G.ge h.1.2).Te (chSs_ok b _ G h.2)
    · cases h
  | .pass, st, B, T, X, W, sc, G, h => by
    rw [chS] at h
    dsimp only at h
    split at h
    · exact S_pass
    · cases h
  | .cont, st, B, T, X, W, sc, G, h => by
    rw [chS] at h
    dsimp only at h
    split at h
    · exact S_cont
    · cases h
  | .sattr _ _ _, _, _, _, _, _, _, _, h => by rw [chS] at h <;> first | cases h | (intros; intro z; cases z)
  | .raise c, st, B, T, X, W, sc, G, h => by
    rw [chS] at h
    dsimp only at h
    split at h
    · simp only [Bool.and_eq_true, beq_iff_eq, dbgB, Bool.not_eq_true'] at h
      obtain ⟨⟨⟨hcm, h1⟩, h2⟩, h3⟩ := h
      obtain ⟨A, hA, ok⟩ := G.exc c _ h1
      exact S_raise (G.ge.hc hcm) (G.tk hcm) ok hA (G.ge.glb _ h2) h3.1.1
    · cases h
  | .tri b c i hd, st, B, T, X, W, sc, G, h => by
    rw [chS] at h
    dsimp only at h
    split at h
    · rename_i i body x p1 n b0 suite p2 p3
      simp only [Bool.and_eq_true, beq_iff_eq, dbgB, Bool.not_eq_true'] at h
      obtain ⟨⟨⟨⟨⟨⟨⟨⟨hcm, h1⟩, h2⟩, h3⟩, h4⟩, h5⟩, h6⟩, h7⟩, h8⟩ := h
      obtain ⟨A, hA, ok⟩ := G.exc c _ h1
      refine S_tryA G.stk G.frm G.ge.nd (by rw [G.ge.hN]; exact h4) (by rw [← G.hsc] at h5; exact h5) ⟨G.ge.glb _ h2, h3.1.1, .inl ok.g⟩ (G.tk hcm) (G.hxn hcm) (fun m => by rw [List.contains_iff_mem.mpr m] at h6; cases h6) (fun k a hk => G.exm k a c A hk hA)
        (fun W pn xe tk ps => chSs_ok b body (G.try_ hcm tk ps) h7) fun a oe pn k ca hk hz hv => chSs_ok hd (b0 :: suite) (G.suite_ hcm fun ae c e => by cases e; exact ⟨rfl, ca, hk, hz, hv⟩) h8
    · rename_i body x p1 b0 suite p2 p3
      simp only [Bool.and_eq_true, beq_iff_eq, dbgB, Bool.not_eq_true'] at h
      obtain ⟨⟨⟨⟨⟨hcm, h1⟩, h2⟩, h3⟩, h7⟩, h8⟩ := h
      obtain ⟨A, hA, ok⟩ := G.exc c _ h1
      refine S_try1 G.stk G.frm ⟨G.ge.glb _ h2, h3.1.1, .inl ok.g⟩ (G.tk hcm) (fun k a hk => G.exm k a c A hk hA)
        (fun W pn xe tk ps => chSs_ok b body (G.try_ hcm tk ps) h7) fun a oe pn => ?_
      have := chSs_ok hd (b0 :: suite) (G.suite_ (a := a) (oe := oe) (pn := pn) hcm (h := none) fun ae c e => by cases e) h8
      rw [hold_none (G.hxn hcm)] at this
      exact this
    · cases h
  | .tri2 b c hd d g, st, B, T, X, W, sc, G, h => by
    rw [chS] at h
    dsimp only at h
    split at h
    · rename_i body x p1 b0 suite p2 y p4 b2 suite2 p5 p6
      simp only [Bool.and_eq_true, beq_iff_eq, dbgB, Bool.not_eq_true'] at h
      obtain ⟨⟨⟨⟨⟨⟨⟨⟨⟨hcm, h1⟩, h2⟩, h3⟩, h4⟩, h5⟩, h6⟩, h7⟩, h8⟩, h9⟩ := h
      obtain ⟨A, hA, ok⟩ := G.exc c _ h1
      obtain ⟨A2, hA2, ok2⟩ := G.exc d _ h4
      refine S_try2 G.stk G.frm ⟨G.ge.glb _ h2, h3.1.1, .inl ok.g⟩ ⟨G.ge.glb _ h5, h6.1.1, .inl ok2.g⟩ (G.tk hcm) (fun k a hk => G.exm k a c A hk hA) (fun k a hk => G.exm k a d A2 hk hA2)
        (fun W pn xe tk ps => chSs_ok b body (G.try_ hcm tk ps) h7) (fun a oe pn => ?_) fun a oe pn => ?_
      · have := chSs_ok hd (b0 :: suite) (G.suite_ (a := a) (oe := oe) (pn := pn) hcm (h := none) fun ae c e => by cases e) h8
        rw [hold_none (G.hxn hcm)] at this
        exact this
      · have := chSs_ok g (b2 :: suite2) (G.suite_ (a := a) (oe := oe) (pn := pn) hcm (h := none) fun ae c e => by cases e) h9
        rw [hold_none (G.hxn hcm)] at this
        exact this
    · cases h
theorem chSs_ok : ∀ (ms : List MS) (sts : List Stmt) {B : Bk} {T : Tb} {X : Cx} {W : WX} {sc : Scope}, GS X T W P B k sc → chSs B sc IO ms sts = true → PSs X sts (TSs' T W IO P ms)
  | [], sts, B, T, X, W, sc, G, h => by
    rw [chSs] at h
    cases sts with
    | nil => exact S_nil
    | cons _ _ => cases h
  | m :: r, sts, B, T, X, W, sc, G, h => by
    rw [chSs] at h
    cases sts with
    | nil => cases h
    | cons st rest =>
      simp only [Bool.and_eq_true] at h
      exact S_cons (chS_ok m st G h.1) (chSs_ok r rest G h.2)
end
end MiS
namespace MiS
open PySem PySem.Spec PyProof.Rows L2
open Mi (D C ME MS ev evs evP evA evAnd evOr evC bor pur purs Ag Fl evS evSs)
/-! ### defs -/
structure FnI where
  x : Str
  st : Stmt
  N : List Str
  ps : List Str
  d : Mi.Fd
structure FnT (gname fname cname hname : Nat → Option Str) (c : Bool) (F : FnI) : Prop where
  sc : FnScope F.N F.ps (defScope F.st)
  np : F.d.np = F.ps.length
  ns : F.d.ns = F.N.length
  le : F.ps.length ≤ F.N.length
  io : F.d.io.Nodup
  ps : ∀ i ∈ F.d.io, i < F.ps.length
  ch : c = true → chSs ⟨F.N, gname, fname, cname, true, hname, false⟩ (defScope F.st) F.d.io F.d.body (defBody F.st) = true
variable {T : Tb}
/-- the slots at a def's beginning -/
theorem start_re {H : Hp} : ∀ {cs : List C} {vs : List V} {F : List Addr}, RCs T H cs vs F → F.Nodup → ∃ fp : Nat → List Addr, (∀ (i : Nat) (c : C), cs[i]? = some c → ∃ v, vs[i]? = some v ∧ RC T H c v (fp i)) ∧ (∀ i, (fp i).Nodup) ∧ (∀ i j a, i ≠ j → a ∈ fp i → a ∉ fp j) ∧ (∀ i a, a ∈ fp i → a ∈ F)
  | _, _, _, .nil, _ => ⟨fun _ => [], fun i c h => by simp at h, fun _ => .nil, fun _ _ _ _ m => (nomatch m), fun _ _ m => (nomatch m)⟩
  | _, _, _, .cons (v := v) (F := F) (G := G) h r, n => by
    obtain ⟨n1, n2, n3⟩ := List.nodup_append.mp n
    obtain ⟨fp, h1, h2, h3, h4⟩ := start_re r n2
    refine ⟨fun i => match i with | 0 => F | i + 1 => fp i, fun i c hc => ?_, fun i => ?_, fun i j a ne m m' => ?_, fun i a m => ?_⟩
    · cases i with
      | zero => cases hc; exact ⟨v, rfl, h⟩
      | succ i => exact h1 i c hc
    · cases i with
      | zero => exact n1
      | succ i => exact h2 i
    · cases i with
      | zero => cases j with
        | zero => exact ne rfl
        | succ j => exact n3 a m a (h4 j a m') rfl
      | succ i => cases j with
        | zero => exact n3 a m' a (h4 i a m) rfl
        | succ j => exact h3 i j a (fun z => ne (by rw [z])) m m'
    · cases i with
      | zero => exact List.mem_append_left _ m
      | succ i => exact List.mem_append_right _ (h4 i a m)
theorem start_get {cs : List C} {n i : Nat} {c : C} (h : (Mi.start n cs)[i]? = some (some c)) : cs[i]? = some c := by
  unfold Mi.start at h
  by_cases hi : i < cs.length
  · rw [List.getElem?_append_left (by simpa using hi), List.getElem?_map] at h
    cases hc : cs[i]? with
    | none => rw [hc] at h; cases h
    | some d => rw [hc] at h; cases h; rfl
  · rw [List.getElem?_append_right (by simp; omega)] at h
    rw [List.getElem?_replicate] at h
    split at h <;> cases h
theorem startV_get {vs : List V} {N : List Str} {i : Nat} {v : V} (h : vs[i]? = some v) : (L2.start N vs)[i]? = some (some v) := by
  have hi : i < vs.length := (List.getElem?_eq_some_iff.mp h).1
  unfold L2.start
  rw [List.getElem?_append_left (by simpa using hi), List.getElem?_map, h]
  rfl
/-- what the slots handed in hold at the end -/
theorem outs_ok {H : Hp} {e : Mi.Env} {σ : L2.St} {fp : Nat → List Addr} {vs : List V} {Fx : List Addr} (r : RE T H e σ fp) (hx : ∀ a ∈ Fx, ¬ own fp a) (nx : Fx.Nodup) : ∀ {io : List Nat} {os : List C}, Mi.outsOf e io = some os → io.Nodup → (∀ i ∈ io, ∃ v, vs[i]? = some v ∧ σ[i]? = some (some v)) →
    ∃ Fo, RCs T H os (pick io vs) Fo ∧ (Fx ++ Fo).Nodup ∧ ∀ a ∈ Fo, own fp a ∧ ∃ i ∈ io, a ∈ fp i
  | [], os, h, _, _ => by
    rw [Mi.outsOf] at h
    cases h
    exact ⟨[], .nil, by rw [List.append_nil]; exact nx, fun _ m => nomatch m⟩
  | i :: io, os, h, n, hv => by
    rw [Mi.outsOf] at h
    split at h
    · rename_i c hc
      rw [Option.map_eq_some_iff] at h
      obtain ⟨os', h1, rfl⟩ := h
      obtain ⟨n1, n2⟩ := List.nodup_cons.mp n
      obtain ⟨Fo, r1, r2, r3⟩ := outs_ok r hx nx h1 n2 fun j m => hv j (List.mem_cons_of_mem _ m)
      obtain ⟨v, e1, e2⟩ := hv i List.mem_cons_self
      obtain ⟨v', e3, rc⟩ := r.at_ i c hc
      have : v' = v := by rw [e2] at e3; cases e3; rfl
      subst this
      have ep : pick (i :: io) vs = v' :: pick io vs := by unfold pick; rw [List.filterMap_cons, e1]
      rw [ep]
      obtain ⟨m1, m2, m3⟩ := List.nodup_append.mp r2
      refine ⟨fp i ++ Fo, .cons rc r1, List.nodup_append.mpr ⟨m1, List.nodup_append.mpr ⟨r.nod i, m2, fun a ha b hb z => ?_⟩, fun a ha b hb z => ?_⟩, fun a m => ?_⟩
      · subst z
        obtain ⟨j, hj, mj⟩ := (r3 a hb).2
        exact r.dis i j a (fun q => n1 (q ▸ hj)) ha mj
      · subst z
        rcases List.mem_append.mp hb with hb | hb
        · exact hx a ha ⟨i, hb⟩
        · exact m3 a ha a hb rfl
      · rcases List.mem_append.mp m with m | m
        · exact ⟨⟨i, m⟩, i, List.mem_cons_self, m⟩
        · obtain ⟨o, j, hj, mj⟩ := r3 a m
          exact ⟨o, j, List.mem_cons_of_mem _ hj, mj⟩
    · cases h
def prK (G : Mi.Pg) (k : Nat) : Mi.Pr := ⟨Mi.run G k, Mi.iosOf G, G.glob, G.sub, G.wf⟩
/-- the promise of a def from its body's reading -/
theorem body_rd {G : Mi.Pg} {k f : Nat} {F : FnI} {vs : List V} {H : Hp} {Q : VK} {E : XK} {gname fname cname hname : Nat → Option Str} {c : Bool} (ft : FnT gname fname cname hname c F) (hd : G.fd f = some F.d) (h : spM T (Mi.run G (k + 1) f) F.ps.length (Mi.iosOf G f) vs H Q E) :
    TSs' T (fun cls d _ H => E cls d H) F.d.io (prK G k) F.d.body { nx := fun _ H' => Q .non H', rt := Q } (L2.start F.N vs) H := by
  obtain ⟨hl, cs, Fa, rc, n, hr⟩ := h
  have hio : Mi.iosOf G f = F.d.io := by unfold Mi.iosOf; rw [hd]
  rw [hio] at hr
  rw [Mi.run, hd] at hr
  dsimp only at hr
  unfold Mi.runFd at hr
  have hcl : cs.length = F.d.np := by rw [rcs_length rc, hl, ft.np]
  rw [if_pos hcl] at hr
  obtain ⟨fp, h1, h2, h3, h4⟩ := start_re rc n
  have re : RE T H (Mi.start F.d.ns cs) (L2.start F.N vs) fp := by
    refine ⟨?_, fun i c hc => ?_, h2, h3, fun i a m => RCs.cell rc a (h4 i a m)⟩
    · unfold Mi.start L2.start
      have := ft.le
      rw [List.length_append, List.length_map, List.length_replicate, List.length_append, List.length_map, List.length_replicate, hcl, ft.np, hl, ft.ns]
    · obtain ⟨v, hv, r⟩ := h1 i c (start_get hc)
      exact ⟨v, startV_get hv, r⟩
  have ownF : ∀ a, own fp a → a ∈ Fa := fun a ⟨i, m⟩ => h4 i a m
  have hv0 : ∀ i ∈ F.d.io, ∃ v, vs[i]? = some v := fun i m => ⟨vs[i]'(by rw [hl]; exact ft.ps i m), List.getElem?_eq_getElem _⟩
  have stF : ∀ {H2 : Hp}, Stp (own fp) H H2 → Stp (· ∈ Fa) H H2 := fun s => s.mono ownF
  -- at an end
  have fin : ∀ (c : C) (e' : Mi.Env) (v : V) (σ' : L2.St) (H' : Hp) (fp' : Nat → List Addr) (Fc : List Addr), SpS T F.d.io (L2.start F.N vs) H (own fp) σ' H' e' fp' → RC T H' c v Fc → Tmp H (own fp) false fp' Fc → spR T F.d.io (Mi.endOf F.d.io c e') Fa vs H Q E → Q v H' := by
    intro c e' v σ' H' fp' Fc s r t hr
    unfold Mi.endOf at hr
    cases ho : Mi.outsOf e' F.d.io with
    | none => rw [ho] at hr; exact hr.elim
    | some os =>
      rw [ho] at hr
      obtain ⟨Fo, r1, r2, r3⟩ := outs_ok (vs := vs) s.sp.re t.out t.nod ho ft.io fun i m => by
        obtain ⟨v0, hv0⟩ := hv0 i m
        exact ⟨v0, hv0, by rw [s.io i m]; exact startV_get hv0⟩
      refine hr v H' Fc Fo r r1 (stF s.sp.stp) s.sp.keep r2 fun a m => ?_
      rcases List.mem_append.mp m with m | m
      · exact (t.sub a m).imp (ownF a) id
      · exact (s.sp.sub a (r3 a m).1).imp (ownF a) id
  refine ⟨_, fp, re, ?_⟩
  have e0 : evSs (prK G k) F.d.body (Mi.start F.d.ns cs) = evSs ⟨Mi.run G k, Mi.iosOf G, G.glob, G.sub, G.wf⟩ F.d.body (Mi.start F.d.ns cs) := rfl
  cases hb : evSs (prK G k) F.d.body (Mi.start F.d.ns cs) with
  | ok o e' =>
    rw [← e0, hb] at hr
    cases o with
    | nx => exact fun σ' H' fp' s => fin (.val .non) e' .non σ' H' fp' [] s (.val .non) .nil hr
    | ct => exact hr.elim
    | rt c => exact fun v σ' H' fp' Fc s r t => fin c e' v σ' H' fp' Fc s r t hr
  | exc kx e' =>
    rw [← e0, hb] at hr
    exact fun σ' H' fp' s a ha => hr H' a ha (stF s.sp.stp) s.sp.keep
  | stuck => rw [← e0, hb] at hr; exact hr.elim
/-- the defs that may be called where an exception is handled -/
def hnm (fi : Nat → Option FnI) (hi : Nat → Nat) (f : Nat) : Option Str := if hi f == 0 then none else (fi f).map (·.x)
/-- .. elsewhere (hi: 0 there alone, 1 here alone, 2 both) -/
def cnm (fi : Nat → Option FnI) (hi : Nat → Nat) (f : Nat) : Option Str := if hi f == 1 then none else (fi f).map (·.x)
/-- what stands at each name -/
structure Top (T : Tb) (K : PySem.W.Frag) (mg : Str → Option Value) (G : Mi.Pg) (fi : Nat → Option FnI) (hi : Nat → Nat) (gname cname : Nat → Option Str) : Prop where
  hK : T.K = K
  fn : ∀ f F, fi f = some F → G.fd f = some F.d ∧ FnT gname (cnm fi hi) cname (hnm fi hi) (!(hi f == 1)) F ∧ ∃ ad fd, FunD K F.x F.x (defArgs F.st) (defBody F.st) (defScope F.st) [] [] ad fd ∧ mg F.x = some (.ref ad) ∧ Binds K fd F.ps []
  ht : ∀ f F, fi f = some F → (hi f == 0) = false → chSs ⟨F.N, gname, cnm fi hi, cname, false, hnm fi hi, true⟩ (defScope F.st) F.d.io F.d.body (defBody F.st) = true
  gl : ∀ n x, gname n = some x → ∃ v u, mg x = some u ∧ RelV v u ∧ ∀ H, RD T H (G.glob n) v
  blt : ∀ x ∈ bltNames, mg x = none
  hxn : T.hx = none
  exc : ∀ c x, cname c = some x → ∃ A, T.cls c = some A ∧ ExcOk K mg x A
  exm : ∀ k a c A, T.cls k = some a → T.cls c = some A → PySem.W.exmOne K (.ref a) (.ref A) = some (G.sub k c)
  excC : ∀ k A, T.cls k = some A → ExcC K A
  kit : ∀ c d A D, T.cls c = some A → T.cls d = some D → PySem.W.kitOne K (.ref A) (.ref D) = some (G.sub c d)
  kitV : ∀ c A, T.cls c = some A → PySem.W.kitOne K (.ref A) (.type "ValueError") = some (G.sub c 0)
theorem run_np {G : Mi.Pg} {f : Nat} {F : FnI} (hd : G.fd f = some F.d) : ∀ k cs, Mi.run G k f cs ≠ .stuck → cs.length = F.d.np := by
  intro k cs h
  cases k with
  | zero => exact absurd rfl h
  | succ k =>
    rw [Mi.run, hd] at h
    dsimp only at h
    unfold Mi.runFd at h
    split at h
    · assumption
    · exact absurd rfl h
theorem vis_of {sc : Scope} {x : Str} (h : visB sc x = true) : Vis sc x := by
  unfold visB at h
  unfold Vis
  split at h <;> first | (rename_i e; rw [e]; simp) | cases h
theorem loc_of {sc : Scope} {x : Str} (h : locB sc x = true) : L2.Loc sc x := by
  unfold locB at h
  unfold L2.Loc
  split at h <;> first | (rename_i e; rw [e]; simp) | cases h
theorem hnm_some {fi : Nat → Option FnI} {hi : Nat → Nat} {f : Nat} {x : Str} (h : hnm fi hi f = some x) : (hi f == 0) = false ∧ ∃ F, fi f = some F ∧ F.x = x := by
  unfold hnm at h
  cases e : hi f == 0 with
  | true => rw [if_pos e] at h; cases h
  | false =>
    rw [if_neg (by rw [e]; decide), Option.map_eq_some_iff] at h
    exact ⟨rfl, h⟩
theorem cnm_some {fi : Nat → Option FnI} {hi : Nat → Nat} {f : Nat} {x : Str} (h : cnm fi hi f = some x) : (!(hi f == 1)) = true ∧ ∃ F, fi f = some F ∧ F.x = x := by
  unfold cnm at h
  cases e : hi f == 1 with
  | true => rw [if_pos e] at h; cases h
  | false =>
    rw [if_neg (by rw [e]; decide), Option.map_eq_some_iff] at h
    exact ⟨rfl, h⟩
theorem fnsH_ok {P : Program} {w : World} {K : PySem.W.Frag} {mg : Str → Option Value} {base : Heap} {G : Mi.Pg} {fi : Nat → Option FnI} {hi : Nat → Nat} {gname cname : Nat → Option Str} (tp : Top T K mg G fi hi gname cname) :
    ∀ (k f : Nat) (F : FnI), fi f = some F → (hi f == 0) = false → ∀ ad fd, FunD K F.x F.x (defArgs F.st) (defBody F.st) (defScope F.st) [] [] ad fd → ∀ h, FnX P w K mg base (L2N.CX P w) (T.hold h) k ad fd F.ps (spM (T.hold h) (Mi.run G k f) F.ps.length (Mi.iosOf G f)) := by
  intro k
  induction k with
  | zero =>
    intro f F hF hh ad fd hfd h
    refine ⟨fun vs H Q E h => h.1, fun A outer s H args us vs Q E p hr hot hl hp e0 b r h => ?_⟩
    obtain ⟨_, cs, Fa, _, _, hr⟩ := h
    exact hr.elim
  | succ k ih =>
    intro f F hF hh ad fd hfd h
    obtain ⟨hd, ft, _⟩ := tp.fn f F hF
    refine FunD.okX hfd ft.sc (fun vs H Q E h => h.1) fun cdv A outer s H vs Q E p L hr h' => ⟨_, chSs_ok (T := T.hold h) (k := k) (sc := defScope F.st) F.d.body (defBody F.st) ?_ (tp.ht f F hF hh), body_rd ft hd h'⟩
    have tk : L2N.Takes (L2H.cxH (L2N.CX P w) P w K mg base F.N F.x (defScope F.st) ad cdv A outer s H E p) (fun cls d _ H => E cls d H) := L2N.takes_of rfl rfl rfl rfl
    refine ⟨⟨tp.hK, ?_, fun z => (by cases z), rfl, ft.sc.nd, fun x h => vis_of h, fun x h => ⟨loc_of h, .inl rfl⟩, fun x h => h, fun x h => ?_, fun n x e => ?_, tp.blt, fun z => (by cases z), fun z => (by cases z), fun _ σ => L2N.passAt tk σ, fun c x h => ?_, tp.kit, tp.kitV, tp.excC, fun z => (by cases z), fun _ => ⟨p, L⟩, fun h2 g x hg => ?_, fun _ => hr⟩, rfl, fun _ => L2.passes_of rfl, fun z => (by cases z), rfl, rfl, fun z => (by cases z), tp.exc, tp.exm, tp.excC⟩
    · have := hr.un
      show (A.deeper _).units + 64 < cLine
      omega
    · unfold glbB at h
      exact beq_iff_eq.mp h
    · obtain ⟨v, u, h1, h2, h3⟩ := tp.gl n x e
      exact ⟨v, u, h1, h2, fun H => (h3 H).hold tp.hxn⟩
    · obtain ⟨A, h1, h2⟩ := tp.exc c x h
      exact ⟨A, h1, h2.g⟩
    · obtain ⟨hgi, F', hF', e⟩ := hnm_some hg
      subst e
      obtain ⟨hd', ft', ad', fd', hfd', hm', hb'⟩ := tp.fn g F' hF'
      exact ⟨ad', fd', F'.ps, fun cs z => (run_np hd' k cs z).trans ft'.np, hm', hfd'.kp, hb', ih g F' hF' hgi ad' fd' hfd' h2⟩
theorem fns_ok {P : Program} {w : World} {K : PySem.W.Frag} {mg : Str → Option Value} {base : Heap} {G : Mi.Pg} {fi : Nat → Option FnI} {hi : Nat → Nat} {gname cname : Nat → Option Str} (tp : Top T K mg G fi hi gname cname) :
    ∀ (k f : Nat) (F : FnI), fi f = some F → (!(hi f == 1)) = true → ∀ ad fd, FunD K F.x F.x (defArgs F.st) (defBody F.st) (defScope F.st) [] [] ad fd → FnOk P w K mg base (L2N.CX P w) k ad fd F.ps (spM T (Mi.run G k f) F.ps.length (Mi.iosOf G f)) := by
  intro k
  induction k with
  | zero =>
    intro f F hF hcf ad fd hfd
    refine ⟨fun vs H Q E h => h.1, fun A outer s H args us vs Q E hr e0 b r h => ?_⟩
    obtain ⟨_, cs, Fa, _, _, hr⟩ := h
    exact hr.elim
  | succ k ih =>
    intro f F hF hcf ad fd hfd
    obtain ⟨hd, ft, _⟩ := tp.fn f F hF
    refine FunD.ok hfd ft.sc (fun vs H Q E h => h.1) fun cdv A outer s H vs Q E hr h => ⟨_, chSs_ok (k := k) (sc := defScope F.st) F.d.body (defBody F.st) ?_ (ft.ch hcf), body_rd ft hd h⟩
    have tk : L2N.Takes (cxOf (L2N.CX P w) P w K mg base F.N F.x (defScope F.st) ad cdv A outer s H E) (fun cls d _ H => E cls d H) := L2N.takes_of rfl rfl rfl rfl
    refine ⟨⟨tp.hK, ?_, fun _ => rfl, rfl, ft.sc.nd, fun x h => ?_, fun x h => ?_, fun x h => h, fun x h => ?_, tp.gl, tp.blt, fun _ g x hg => ?_, fun _ => hr, fun _ σ => L2N.passAt tk σ, fun c x h => ?_, tp.kit, tp.kitV, tp.excC, fun _ => rfl, fun z => (by cases z), fun h2 g x hg => ?_, fun z => (by cases z)⟩, rfl, fun _ => ?_, fun _ => tk, rfl, rfl, fun _ => tp.hxn, tp.exc, tp.exm, tp.excC⟩
    · have := hr.un
      show (A.deeper _).units + 64 < cLine
      omega
    · show Vis (defScope F.st) x
      unfold visB at h
      unfold Vis
      split at h <;> first | (rename_i e; rw [e]; simp) | cases h
    · show L2.Loc (defScope F.st) x ∧ (true = true ∨ _)
      unfold locB at h
      unfold L2.Loc
      split at h <;> first | (rename_i e; rw [e]; simp) | cases h
    · unfold glbB at h
      exact beq_iff_eq.mp h
    · obtain ⟨hgc, F', hF', e⟩ := cnm_some hg
      subst e
      obtain ⟨hd', ft', ad', fd', hfd', hm', hb'⟩ := tp.fn g F' hF'
      exact ⟨ad', fd', F'.ps, fun cs z => (run_np hd' k cs z).trans ft'.np, hm', hfd'.kp, hb', ih g F' hF' hgc ad' fd' hfd'⟩
    · obtain ⟨A, h1, h2⟩ := tp.exc c x h
      exact ⟨A, h1, h2.g⟩
    · obtain ⟨hgi, F', hF', e⟩ := hnm_some hg
      subst e
      obtain ⟨hd', ft', ad', fd', hfd', hm', hb'⟩ := tp.fn g F' hF'
      exact ⟨ad', fd', F'.ps, fun cs z => (run_np hd' k cs z).trans ft'.np, hm', hfd'.kp, hb', fnsH_ok tp k g F' hF' hgi ad' fd' hfd' h2⟩
    · exact L2.passes_of rfl
end MiS
namespace MiS
open PySem PySem.Spec PyProof.Rows L2
open Mi (D C ME MS)
/-- the law's promise at its script -/
theorem law_sp {T : Tb} {K : PySem.W.Frag} (hK : T.K = K) {G : Mi.Pg} {k f : Nat} {H : Hp} {a : Addr} {ns : List Int} (hO : Only H) (hS : SqL K H a (ns.map V.int)) (hio : Mi.iosOf G f = []) (fact : Mi.run G k f [.val (.lst (ns.map .int))] = .ok (.val (.bl true)) []) :
    spM T (Mi.run G k f) 1 (Mi.iosOf G f) [.ref a] H (fun v _ => v = .bl true) fun _ _ _ => False := by
  have fz : FzL T.K H a (ns.map V.int) := by
    rw [hK]
    rcases hS with (h | ⟨o, h⟩) | h
    · rcases hO a with z | ⟨o, xs, z⟩
      · rw [z] at h; cases h
      · rw [z] at h; cases h
    · exact .inl ⟨o, h⟩
    · exact .inr h
  refine ⟨rfl, [.val (.lst (ns.map .int))], [], .cons (F := []) (.val (.lst fz (ints_rds ns))) .nil, .nil, ?_⟩
  rw [fact]
  intro v H' Fc Fo r1 r2 _ _ _ _
  exact rcBl r1
/-- what may fly, at whatever world -/
def CXw : CXT := fun outer H s E e s' => ∃ P w, L2N.CX P w outer H s E e s'
theorem FnOk.wide {P : Program} {w : World} {K : PySem.W.Frag} {mg : Str → Option Value} {base : Heap} {k : Nat} {f : Addr} {fd : FuncData} {ps : List Str} {sp : Sp} (F : FnOk P w K mg base (L2N.CX P w) k f fd ps sp) : FnOk P w K mg base CXw k f fd ps sp :=
  ⟨F.len, fun A outer s H args us vs Q E hr e0 b r h => codeAny_mono (F.run A outer s H args us vs Q E hr e0 b r h) fun r s' q => by
    cases r with
    | error e => exact ⟨P, w, q⟩
    | ok fl => cases fl <;> exact q⟩
theorem cxw_end (H : Hp) (s : Shared) (e : Value) (s' : Shared) (h : CXw [] H s (fun _ _ _ => False) e s') : False := by
  obtain ⟨_, _, _, _, _, _, _, _, _, _, _, _, _, _, z⟩ := h
  exact z
/-- the law's promise, of the tables -/
theorem law_fn {P : Program} {w : World} {T : Tb} {K : PySem.W.Frag} {mg : Str → Option Value} {fa : Addr} {G : Mi.Pg} {fi : Nat → Option FnI} {hi : Nat → Nat} {gname cname : Nat → Option Str} {k f n : Nat} {F : FnI} {x : Str} (tp : Top T K mg G fi hi gname cname) (hF : fi f = some F) (hcf : (!(hi f == 1)) = true) (hps : F.ps = [x]) (hm : mg F.x = some (.ref fa)) (hio : Mi.iosOf G f = [])
    (bs : ∀ fd : FuncData, FunD K F.x F.x (defArgs F.st) (defBody F.st) (defScope F.st) [] [] fa fd → ∀ (s : Shared) (u : Value), BindsTo s fd ⟨[u], []⟩ [(x, u)])
    (fact : ∀ ns : List Int, ns.length ≤ n → Mi.run G k f [.val (.lst (ns.map .int))] = .ok (.val (.bl true)) []) :
    ∃ (fd : FuncData) (sp : Sp), (∀ (s : Shared) (u : Value), BindsTo s fd ⟨[u], []⟩ [(x, u)]) ∧ (∀ (H : Hp) (a : Addr) (ns : List Int), ns.length ≤ n → Only H → SqL K H a (ns.map V.int) → sp [.ref a] H (fun v _ => v = .bl true) fun _ _ _ => False) ∧
      ∀ base : Heap, K.In base → base.Ns mainGlobals mg → FnOk P w K mg base CXw k fa fd [x] sp := by
  obtain ⟨hd, ft, ad, fd, hfd, hm', hb⟩ := tp.fn f F hF
  have : ad = fa := by rw [hm] at hm'; cases hm'; rfl
  subst this
  refine ⟨fd, spM T (Mi.run G k f) F.ps.length (Mi.iosOf G f), bs fd hfd, fun H a ns hl hO hS => ?_, fun base _ _ => ?_⟩
  · rw [hps]
    exact law_sp tp.hK hO hS hio (fact ns hl)
  · rw [← hps]
    exact FnOk.wide (fns_ok tp k f F hF hcf ad fd hfd)
end MiS
namespace MiS
open PySem PySem.Spec PyProof.Rows L2
/-! ### what a law's head says of the classes of exceptions -/
abbrev AlM : Type := He.AlD × Bool
def obsM (n : Nat) (fa : List He.Fa) (fn : List He.DefD) (ck : PySem.W.Frag → Bool) (g : Addr → Option Obj) : AlM := (He.obsDG n fa fn g, ck (He.frG g (He.asD g n)))
def hookM (n : Nat) (fa : List He.Fa) (fn : List He.DefD) (ck : PySem.W.Frag → Bool) : PySem.W.Hook where
  α := AlM
  obs := fun s => obsM n fa fn ck s.heap.get?
  val := fun _ => (He.valD fn, true)
  says := fun _ h => ∃ K : PySem.W.Frag, K.In h ∧ He.SaysD fa fn K ∧ ck K = true
  of := fun _ _ e => ⟨_, He.frG_in, congrArg Prod.fst e, congrArg Prod.snd e⟩
  keeps := fun _ _ _ ⟨K, hK, c⟩ k => ⟨K, PySem.W.Frag.In.keeps hK k, c⟩
theorem obsM_eq {n : Nat} {fa : List He.Fa} {fn : List He.DefD} {ck : PySem.W.Frag → Bool} {g : Addr → Option Obj} {s : Shared} (h : ∀ a, g a = s.heap.get? a) : obsM n fa fn ck g = (hookM n fa fn ck).obs s := by
  have e : g = s.heap.get? := funext h
  rw [e] <;> rfl
def clsOf (K : PySem.W.Frag) (tab : List (Nat × Str)) (c : Nat) : Option Addr := (tab.lookup c).map (He.ga K)
def nameOf (tab : List (Nat × Str)) (c : Nat) : Option Str := tab.lookup c
def excCB (K : PySem.W.Frag) (D : Addr) : Bool := decide (PySem.W.findIn K (.ref D) "__getattribute__" = some (some (.builtin "BaseException.__getattribute__"))) && (decide (PySem.W.findIn K (.ref D) "__getattr__" = some none) && (decide (PySem.W.subIn K (.ref D) (.type "BaseException") = some true) &&
  (PySem.W.hasDictIn K D && (decide (PySem.W.findIn K (.ref D) "__class__" = some (some (.builtin "object.__class__"))) && (decide (PySem.W.specialIn K (.builtin "object.__class__") "__get__" = some (some (.builtin "getset_descriptor.__get__"))) &&
  (decide (PySem.W.takesIn K (.builtin "object.__class__") = some true) && decide (PySem.W.mroIn K D (.type "object") = some true)))))))
theorem excCB_ok {K : PySem.W.Frag} {D : Addr} (h : excCB K D = true) : ExcC K D := by
  unfold excCB at h
  obtain ⟨h1, h⟩ := He.ba h
  obtain ⟨h2, h⟩ := He.ba h
  obtain ⟨h3, h⟩ := He.ba h
  obtain ⟨h4, h⟩ := He.ba h
  obtain ⟨h5, h⟩ := He.ba h
  obtain ⟨h6, h⟩ := He.ba h
  obtain ⟨h7, h8⟩ := He.ba h
  exact ⟨of_decide_eq_true h1, of_decide_eq_true h2, of_decide_eq_true h3, h4, of_decide_eq_true h5, of_decide_eq_true h6, of_decide_eq_true h7, of_decide_eq_true h8⟩
def exB (sub : Nat → Nat → Bool) (tab : List (Nat × Str)) (K : PySem.W.Frag) : Bool := tab.all fun p => (He.Fa.exc p.2).ok K && ((He.Fa.glo p.2).ok K && (excCB K (He.ga K p.2) && (decide (PySem.W.kitOne K (.ref (He.ga K p.2)) (.type "ValueError") = some (sub p.1 0)) &&
  tab.all fun q => decide (PySem.W.exmOne K (.ref (He.ga K p.2)) (.ref (He.ga K q.2)) = some (sub p.1 q.1)) && decide (PySem.W.kitOne K (.ref (He.ga K p.2)) (.ref (He.ga K q.2)) = some (sub p.1 q.1)))))
theorem lookup_mem {tab : List (Nat × Str)} {c : Nat} {x : Str} (h : tab.lookup c = some x) : (c, x) ∈ tab := by
  induction tab with
  | nil => cases h
  | cons p r ih =>
    obtain ⟨a, b⟩ := p
    rw [List.lookup_cons] at h
    split at h
    · rename_i e
      rw [beq_iff_eq] at e
      cases h
      rw [e]
      exact List.mem_cons_self
    · exact List.mem_cons_of_mem _ (ih h)
section
variable {K : PySem.W.Frag} {sub : Nat → Nat → Bool} {tab : List (Nat × Str)} {h : Heap} {mg : Str → Option Value}
theorem cls_at {c : Nat} {A : Addr} (e : clsOf K tab c = some A) : ∃ x, (c, x) ∈ tab ∧ A = He.ga K x := by
  unfold clsOf at e
  rw [Option.map_eq_some_iff] at e
  obtain ⟨x, h1, h2⟩ := e
  exact ⟨x, lookup_mem h1, h2.symm⟩
theorem exB_exc (X : K.In h) (G : h.Ns mainGlobals mg) (ck : exB sub tab K = true) : ∀ c x, nameOf tab c = some x → ∃ A, clsOf K tab c = some A ∧ ExcOk K mg x A := by
  intro c x e
  have h0 := List.all_eq_true.mp ck _ (lookup_mem e)
  obtain ⟨h1, h0⟩ := He.ba h0
  obtain ⟨h2, h0⟩ := He.ba h0
  obtain ⟨q1, q2, q3, q4⟩ := He.exc_ok h1
  refine ⟨He.ga K x, ?_, ⟨q1, He.glo_ok X G h2, q2, q3, q4⟩⟩
  unfold clsOf
  unfold nameOf at e
  rw [e]
  rfl
theorem exB_exm (ck : exB sub tab K = true) : ∀ k a c A, clsOf K tab k = some a → clsOf K tab c = some A → PySem.W.exmOne K (.ref a) (.ref A) = some (sub k c) := by
  intro k a c A e1 e2
  obtain ⟨x, m1, rfl⟩ := cls_at e1
  obtain ⟨y, m2, rfl⟩ := cls_at e2
  have h0 := List.all_eq_true.mp (He.ba (He.ba (He.ba (He.ba (List.all_eq_true.mp ck _ m1)).2).2).2).2 _ m2
  exact of_decide_eq_true (He.ba h0).1
theorem exB_kit (ck : exB sub tab K = true) : ∀ c d A D, clsOf K tab c = some A → clsOf K tab d = some D → PySem.W.kitOne K (.ref A) (.ref D) = some (sub c d) := by
  intro k c a A e1 e2
  obtain ⟨x, m1, rfl⟩ := cls_at e1
  obtain ⟨y, m2, rfl⟩ := cls_at e2
  have h0 := List.all_eq_true.mp (He.ba (He.ba (He.ba (He.ba (List.all_eq_true.mp ck _ m1)).2).2).2).2 _ m2
  exact of_decide_eq_true (He.ba h0).2
theorem exB_kitV (ck : exB sub tab K = true) : ∀ c A, clsOf K tab c = some A → PySem.W.kitOne K (.ref A) (.type "ValueError") = some (sub c 0) := by
  intro c A e1
  obtain ⟨x, m1, rfl⟩ := cls_at e1
  exact of_decide_eq_true (He.ba (He.ba (He.ba (He.ba (List.all_eq_true.mp ck _ m1)).2).2).2).1
theorem exB_excC (ck : exB sub tab K = true) : ∀ k A, clsOf K tab k = some A → ExcC K A := by
  intro c A e1
  obtain ⟨x, m1, rfl⟩ := cls_at e1
  exact excCB_ok (He.ba (He.ba (He.ba (List.all_eq_true.mp ck _ m1)).2).2).1
end
end MiS
namespace MiS
open PySem PySem.Spec PyProof.Rows L2
open Mi (D C ME MS)
/-! the law's end where the bits of the script are told -/
def Bits (ns : List Int) : Prop := ∀ z ∈ ns, Mi.intBits z ≤ 1048576
theorem law_fnB {P : Program} {w : World} {T : Tb} {K : PySem.W.Frag} {mg : Str → Option Value} {fa : Addr} {G : Mi.Pg} {fi : Nat → Option FnI} {hi : Nat → Nat} {gname cname : Nat → Option Str} {k f n : Nat} {F : FnI} {x : Str} (tp : Top T K mg G fi hi gname cname) (hF : fi f = some F) (hcf : (!(hi f == 1)) = true) (hps : F.ps = [x]) (hm : mg F.x = some (.ref fa)) (hio : Mi.iosOf G f = [])
    (bs : ∀ fd : FuncData, FunD K F.x F.x (defArgs F.st) (defBody F.st) (defScope F.st) [] [] fa fd → ∀ (s : Shared) (u : Value), BindsTo s fd ⟨[u], []⟩ [(x, u)])
    (fact : ∀ ns : List Int, ns.length ≤ n → Bits ns → Mi.run G k f [.val (.lst (ns.map .int))] = .ok (.val (.bl true)) []) :
    ∃ (fd : FuncData) (sp : Sp), (∀ (s : Shared) (u : Value), BindsTo s fd ⟨[u], []⟩ [(x, u)]) ∧ (∀ (H : Hp) (a : Addr) (ns : List Int), ns.length ≤ n → Bits ns → Only H → SqL K H a (ns.map V.int) → sp [.ref a] H (fun v _ => v = .bl true) fun _ _ _ => False) ∧
      ∀ base : Heap, K.In base → base.Ns mainGlobals mg → FnOk P w K mg base CXw k fa fd [x] sp := by
  obtain ⟨hd, ft, ad, fd, hfd, hm', hb⟩ := tp.fn f F hF
  have : ad = fa := by rw [hm] at hm'; cases hm'; rfl
  subst this
  refine ⟨fd, spM T (Mi.run G k f) F.ps.length (Mi.iosOf G f), bs fd hfd, fun H a ns hl hz hO hS => ?_, fun base _ _ => ?_⟩
  · rw [hps]
    exact law_sp tp.hK hO hS hio (fact ns hl hz)
  · rw [← hps]
    exact FnOk.wide (fns_ok tp k f F hF hcf ad fd hfd)
theorem walk_bits {l : PySem.W.OpenLaw} {n k : Nat} {q : Program} {loose : List Str} {XP : (Str → Option Value) → Heap → Prop} {YP : World → Heap → Prop} {d : DefRec} {CX : CXT} {x : Str}
    (hn : l.most = some n) (hn2 : n ≤ sizeLine) (hdf : d.params.defaults = []) (hr : Room k callerA)
    (F : ∀ (w : World) (mg : Str → Option Value) (fa : Addr) (h : Heap), YP w h → h.Ns mainGlobals mg → mg d.name = some (.ref fa) →
      ∃ (K : PySem.W.Frag) (fd : FuncData) (sp : Sp), K.In h ∧ (∀ (s : Shared) (u : Value), BindsTo s fd ⟨[u], []⟩ [(x, u)]) ∧
        (∀ (H : Hp) (a : Addr) (ns : List Int), ns.length ≤ n → Bits ns → Only H → SqL K H a (ns.map V.int) → sp [.ref a] H (fun v _ => v = .bl true) fun _ _ _ => False) ∧
        ∀ base : Heap, K.In base → base.Ns mainGlobals mg → FnOk l.prog w K mg base CX k fa fd [x] sp)
    (hCX : ∀ (H : Hp) (s : Shared) (e : Value) (s' : Shared), CX [] H s (fun _ _ _ => False) e s' → False) :
    PySem.W.WalkO q loose XP YP l.row.toRowW d [] (fun f vs => PySem.call f vs) := by
  refine Att.attach_callB hn hdf fun w s₀ s₁ mg mb fa o pm cd doc a vs ns G Y ho hd hcd hmg hobj hints hlen hbits hg => ?_
  obtain ⟨K, fd, sp, KX, hb, hsp, hF⟩ := F w mg fa _ Y G.T.g hmg
  exact law_call KX G.T.g G.T.b G.T.builtins G.T.nolimit hg hobj hints (Nat.le_trans hlen hn2) hr hF hb (fun H hO hS => hsp H a ns hlen (fun z m => hbits z m) hO hS) fun H e s' => hCX H s₁ e s'
end MiS
/-! plain facts about Mini's runs -/
namespace Mi
theorem b_ok {α β : Type} (a : α) (e : Env) (f : α → Env → Res β) : (Res.ok a e).bind f = f a e := rfl
theorem b_exc {α β : Type} (k : Nat) (e : Env) (f : α → Env → Res β) : (Res.exc k e : Res α).bind f = .exc k e := rfl
theorem o_some {α : Type} (a : α) (e : Env) : ofOpt (some a) e = .ok a e := rfl
theorem h_val (b p : Bool) (d : D) (e : Env) : hold b p (.val d) e = .ok (.val d) e := by cases b <;> simp [hold, C.isVal, C.frz]
theorem h_tt (c : C) (e : Env) : hold true true c e = .ok c e := rfl
theorem h_f (p : Bool) (c : C) (e : Env) : hold false p c e = .ok (.val c.frz) e := rfl
theorem l_val (b : Bool) (d : D) (e : Env) : leak b (.val d) e = .ok (.val d) e := by simp [leak, C.isVal]
theorem l_f (c : C) (e : Env) : leak false c e = .ok c e := rfl
theorem f_val (d : D) : (C.val d).frz = d := rfl
theorem f_lst (cs : List C) : (C.lst cs).frz = .lst (C.frzs cs) := rfl
theorem f_tup (cs : List C) : (C.tup cs).frz = .tup (C.frzs cs) := rfl
theorem f_map : ∀ ds : List D, C.frzs (ds.map .val) = ds
  | [] => rfl
  | d :: ds => by rw [List.map_cons, C.frzs, C.frz, f_map ds]
theorem a_map : ∀ ds : List D, allVal (ds.map .val) = some ds
  | [] => rfl
  | d :: ds => by rw [List.map_cons, allVal, a_map ds]; rfl
theorem n_add (i j : Int) : binC .add (.val (.int i)) (.val (.int j)) = some (.val (.int (i + j))) := rfl
theorem n_sub (i j : Int) : binC .sub (.val (.int i)) (.val (.int j)) = some (.val (.int (i - j))) := rfl
theorem n_mul (i j : Int) (h : mulOk i j = true) : binC .mul (.val (.int i)) (.val (.int j)) = some (.val (.int (i * j))) := by simp [binC, h]
theorem n_mod (i j : Int) (h : 0 < j) : binC .mod (.val (.int i)) (.val (.int j)) = some (.val (.int (i % j))) := by simp [binC, h]
theorem n_fdiv (i j : Int) (h : posI j = true) : binC .fdiv (.val (.int i)) (.val (.int j)) = some (.val (.int (i / j))) := by simp [binC, h]
theorem s_add (s t : List Nat) (h : s.length + t.length ≤ line) : binC .add (.val (.str s)) (.val (.str t)) = some (.val (.str (s ++ t))) := by simp only [binC]; rw [if_pos h]
theorem ix_nat {α : Type} (ds : List α) (n : Nat) (h : n < ds.length) : ixN ds.length (n : Int) = some n := by
  unfold ixN
  rw [if_pos (by omega), if_pos (by omega)]
  simp
theorem ix_of {n : Nat} {i : Int} (h0 : 0 ≤ i) (h1 : i < n) : ixN n i = some i.toNat := by unfold ixN; rw [if_pos h0, if_pos h1]
theorem sub_l (ds : List D) (i : Int) : subC (.val (.lst ds)) (.int i) = ((ixN ds.length i).bind fun j => ds[j]?).map .val := rfl
theorem sub_t (ds : List D) (i : Int) : subC (.val (.tup ds)) (.int i) = ((ixN ds.length i).bind fun j => ds[j]?).map .val := rfl
theorem sub_c (cs : List C) (i : Int) : subC (.lst cs) (.int i) = (ixN cs.length i).bind fun j => cs[j]? := rfl
theorem lt_of_lt (i j : Int) : cmpC .lt (.val (.int i)) (.val (.int j)) = some (decide (i < j)) := rfl
theorem c_le (i j : Int) : cmpC .le (.val (.int i)) (.val (.int j)) = some (decide (i ≤ j)) := rfl
theorem c_gt (i j : Int) : cmpC .gt (.val (.int i)) (.val (.int j)) = some (decide (j < i)) := rfl
theorem c_ge (i j : Int) : cmpC .ge (.val (.int i)) (.val (.int j)) = some (decide (j ≤ i)) := rfl
theorem eq_ii (i j : Int) : cmpC .eq (.val (.int i)) (.val (.int j)) = some (i == j) := by simp [cmpC, eqOk, C.frz, D.plain, D.dep, pyEq]
theorem ne_ii (i j : Int) : cmpC .ne (.val (.int i)) (.val (.int j)) = some (!(i == j)) := by simp [cmpC, eqOk, C.frz, D.plain, D.dep, pyEq]
theorem t_bl (b : Bool) : truth (.val (.bl b)) = some b := rfl
/-- loops -/
theorem forLoop_inv {f : D → Env → Res Fl} (I : Nat → Env → Prop) : ∀ (ds : List D) (n : Nat) (e : Env), (∀ i d e, ds[i]? = some d → I (n + i) e → ∃ e', (f d e = .ok .nx e' ∨ f d e = .ok .ct e') ∧ I (n + i + 1) e') → I n e → ∃ e', forLoop f ds e = .ok .nx e' ∧ I (n + ds.length) e'
  | [], n, e, _, h => ⟨e, rfl, h⟩
  | d :: ds, n, e, hs, h => by
    obtain ⟨e1, h1, i1⟩ := hs 0 d e rfl h
    obtain ⟨e2, h2, i2⟩ := forLoop_inv I ds (n + 1) e1 (fun i d e hd hi => by
      have := hs (i + 1) d e hd (by rw [show n + (i + 1) = n + 1 + i by omega]; exact hi)
      rw [show n + 1 + i + 1 = n + (i + 1) + 1 by omega]
      exact this) i1
    refine ⟨e2, ?_, by rw [List.length_cons, show n + (ds.length + 1) = n + 1 + ds.length by omega]; exact i2⟩
    rw [forLoop]
    rcases h1 with h1 | h1 <;> (rw [h1]; exact h2)
theorem compLoop_inv {f : D → Env → Res (Option C)} (I : Nat → Env → Prop) (R : Nat → C → Prop) : ∀ (ds : List D) (n : Nat) (e : Env), (∀ i d e, ds[i]? = some d → I (n + i) e → ∃ c e', f d e = .ok (some c) e' ∧ R (n + i) c ∧ I (n + i + 1) e') → I n e →
    ∃ cs e', compLoop f ds e = .ok cs e' ∧ cs.length = ds.length ∧ (∀ i c, cs[i]? = some c → R (n + i) c) ∧ I (n + ds.length) e'
  | [], n, e, _, h => ⟨[], e, rfl, rfl, fun i c hc => by simp at hc, h⟩
  | d :: ds, n, e, hs, h => by
    obtain ⟨c, e1, h1, r1, i1⟩ := hs 0 d e rfl h
    obtain ⟨cs, e2, h2, l2, r2, i2⟩ := compLoop_inv I R ds (n + 1) e1 (fun i d e hd hi => by
      have := hs (i + 1) d e hd (by rw [show n + (i + 1) = n + 1 + i by omega]; exact hi)
      rw [show n + 1 + i = n + (i + 1) by omega]
      exact this) i1
    refine ⟨c :: cs, e2, ?_, by rw [List.length_cons, l2, List.length_cons], fun i c' hc => ?_, by rw [List.length_cons, show n + (ds.length + 1) = n + 1 + ds.length by omega]; exact i2⟩
    · rw [compLoop, h1, b_ok, h2, b_ok]
    · cases i with
      | zero => cases hc; exact r1
      | succ i => rw [show n + (i + 1) = n + 1 + i by omega]; exact r2 i c' hc
theorem compLoop_map {f : D → Env → Res (Option C)} (g : D → C) (e : Env) : ∀ ds : List D, (∀ d ∈ ds, f d e = .ok (some (g d)) e) → compLoop f ds e = .ok (ds.map g) e
  | [], _ => rfl
  | d :: ds, h => by
    rw [compLoop, h d List.mem_cons_self, b_ok, compLoop_map g e ds fun x m => h x (List.mem_cons_of_mem _ m)]
    rfl
theorem bits_le {x : Int} (h : x.natAbs < 2 ^ 64) : intBits x ≤ 64 := by
  unfold intBits
  split
  · exact Nat.zero_le _
  · rename_i hx
    have h0 : x.natAbs ≠ 0 := fun z => by
      have : x = 0 := Int.natAbs_eq_zero.mp z
      rw [this] at hx
      exact hx rfl
    have := (Nat.log2_lt h0).mpr h
    omega
theorem mul_r {i j : Int} (h : j.natAbs < 2 ^ 64) : mulOk i j = true := by simp [mulOk, bits_le h]
theorem mul_l {i j : Int} (h : i.natAbs < 2 ^ 64) : mulOk i j = true := by simp [mulOk, bits_le h]
theorem n_mulr (i j : Int) (h : j.natAbs < 2 ^ 64) : binC .mul (.val (.int i)) (.val (.int j)) = some (.val (.int (i * j))) := n_mul i j (mul_r h)
theorem n_mull (i j : Int) (h : i.natAbs < 2 ^ 64) : binC .mul (.val (.int i)) (.val (.int j)) = some (.val (.int (i * j))) := n_mul i j (mul_l h)
theorem slH_l (ds : List D) (j : Int) : sliceC (.val (.lst ds)) none (some j) = some (.lst ((cut ds none (some j)).map .val)) := rfl
theorem len_l (ds : List D) : biC .len [.val (.lst ds)] = some (.val (.int ds.length)) := rfl
theorem len_c (cs : List C) : biC .len [.lst cs] = some (.val (.int cs.length)) := rfl
theorem len_t (ds : List D) : biC .len [.val (.tup ds)] = some (.val (.int ds.length)) := rfl
theorem len_s (s : List Nat) (h : s.length ≤ line) : biC .len [.val (.str s)] = some (.val (.int s.length)) := by simp [biC, C.len, h]
theorem it_seqc (ds : List D) : itemsK .seq [.lst (ds.map .val)] = some ds := by simp [itemsK, okIt, itemsC, C.items, a_map]
theorem it_seql (ds : List D) : itemsK .seq [.val (.lst ds)] = some ds := rfl
theorem small_of {j : Int} (h : -1000000000 ≤ j ∧ j ≤ 1000000000) : smallI j = true := Nat.ble_eq_true_of_le (by omega)
theorem it_rng (j : Int) (h : -1000000000 ≤ j ∧ j ≤ 1000000000) : itemsK .rng [.val (.int j)] = some (rangeD 0 j.toNat) := by
  have : itemsK .rng [.val (.int j)] = if smallI j = true then some (rangeD 0 j.toNat) else none := rfl
  rw [this, if_pos (small_of h)]
theorem rng_len (lo : Int) : ∀ n, (rangeD lo n).length = n := by
  intro n
  induction n generalizing lo with
  | zero => rfl
  | succ n ih => rw [rangeD, List.length_cons, ih]
theorem rng_get : ∀ (n : Nat) (lo : Int) (i : Nat) (d : D), (rangeD lo n)[i]? = some d → d = .int (lo + i) ∧ i < n := by
  intro n
  induction n with
  | zero => intro lo i d h; simp [rangeD] at h
  | succ n ih =>
    intro lo i d h
    cases i with
    | zero => rw [rangeD] at h; cases h; exact ⟨by simp, by omega⟩
    | succ i =>
      rw [rangeD, List.getElem?_cons_succ] at h
      obtain ⟨h1, h2⟩ := ih _ _ _ h
      refine ⟨?_, by omega⟩
      rw [h1]
      congr 1
      omega
theorem cut_map {α β : Type} (f : α → β) (xs : List α) (lo hi : Option Int) : cut (xs.map f) lo hi = (cut xs lo hi).map f := by
  unfold cut
  rw [List.length_map, List.map_take, List.map_drop]
/-- a loop's body, closed -/
def forB (P : Pr) (t : Tg) (b : List MS) : D → Env → Res Fl := fun d e => match bindTg t (.val d) e with
  | some e => evSs P b e
  | none => .stuck
theorem evS_for (P : Pr) (t : Tg) (it : It) (src : List ME) (b : List MS) (e : Env) : evS P (.for_ t it src b) e = (evs P src e).bind fun cs e => match itemsK it cs with
    | some ds => forLoop (forB P t b) ds e
    | none => .stuck := by rw [evS]; rfl
def whlT (P : Pr) (c : ME) : Env → Res Bool := fun e => (ev P c e).bind fun x e => ofOpt (truth x) e
def whlB (P : Pr) (b : List MS) : Env → Res Fl := fun e => evSs P b e
theorem evS_whl (P : Pr) (c : ME) (b : List MS) (e : Env) : evS P (.whl c b) e = whlLoop (whlT P c) (whlB P b) P.wf e := by rw [evS]; rfl
def compB (P : Pr) (elt : ME) (tg : Tg) (cond : List ME) : D → Env → Res (Option C) := fun d e => match bindTg tg (.val d) e with
        | some e => (evC P cond e).bind fun b e => if b then (ev P elt e).bind fun c e => (leak (bor elt) c e).bind fun c e => .ok (some c) (wipeE e tg.slots) else .ok none (wipeE e tg.slots)
        | none => .stuck
theorem ev_cmp (P : Pr) (elt : ME) (tg : Tg) (it : It) (src cond : List ME) (e : Env) : ev P (.comp elt tg it src cond) e = (evP P (pur elt && purs cond) src e).bind fun cs e => match itemsK it cs with
    | some ds => if ds.length ≤ line then (noexc (compLoop (compB P elt tg cond) ds (wipeE e tg.slots))).bind fun cs e => .ok (.lst cs) e else .stuck
    | none => .stuck := by rw [ev]; rfl
theorem all_str1 : ∀ cs : List C, (∀ (i : Nat) (c : C), cs[i]? = some c → ∃ x, c = .val (.str [x])) → ∃ xs : List Nat, cs = xs.map fun x => C.val (.str [x])
  | [], _ => ⟨[], rfl⟩
  | c :: cs, h => by
    obtain ⟨x, rfl⟩ := h 0 c rfl
    obtain ⟨xs, rfl⟩ := all_str1 cs fun i c hc => h (i + 1) c hc
    exact ⟨x :: xs, rfl⟩
theorem join1 : ∀ xs : List Nat, joinS [] (xs.map fun x => [x]) = xs
  | [] => rfl
  | [x] => rfl
  | x :: y :: r => by
    have := join1 (y :: r)
    rw [List.map_cons] at this
    rw [List.map_cons, List.map_cons, joinS, this]
    rfl
theorem strs1 : ∀ xs : List Nat, strsD (xs.map fun x => D.str [x]) = some (xs.map fun x => [x])
  | [] => rfl
  | x :: r => by rw [List.map_cons, strsD, strs1 r]; rfl
theorem sum1 : ∀ xs : List Nat, ((xs.map fun x => [x]).map List.length).sum = xs.length
  | [] => rfl
  | x :: r => by
    rw [List.map_cons, List.map_cons, List.sum_cons, sum1 r, List.length_cons]
    show 1 + r.length = r.length + 1
    omega
theorem mt_join1 (xs : List Nat) (h : xs.length ≤ line) : mtC .join [.val (.str []), .val (.lst (xs.map fun x => D.str [x]))] = some (.val (.str xs)) := by
  have e2 : (C.val (.lst (xs.map fun x => D.str [x]))).asL = some (xs.map fun x => D.str [x]) := rfl
  simp only [mtC, e2, Option.bind_some, strs1]
  rw [if_pos (by rw [sum1, List.length_map]; show xs.length + xs.length * 0 ≤ line; omega), join1]
theorem frz_str1 (xs : List Nat) : C.frzs (xs.map fun x => C.val (.str [x])) = xs.map fun x => D.str [x] := by
  rw [show (xs.map fun x => C.val (.str [x])) = (xs.map fun x => D.str [x]).map C.val by rw [List.map_map]; rfl, f_map]
theorem sub_s (s : List Nat) (i : Int) (h : s.length ≤ line) : subC (.val (.str s)) (.int i) = ((ixN s.length i).bind fun j => s[j]?).map fun x => .val (.str [x]) := by simp only [subC]; rw [if_pos h]
theorem mo_app (x : C) (cs : List C) (h : cs.length < line) : moC .append [x] (.lst cs) = some (.lst (cs ++ [x]), ()) := by simp only [moC]; rw [if_pos h]
theorem sIx_nat (n d p : Nat) (h : p ≤ n) : sIx n d (some (p : Int)) = p := by
  show (if (p : Int) < 0 then ((p : Int) + n).toNat else min (p : Int).toNat n) = p
  rw [if_neg (by omega)]
  simp
  omega
theorem slB_s (s : List Nat) (a b : Nat) (hs : s.length ≤ line) (ha : a ≤ s.length) (hb : b ≤ s.length) : sliceC (.val (.str s)) (some (a : Int)) (some (b : Int)) = some (.val (.str ((s.drop a).take (b - a)))) := by
  simp only [sliceC, cut]
  rw [if_pos hs, sIx_nat _ _ _ ha, sIx_nat _ _ _ hb]
theorem slL_s (s : List Nat) (a : Nat) (hs : s.length ≤ line) (ha : a ≤ s.length) : sliceC (.val (.str s)) (some (a : Int)) none = some (.val (.str (s.drop a))) := by
  simp only [sliceC, cut]
  rw [if_pos hs, sIx_nat _ _ _ ha]
  congr 3
  exact List.take_of_length_le (by rw [List.length_drop]; exact Nat.le_refl _)
theorem ints_map : ∀ zs : List Int, intsD (zs.map .int) = some zs
  | [] => rfl
  | z :: r => by rw [List.map_cons, intsD, ints_map r]; rfl
theorem sorted_i (zs : List Int) (h : zs.length ≤ 100000) : biC .sorted [.val (.lst (zs.map .int))] = some (.lst (((isort zs).map D.int).map C.val)) := by
  have : biC .sorted [.val (.lst (zs.map .int))] = (intsD (zs.map .int)).bind fun xs => if xs.length ≤ 100000 then some (.lst ((isort xs).map fun i => .val (.int i))) else none := rfl
  rw [this, ints_map, Option.bind_some, if_pos h, List.map_map]
  rfl
theorem ins_p (x : Int) : ∀ l : List Int, (ins x l).Perm (x :: l)
  | [] => .refl _
  | y :: ys => by
    rw [ins]
    split
    · exact .refl _
    · exact ((ins_p x ys).cons y).trans (.swap x y ys)
theorem isort_p : ∀ l : List Int, (isort l).Perm l
  | [] => .refl _
  | x :: xs => (ins_p x (isort xs)).trans ((isort_p xs).cons x)
theorem ins_s (x : Int) : ∀ {l : List Int}, l.Pairwise (· ≤ ·) → (ins x l).Pairwise (· ≤ ·)
  | [], _ => List.pairwise_singleton _ _
  | y :: ys, h => by
    obtain ⟨h1, h2⟩ := List.pairwise_cons.mp h
    rw [ins]
    split
    · rename_i hxy
      refine List.pairwise_cons.mpr ⟨fun z m => ?_, h⟩
      rcases List.mem_cons.mp m with e | m
      · rw [e]; exact hxy
      · exact Int.le_trans hxy (h1 z m)
    · rename_i hxy
      refine List.pairwise_cons.mpr ⟨fun z m => ?_, ins_s x h2⟩
      rcases List.mem_cons.mp ((ins_p x ys).mem_iff.mp m) with e | m
      · rw [e]; omega
      · exact h1 z m
theorem isort_s : ∀ l : List Int, (isort l).Pairwise (· ≤ ·)
  | [] => .nil
  | x :: xs => ins_s x (isort_s xs)
theorem list_l (ds : List D) : biC .list [.val (.lst ds)] = some (.lst (ds.map .val)) := rfl
theorem list_c (ds : List D) : biC .list [.lst (ds.map .val)] = some (.lst (ds.map .val)) := by simp [biC, C.asL, a_map]
/-- what a list of cells is, thing by thing -/
theorem all_int : ∀ {Q : Int → Prop} (cs : List C), (∀ (i : Nat) (c : C), cs[i]? = some c → ∃ z, c = .val (.int z) ∧ Q z) → ∃ zs : List Int, cs = (zs.map D.int).map C.val ∧ ∀ z ∈ zs, Q z
  | _, [], _ => ⟨[], rfl, fun _ m => nomatch m⟩
  | Q, c :: cs, h => by
    obtain ⟨z, rfl, hz⟩ := h 0 c rfl
    obtain ⟨zs, rfl, hs⟩ := all_int (Q := Q) cs fun i c hc => h (i + 1) c hc
    exact ⟨z :: zs, rfl, fun y m => (List.mem_cons.mp m).elim (fun e => e ▸ hz) (hs y)⟩
theorem all_txt : ∀ {Q : List Nat → Prop} (cs : List C), (∀ (i : Nat) (c : C), cs[i]? = some c → ∃ z, c = .val (.str z) ∧ Q z) → ∃ zs : List (List Nat), cs = (zs.map D.str).map C.val ∧ ∀ z ∈ zs, Q z
  | _, [], _ => ⟨[], rfl, fun _ m => nomatch m⟩
  | Q, c :: cs, h => by
    obtain ⟨z, rfl, hz⟩ := h 0 c rfl
    obtain ⟨zs, rfl, hs⟩ := all_txt (Q := Q) cs fun i c hc => h (i + 1) c hc
    exact ⟨z :: zs, rfl, fun y m => (List.mem_cons.mp m).elim (fun e => e ▸ hz) (hs y)⟩
theorem nat_of : ∀ zs : List Int, (∀ z ∈ zs, 0 ≤ z) → ∃ ns : List Nat, zs = ns.map fun n : Nat => (n : Int)
  | [], _ => ⟨[], rfl⟩
  | z :: r, h => by
    obtain ⟨ns, rfl⟩ := nat_of r fun y m => h y (List.mem_cons_of_mem _ m)
    have := h z List.mem_cons_self
    exact ⟨z.toNat :: ns, by rw [List.map_cons]; congr 1; omega⟩
theorem forLoop_inv0 {f : D → Env → Res Fl} (I : Nat → Env → Prop) (ds : List D) (e : Env) (hs : ∀ i d e, ds[i]? = some d → I i e → ∃ e', (f d e = .ok .nx e' ∨ f d e = .ok .ct e') ∧ I (i + 1) e') (h : I 0 e) : ∃ e', forLoop f ds e = .ok .nx e' ∧ I ds.length e' := by
  have := forLoop_inv I ds 0 e (fun i d e hd hi => by rw [Nat.zero_add] at hi ⊢; exact hs i d e hd hi) h
  rw [Nat.zero_add] at this
  exact this
theorem compLoop_inv0 {f : D → Env → Res (Option C)} (I : Nat → Env → Prop) (R : Nat → C → Prop) (ds : List D) (e : Env) (hs : ∀ i d e, ds[i]? = some d → I i e → ∃ c e', f d e = .ok (some c) e' ∧ R i c ∧ I (i + 1) e') (h : I 0 e) :
    ∃ cs e', compLoop f ds e = .ok cs e' ∧ cs.length = ds.length ∧ (∀ i c, cs[i]? = some c → R i c) ∧ I ds.length e' := by
  have := compLoop_inv I R ds 0 e (fun i d e hd hi => by rw [Nat.zero_add] at hi ⊢; exact hs i d e hd hi) h
  rw [Nat.zero_add] at this
  obtain ⟨cs, e', h1, h2, h3, h4⟩ := this
  exact ⟨cs, e', h1, h2, fun i c hc => by have := h3 i c hc; rw [Nat.zero_add] at this; exact this, h4⟩
theorem bools_true {α : Type} : ∀ xs : List α, bools (xs.map fun _ => D.bl true) = some (xs.map fun _ => true)
  | [] => rfl
  | x :: r => by rw [List.map_cons, bools, bools_true r]; rfl
theorem all_true {α : Type} (xs : List α) : biC .all [.val (.lst (xs.map fun _ => D.bl true))] = some (.val (.bl true)) := by
  have : biC .all [.val (.lst (xs.map fun _ => D.bl true))] = (bools (xs.map fun _ => D.bl true)).map fun xs => .val (.bl (xs.all id)) := rfl
  rw [this, bools_true]
  simp
theorem frz_mapf {α : Type} (f : α → D) : ∀ xs : List α, C.frzs (xs.map fun x => C.val (f x)) = xs.map f
  | [] => rfl
  | x :: r => by rw [List.map_cons, C.frzs, C.frz, frz_mapf f r, List.map_cons]
theorem l_add (xs ys : List D) (h : xs.length + ys.length ≤ line) : binC .add (.val (.lst xs)) (.val (.lst ys)) = some (.lst ((xs ++ ys).map .val)) := by
  simp only [binC, C.asL, Option.bind_some]
  rw [if_pos h]
mutual
theorem pyEq_refl : ∀ d : D, d.plain = true → pyEq d d = true
  | .non, _ => rfl
  | .bl b, _ => by simp [pyEq]
  | .int i, _ => by simp [pyEq]
  | .str s, _ => by simp [pyEq]
  | .tup ds, h => pyEqs_refl ds h
  | .lst ds, h => pyEqs_refl ds h
  | .dct _ _, h => by cases h
  | .obj _ _ _, h => by cases h
  | .exc _, h => by cases h
theorem pyEqs_refl : ∀ ds : List D, D.plains ds = true → pyEqs ds ds = true
  | [], _ => rfl
  | d :: ds, h => by
    rw [D.plains, Bool.and_eq_true] at h
    rw [pyEqs, pyEq_refl d h.1, pyEqs_refl ds h.2]
    rfl
end
theorem eq_self (d : D) (h : d.plain = true) (h2 : d.dep ≤ 60) : cmpC .eq (.val d) (.val d) = some true := by
  simp [cmpC, eqOk, C.frz, h, h2, pyEq_refl d h]
theorem ne_self (d : D) (h : d.plain = true) (h2 : d.dep ≤ 60) : cmpC .ne (.val d) (.val d) = some false := by
  simp [cmpC, eqOk, C.frz, h, h2, pyEq_refl d h]
theorem plains_of : ∀ ds : List D, (∀ d ∈ ds, d.plain = true) → D.plains ds = true
  | [], _ => rfl
  | d :: ds, h => by rw [D.plains, h d List.mem_cons_self, plains_of ds fun x m => h x (List.mem_cons_of_mem _ m)]; rfl
theorem deps_of (n : Nat) : ∀ ds : List D, (∀ d ∈ ds, d.dep ≤ n) → D.deps ds ≤ n
  | [], _ => Nat.zero_le _
  | d :: ds, h => by
    rw [D.deps]
    exact Nat.max_le.mpr ⟨h d List.mem_cons_self, deps_of n ds fun x m => h x (List.mem_cons_of_mem _ m)⟩
theorem plain_lst (ds : List D) (h : ∀ d ∈ ds, d.plain = true ∧ d.dep ≤ 10) : (D.lst ds).plain = true ∧ (D.lst ds).dep ≤ 11 := ⟨plains_of ds fun d m => (h d m).1, by rw [D.dep]; exact Nat.succ_le_succ (deps_of 10 ds fun d m => (h d m).2)⟩
theorem mo_clear (cs : List C) : moC .clear [] (.lst cs) = some (.lst [], ()) := rfl
end Mi
/-! more plain facts, of texts of signs -/
namespace Mi
def SG : List Nat := [9, 10, 32, 33, 34, 35, 36, 38, 39, 40, 41, 42, 43, 44, 45, 46, 47, 48, 49, 50, 51, 52, 53, 54, 55, 56, 57, 58, 59, 60, 61, 62, 63, 64, 65, 66, 67, 68, 69, 70, 71, 72, 73, 74, 75, 76, 77, 78, 79, 80, 81, 82, 83, 84, 85, 86, 87, 88, 89, 90, 91, 92, 93, 94, 95, 96, 97, 98, 99, 100, 101, 102, 103, 104, 105, 106, 107, 108, 109, 110, 111, 112, 113, 114, 115, 116, 117, 118, 119, 120, 121, 122, 123, 124, 125, 126]
theorem SG_len : SG.length = 96 := rfl
theorem SG_get {i : Int} (h0 : 0 ≤ i) (h1 : i < 96) : ∃ x ∈ SG, subC (.val (.str SG)) (.int i) = some (.val (.str [x])) := by
  have hl : i.toNat < SG.length := by rw [SG_len]; omega
  refine ⟨SG[i.toNat], List.getElem_mem hl, ?_⟩
  rw [sub_s _ _ (by rw [SG_len]; decide), ix_of h0 (by rw [SG_len]; exact h1)]
  show ((SG[i.toNat]?).map fun x => C.val (.str [x])) = _
  rw [List.getElem?_eq_getElem hl]
  rfl
theorem in_s (t : List Nat) (c : Nat) : cmpC .isin (.val (.str [c])) (.val (.str t)) = some (t.contains c) := rfl
theorem eq_ss (s t : List Nat) : cmpC .eq (.val (.str s)) (.val (.str t)) = some (s == t) := by simp [cmpC, eqOk, C.frz, D.plain, D.dep, pyEq]
theorem ne_ss (s t : List Nat) : cmpC .ne (.val (.str s)) (.val (.str t)) = some (!(s == t)) := by simp [cmpC, eqOk, C.frz, D.plain, D.dep, pyEq]
abbrev sv (s : List Nat) : C := .val (.str s)
abbrev sc (ns : List Int) : C := .val (.lst (ns.map .int))
abbrev tp (i : Int) : C := .lst [.val (.int i)]
abbrev iv (i : Int) : Option C := some (.val (.int i))
theorem it_str (s : List Nat) : itemsK .seq [.val (.str s)] = some (chars s) := rfl
theorem bools_map (f : Nat → Bool) : ∀ s : List Nat, bools (s.map fun c => D.bl (f c)) = some (s.map f)
  | [] => rfl
  | c :: s => by rw [List.map_cons, bools, bools_map f s]; rfl
theorem all_map (f : Nat → Bool) (s : List Nat) : biC .all [.val (.lst (s.map fun c => D.bl (f c)))] = some (.val (.bl (s.all f))) := by
  have : biC .all [.val (.lst (s.map fun c => D.bl (f c)))] = (bools (s.map fun c => D.bl (f c))).map fun xs => .val (.bl (xs.all id)) := rfl
  rw [this, bools_map, Option.map_some, List.all_map]
  rfl
theorem bools_mapG {α : Type} (f : α → Bool) : ∀ s : List α, bools (s.map fun c => D.bl (f c)) = some (s.map f)
  | [] => rfl
  | c :: s => by rw [List.map_cons, bools, bools_mapG f s]; rfl
theorem any_mapG {α : Type} (f : α → Bool) (s : List α) : biC .any [.val (.lst (s.map fun c => D.bl (f c)))] = some (.val (.bl (s.any f))) := by
  have : biC .any [.val (.lst (s.map fun c => D.bl (f c)))] = (bools (s.map fun c => D.bl (f c))).map fun xs => .val (.bl (xs.any id)) := rfl
  rw [this, bools_mapG, Option.map_some, List.any_map]
  rfl
theorem whl_tt (P : Pr) (c : ME) (b : List MS) (n : Nat) (e e1 : Env) (h : whlT P c e = .ok true e1) : whlLoop (whlT P c) (whlB P b) (n + 1) e = (evSs P b e1).bind fun o e => match o with
      | .rt c => .ok (.rt c) e
      | _ => whlLoop (whlT P c) (whlB P b) n e := by rw [whlLoop, h]; rfl
theorem whl_ff (P : Pr) (c : ME) (b : List MS) (n : Nat) (e e1 : Env) (h : whlT P c e = .ok false e1) : whlLoop (whlT P c) (whlB P b) (n + 1) e = .ok .nx e1 := by rw [whlLoop, h]; rfl
theorem sub_at (s : List Nat) (p : Nat) (r : List Nat) (c : Nat) (hs : s.length ≤ line) (h : s.drop p = c :: r) : subC (.val (.str s)) (.int (p : Int)) = some (.val (.str [c])) := by
  have hp : p < s.length := by
    have := congrArg List.length h
    rw [List.length_drop, List.length_cons] at this
    omega
  rw [sub_s _ _ hs, ix_nat _ _ hp, Option.bind_some]
  have : s[p]? = some c := by
    have := congrArg (fun l => l[0]?) h
    simpa using this
  rw [this]
  rfl
theorem beq_f {a b : Int} (h : a ≠ b) : (a == b) = false := beq_eq_false_iff_ne.mpr h
theorem beq_t (a : Int) : (a == a) = true := beq_self_eq_true a
def Txt (n : Nat) (s : List Nat) : Prop := s.length ≤ n ∧ ∀ x ∈ s, x ∈ SG
theorem Txt.app {n m : Nat} {s t : List Nat} (h : Txt n s) (g : Txt m t) : Txt (n + m) (s ++ t) := ⟨by rw [List.length_append]; have := h.1; have := g.1; omega, fun x hx => (List.mem_append.mp hx).elim (h.2 x) (g.2 x)⟩
theorem Txt.mono {n m : Nat} {s : List Nat} (h : Txt n s) (g : n ≤ m) : Txt m s := ⟨Nat.le_trans h.1 g, h.2⟩
theorem txt1 {x : Nat} (h : x ∈ SG) : Txt 1 [x] := ⟨Nat.le_refl _, fun y hy => by rw [List.mem_singleton] at hy; rw [hy]; exact h⟩
theorem txt_all {n : Nat} {s : List Nat} (h : Txt n s) : s.all SG.contains = true := List.all_eq_true.mpr fun x hx => List.contains_iff_mem.mpr (h.2 x hx)
theorem is_nn : cmpC .is (.val .non) (.val .non) = some true := rfl
theorem is_ln (ds : List D) : cmpC .is (.val (.lst ds)) (.val .non) = some false := rfl
theorem is_tn (ds : List D) : cmpC .is (.val (.tup ds)) (.val .non) = some false := rfl
theorem isnot_non : cmpC .isnot (.val .non) (.val .non) = some false := rfl
theorem isnot_tup (ds : List D) : cmpC .isnot (.val (.tup ds)) (.val .non) = some true := rfl
theorem ix0 : ixN 2 (0 : Int) = some 0 := rfl
theorem ix1 : ixN 2 (1 : Int) = some 1 := rfl
theorem ix0' : ixN (0 + 1 + 1) (0 : Int) = some 0 := rfl
theorem ix1' : ixN (0 + 1 + 1) (1 : Int) = some 1 := rfl
theorem it_tup (ds : List D) : itemsK .seq [.val (.tup ds)] = some ds := rfl
theorem it_enum (ds : List D) : itemsK .enum [.val (.lst ds)] = some (enumD 0 ds) := rfl
theorem it_rng2 (a b : Int) (h : -1000000000 ≤ a ∧ a ≤ 1000000000) (g : -1000000000 ≤ b ∧ b ≤ 1000000000) : itemsK .rng [.val (.int a), .val (.int b)] = some (rangeD a (b - a).toNat) := by
  have : itemsK .rng [.val (.int a), .val (.int b)] = if (smallI a && smallI b) = true then some (rangeD a (b - a).toNat) else none := rfl
  rw [this, if_pos (by rw [small_of h, small_of g]; rfl)]
theorem compLoop_filter {f : D → Env → Res (Option C)} (p : D → Bool) (g : D → C) (e : Env) : ∀ ds : List D, (∀ d ∈ ds, f d e = .ok (if p d then some (g d) else none) e) → compLoop f ds e = .ok ((ds.filter p).map g) e
  | [], _ => rfl
  | d :: ds, h => by
    rw [compLoop, h d List.mem_cons_self, b_ok, compLoop_filter p g e ds fun x m => h x (List.mem_cons_of_mem _ m)]
    cases hp : p d
    · rw [List.filter_cons_of_neg (by rw [hp]; exact Bool.false_ne_true)]
      rfl
    · rw [List.filter_cons_of_pos hp]
      rfl
theorem q_nx {P : Pr} {s : MS} {r : List MS} {e e' : Env} (h : evS P s e = .ok .nx e') : evSs P (s :: r) e = evSs P r e' := by rw [evSs, h]; rfl
theorem q_rt {P : Pr} {s : MS} {r : List MS} {e e' : Env} {c : C} (h : evS P s e = .ok (.rt c) e') : evSs P (s :: r) e = .ok (.rt c) e' := by rw [evSs, h]; rfl
theorem ne_le (ds : List D) (h : (D.lst ds).plain = true) : cmpC .ne (.val (.lst ds)) (.val (.lst [])) = some (!ds.isEmpty) := by
  have h2 : (D.lst []).plain = true := rfl
  have h3 : min (D.lst ds).dep (D.lst []).dep ≤ 60 := by
    have : (D.lst []).dep = 1 := rfl
    omega
  show (if ((D.lst ds).plain && (D.lst []).plain && decide (min (D.lst ds).dep (D.lst []).dep ≤ 60)) = true then some (!pyEq (D.lst ds) (D.lst [])) else none) = _
  rw [if_pos (by rw [h, h2, decide_eq_true h3]; rfl)]
  cases ds with
  | nil => rfl
  | cons d ds => rfl
mutual
theorem same_refl : ∀ d : D, D.same d d = true
  | .non => rfl
  | .bl b => beq_self_eq_true b
  | .int i => beq_self_eq_true i
  | .str s => beq_self_eq_true s
  | .tup ds => sames_refl ds
  | .lst ds => sames_refl ds
  | .dct a b => by rw [D.same, sames_refl a, sames_refl b]; rfl
  | .obj c n v => by rw [D.same, sames_refl v, beq_self_eq_true, beq_self_eq_true]; rfl
  | .exc c => beq_self_eq_true c
theorem sames_refl : ∀ ds : List D, D.sames ds ds = true
  | [] => rfl
  | d :: ds => by rw [D.sames, same_refl d, sames_refl ds]; rfl
end
theorem ev_lk_ok {P : Pr} {i : Nat} {a : ME} {e f : Env} {cs : List C} {ds : List D} {c : C} (h : e[i]? = some (some (.lst cs))) (hv : allVal cs = some ds) (hr : ev P a (e.set i (some (.val (.lst ds)))) = .ok c f) (hc : c.leafy = true) (hk : lkEnv (e.set i none) (f.set i none) = true) : ev P (.lk i a) e = .ok c (f.set i (some (.lst cs))) := by
  rw [ev, h]
  dsimp only
  rw [hv]
  dsimp only
  rw [hr]
  dsimp only
  rw [hc, hk]
  rfl
/-- a slot that owns nothing -/
def VO (o : Option C) : Prop := o = none ∨ ∃ d, o = some (.val d)
theorem VO.n : VO none := .inl rfl
theorem VO.v (d : D) : VO (some (.val d)) := .inr ⟨d, rfl⟩
theorem VO.nil : ∀ o ∈ ([] : Env), VO o := fun _ m => nomatch m
theorem VO.cons {o : Option C} {e : Env} (h : VO o) (g : ∀ o ∈ e, VO o) : ∀ x ∈ o :: e, VO x := fun x m => by
  rcases List.mem_cons.mp m with z | z
  · rw [z]; exact h
  · exact g x z
theorem lkEnv_self : ∀ e : Env, (∀ o ∈ e, VO o) → lkEnv e e = true
  | [], _ => rfl
  | o :: e, h => by
    have ih := lkEnv_self e fun o m => h o (List.mem_cons_of_mem _ m)
    rcases h o List.mem_cons_self with rfl | ⟨d, rfl⟩
    · exact ih
    · have e1 : lkEnv (some (C.val d) :: e) (some (C.val d) :: e) = (((C.val d).leafy || D.same d d) && lkEnv e e) := rfl
      rw [e1, same_refl, Bool.or_true, ih]
      rfl
theorem bits_lt {x : Int} {n : Nat} : intBits x ≤ n ↔ x.natAbs < 2 ^ n := by
  unfold intBits
  split
  · rename_i hx
    have : x = 0 := by simpa using hx
    subst this
    exact ⟨fun _ => Nat.pos_of_ne_zero (by simp), fun _ => Nat.zero_le _⟩
  · rename_i hx
    have h0 : x.natAbs ≠ 0 := fun z => by
      have : x = 0 := Int.natAbs_eq_zero.mp z
      rw [this] at hx
      exact hx rfl
    have := Nat.log2_lt (k := n) h0
    omega
theorem bits_add {c d : Int} {N : Nat} (hN : 64 ≤ N) (h : intBits c ≤ N) (g : d.natAbs < 2 ^ 64) : intBits (c + d) ≤ N + 1 := by
  have h1 := bits_lt.mp h
  have h2 : 2 ^ 64 ≤ 2 ^ N := Nat.pow_le_pow_right (by decide) hN
  refine bits_lt.mpr ?_
  have h3 : (c + d).natAbs ≤ c.natAbs + d.natAbs := Int.natAbs_add_le _ _
  rw [Nat.pow_succ]
  generalize 2 ^ N = X at *
  generalize 2 ^ 64 = Y at *
  omega
/-- the place of a sign -/
def posS (c : Nat) : Nat := (SG.findIdx? (· == c)).getD 0
theorem pos_some {c : Nat} (h : c ∈ SG) : SG.findIdx? (· == c) = some (posS c) ∧ posS c < 96 := by
  unfold posS
  cases e : SG.findIdx? (· == c) with
  | none =>
    rw [List.findIdx?_eq_none_iff] at e
    have := e c h
    simp at this
  | some p =>
    refine ⟨rfl, ?_⟩
    obtain ⟨hp, _⟩ := List.findIdx?_eq_some_iff_getElem.mp e
    exact hp
theorem mt_idx {c : Nat} (h : c ∈ SG) : mtC .index [.val (.str SG), .val (.str [c])] = some (.val (.int (posS c : Nat))) := by
  simp only [mtC]
  rw [if_pos (by rw [SG_len]; decide), (pos_some h).1]
  rfl
/-- one turn of a for loop -/
theorem forB_nm (P : Pr) (i : Nat) (b : List MS) (d : D) (e : Env) : forB P (.nm i) b d e = evSs P b (e.set i (some (.val d))) := rfl
theorem fl_nx {P : Pr} {i : Nat} {b : List MS} {d : D} {r : List D} {e e' : Env} (h : evSs P b (e.set i (some (.val d))) = .ok .nx e') : forLoop (forB P (.nm i) b) (d :: r) e = forLoop (forB P (.nm i) b) r e' := by rw [forLoop, forB_nm, h]; rfl
theorem fl_rt {P : Pr} {i : Nat} {b : List MS} {d : D} {r : List D} {e e' : Env} {c : C} (h : evSs P b (e.set i (some (.val d))) = .ok (.rt c) e') : forLoop (forB P (.nm i) b) (d :: r) e = .ok (.rt c) e' := by rw [forLoop, forB_nm, h]; rfl
theorem ft_nx {P : Pr} {is : List Nat} {b : List MS} {d : D} {r : List D} {e e1 e' : Env} (hb : bindTg (.tp is) (.val d) e = some e1) (h : evSs P b e1 = .ok .nx e') : forLoop (forB P (.tp is) b) (d :: r) e = forLoop (forB P (.tp is) b) r e' := by rw [forLoop, forB, hb]; dsimp only; rw [h]; rfl
theorem comp_get {f : D → Env → Res (Option C)} (e : Env) : ∀ (ds : List D) (out : List D), out.length = ds.length → (∀ (i : Nat) (d o : D), ds[i]? = some d → out[i]? = some o → f d e = .ok (some (.val o)) e) → compLoop f ds e = .ok (out.map .val) e
  | [], [], _, _ => rfl
  | d :: ds, o :: out, hl, h => by
    rw [compLoop, h 0 d o rfl rfl, b_ok, comp_get e ds out (by simpa using hl) fun i d o h1 h2 => h (i + 1) d o h1 h2]
    rfl
theorem rt_ios {P : Pr} {fd : Fd} {cs os : List C} {c : C} {e : Env} (hnp : cs.length = fd.np) (h : evSs P fd.body (start fd.ns cs) = .ok (.rt c) e) (ho : outsOf e fd.io = some os) : runFd P fd cs = .ok c os := by
  rw [runFd, if_pos hnp, h]
  show (match outsOf e fd.io with | some os => CR.ok c os | none => CR.stuck) = _
  rw [ho]
theorem nx_ios {P : Pr} {fd : Fd} {cs os : List C} {e : Env} (hnp : cs.length = fd.np) (h : evSs P fd.body (start fd.ns cs) = .ok .nx e) (ho : outsOf e fd.io = some os) : runFd P fd cs = .ok (.val .non) os := by
  rw [runFd, if_pos hnp, h]
  show (match outsOf e fd.io with | some os => CR.ok (.val .non) os | none => CR.stuck) = _
  rw [ho]
theorem ex_ios {P : Pr} {fd : Fd} {cs : List C} {x : Nat} {e : Env} (hnp : cs.length = fd.np) (h : evSs P fd.body (start fd.ns cs) = .exc x e) : runFd P fd cs = .exc x := by
  rw [runFd, if_pos hnp, h]
theorem q_ex {P : Pr} {s : MS} {r : List MS} {e e' : Env} {x : Nat} (h : evS P s e = .exc x e') : evSs P (s :: r) e = .exc x e' := by rw [evSs, h]; rfl
end Mi
namespace K01
open Mi
def fd_is_number : Fd := ⟨1, 1, [],
  [.ret (.and [(.isi (.var 0) [.int]), (.not (.isi (.var 0) [.bool])), (.chn .le .lt (.k (.int 0)) (.var 0) (.g 1))])]⟩
def fd_is_text : Fd := ⟨1, 2, [],
  [.ret (.and [(.isi (.var 0) [.str]), (.bi .all [(.comp (.cmp .isin (.var 1) (.g 0)) (.nm 1) .seq [(.var 0)] [])])])]⟩
def fd_number_of : Fd := ⟨1, 1, [],
  [.ite (.or [(.not (.call 1 [(.var 0)])), (.cmp .ne (.bi .len [(.var 0)]) (.k (.int 1)))]) [.raise 2] [], .ret (.mt .index [(.g 0), (.var 0)])]⟩
def fd_is_pair : Fd := ⟨2, 2, [],
  [.ite (.or [(.not (.isi (.var 0) [.tuple])), (.cmp .ne (.bi .len [(.var 0)]) (.k (.int 2))), (.not (.call 0 [(.sub (.var 0) (.k (.int 0)))])), (.not (.call 0 [(.sub (.var 0) (.k (.int 1)))]))]) [.ret (.k (.bl false))] [], .ret (.chn .le .le (.var 1) (.sub (.var 0) (.k (.int 0))) (.sub (.var 0) (.k (.int 1))))]⟩
def fd_is_set : Fd := ⟨1, 3, [],
  [.ite (.not (.isi (.var 0) [.tuple])) [.ret (.k (.bl false))] [], .asg true (.nm 1) (.k (.int 0)), .for_ (.nm 2) .seq [(.var 0)] [.ite (.not (.call 3 [(.var 2), (.var 1)])) [.ret (.k (.bl false))] [], .asg true (.nm 1) (.bin .add (.sub (.var 2) (.k (.int 1))) (.k (.int 2)))], .ret (.k (.bl true))]⟩
def fd_need_set : Fd := ⟨1, 1, [],
  [.ite (.not (.call 4 [(.var 0)])) [.raise 3] []]⟩
def fd_has : Fd := ⟨2, 4, [],
  [.ex (.call 5 [(.var 0)]), .ret (.bi .any [(.comp (.chn .le .le (.var 2) (.var 1) (.var 3)) (.tp [2, 3]) .seq [(.var 0)] [])])]⟩
def fd_flags_of : Fd := ⟨1, 5, [],
  [.asg false (.nm 1) (.bin .mul (.lst [(.k (.bl false))]) (.g 1)), .for_ (.tp [2, 3]) .seq [(.var 0)] [.for_ (.nm 4) .rng [(.var 2), (.bin .add (.var 3) (.k (.int 1)))] [.ssub (.var 1) (.var 4) (.k (.bl true))]], .ret (.mvar 1)]⟩
def fd_set_of : Fd := ⟨1, 3, [],
  [.asg false (.nm 1) (.lst []), .for_ (.nm 2) .rng [(.g 1)] [.ite (.sub (.var 0) (.var 2)) [.ite (.and [(.cmp .ne (.var 1) (.lst [])), (.cmp .eq (.sub (.sub (.var 1) (.neg (.k (.int 1)))) (.k (.int 1))) (.bin .sub (.var 2) (.k (.int 1))))]) [.ssub (.var 1) (.neg (.k (.int 1))) (.tup [(.sub (.sub (.var 1) (.neg (.k (.int 1)))) (.k (.int 0))), (.var 2)])] [.mut (.var 1) .append [(.tup [(.var 2), (.var 2)])]]] []], .ret (.bi .tuple [(.var 1)])]⟩
def fd_joined : Fd := ⟨2, 4, [],
  [.ex (.call 5 [(.var 0)]), .ex (.call 5 [(.var 1)]), .ret (.call 8 [(.comp (.or [(.var 2), (.var 3)]) (.tp [2, 3]) .zip [(.frz (.call 7 [(.var 0)])), (.frz (.call 7 [(.var 1)]))] [])])]⟩
def fd_met : Fd := ⟨2, 4, [],
  [.ex (.call 5 [(.var 0)]), .ex (.call 5 [(.var 1)]), .ret (.call 8 [(.comp (.and [(.var 2), (.var 3)]) (.tp [2, 3]) .zip [(.frz (.call 7 [(.var 0)])), (.frz (.call 7 [(.var 1)]))] [])])]⟩
def fd_others : Fd := ⟨1, 2, [],
  [.ex (.call 5 [(.var 0)]), .ret (.call 8 [(.comp (.not (.var 1)) (.nm 1) .seq [(.frz (.call 7 [(.var 0)]))] [])])]⟩
def fd_law_cell_at : Fd := ⟨2, 2, [],
  [.ite (.cmp .lt (.var 1) (.bi .len [(.var 0)])) [.ret (.sub (.var 0) (.var 1))] [], .ret (.k (.int 0))]⟩
def fd_law_signs : Fd := ⟨0, 1, [],
  [.asg true (.nm 0) (.k (.str [9, 10, 32, 33, 34, 35, 36, 38, 39, 40, 41, 42, 43, 44, 45, 46, 47, 48, 49, 50, 51, 52, 53, 54, 55, 56, 57, 58, 59, 60, 61, 62, 63, 64, 65, 66, 67, 68, 69, 70, 71, 72, 73, 74, 75, 76, 77, 78, 79, 80, 81, 82, 83, 84, 85, 86, 87, 88, 89, 90, 91, 92, 93, 94, 95, 96])), .ret (.bin .add (.var 0) (.k (.str [97, 98, 99, 100, 101, 102, 103, 104, 105, 106, 107, 108, 109, 110, 111, 112, 113, 114, 115, 116, 117, 118, 119, 120, 121, 122, 123, 124, 125, 126])))]⟩
def fd_law_flags : Fd := ⟨1, 6, [],
  [.asg true (.nm 1) (.bin .mod (.sub (.var 0) (.k (.int 0))) (.k (.int 5))), .asg false (.nm 2) (.bin .mul (.lst [(.cmp .eq (.var 1) (.k (.int 4)))]) (.k (.int 96))), .for_ (.nm 3) .seq [(.slB (.var 0) (.k (.int 1)) (.bin .add (.k (.int 1)) (.bin .mod (.bin .fdiv (.sub (.var 0) (.k (.int 0))) (.k (.int 5))) (.k (.int 7)))))] [.asg true (.nm 4) (.sub (.lst [(.bin .mod (.bin .fdiv (.var 3) (.k (.int 4))) (.k (.int 96))), (.bin .mod (.bin .fdiv (.var 3) (.k (.int 4))) (.k (.int 96))), (.k (.int 0)), (.bin .sub (.k (.int 95)) (.bin .mod (.bin .fdiv (.var 3) (.k (.int 4))) (.k (.int 3))))]) (.bin .mod (.var 3) (.k (.int 4)))), .for_ (.nm 5) .rng [(.var 4), (.bi .min [(.k (.int 96)), (.bin .add (.bin .add (.var 4) (.k (.int 1))) (.bin .mod (.bin .fdiv (.var 3) (.k (.int 16))) (.sub (.lst [(.k (.int 1)), (.k (.int 3)), (.k (.int 9)), (.k (.int 40)), (.k (.int 5))]) (.var 1))))])] [.ssub (.var 2) (.var 5) (.cmp .lt (.var 1) (.k (.int 4)))]], .ret (.mvar 2)]⟩
def fd_law_set : Fd := ⟨1, 4, [],
  [.asg false (.nm 1) (.lst []), .for_ (.nm 2) .rng [(.k (.int 96))] [.ite (.and [(.sub (.var 0) (.var 2)), (.or [(.cmp .eq (.var 2) (.k (.int 0))), (.not (.sub (.var 0) (.bin .sub (.var 2) (.k (.int 1)))))])]) [.asg true (.nm 3) (.var 2), .whl (.and [(.cmp .lt (.var 3) (.k (.int 95))), (.sub (.var 0) (.bin .add (.var 3) (.k (.int 1))))]) [.asg true (.nm 3) (.bin .add (.var 3) (.k (.int 1)))], .mut (.var 1) .append [(.tup [(.var 2), (.var 3)])]] []], .ret (.bi .tuple [(.var 1)])]⟩
def fd_law_kind : Fd := ⟨1, 3, [],
  [.asg true (.nm 1) (.k (.str [])), .ite (.isi (.var 0) [(.cls 2)]) [.asg true (.nm 1) (.bin .add (.var 1) (.k (.str [115, 105, 103, 110])))] [], .ite (.isi (.var 0) [(.cls 3)]) [.asg true (.nm 1) (.bin .add (.var 1) (.k (.str [115, 101, 116])))] [], .for_ (.nm 2) .seq [(.frz (.lst [(.isi (.var 0) [(.cls 4)]), (.isi (.var 0) [(.cls 5)]), (.isi (.var 0) [(.cls 6)])]))] [.ite (.var 2) [.asg true (.nm 1) (.bin .add (.var 1) (.k (.str [111, 116, 104, 101, 114])))] []], .for_ (.nm 2) .seq [(.frz (.lst [(.isi (.var 0) [(.cls 7)]), (.isi (.var 0) [(.cls 8)]), (.isi (.var 0) [(.cls 9)])]))] [.ite (.var 2) [.asg true (.nm 1) (.bin .add (.var 1) (.k (.str [111, 116, 104, 101, 114])))] []], .ret (.bin .mul (.var 1) (.bi .int [(.isi (.var 0) [(.cls 0)])]))]⟩
def fd_law_refused : Fd := ⟨3, 4, [],
  [.tri [.ite (.cmp .eq (.var 0) (.k (.int 0))) [.ex (.call 2 [(.var 1)])] [], .ite (.cmp .eq (.var 0) (.k (.int 1))) [.ex (.call 6 [(.var 1), (.k (.int 5))])] [], .ite (.cmp .eq (.var 0) (.k (.int 2))) [.ex (.call 9 [(.var 1), (.var 2)])] [], .ite (.cmp .eq (.var 0) (.k (.int 3))) [.ex (.call 9 [(.var 2), (.var 1)])] [], .ite (.cmp .eq (.var 0) (.k (.int 4))) [.ex (.call 10 [(.var 1), (.var 2)])] [], .ite (.cmp .eq (.var 0) (.k (.int 5))) [.ex (.call 10 [(.var 2), (.var 1)])] [], .ite (.cmp .eq (.var 0) (.k (.int 6))) [.ex (.call 11 [(.var 1)])] []] 1 (some 3) [.ret (.call 16 [(.var 3)])], .ret (.k (.str []))]⟩
def fd_law_no_sets : Fd := ⟨1, 5, [],
  [.asg true (.nm 1) (.bin .mod (.var 0) (.k (.int 90))), .asg true (.nm 2) (.lst [(.tup [(.tup [(.bin .add (.var 1) (.k (.int 3))), (.bin .add (.var 1) (.k (.int 1)))])]), (.tup [(.tup [(.var 1), (.bin .add (.var 1) (.k (.int 2)))]), (.tup [(.bin .add (.var 1) (.k (.int 3))), (.bin .add (.var 1) (.k (.int 4)))])]), (.tup [(.tup [(.var 1), (.bin .add (.var 1) (.k (.int 3)))]), (.tup [(.bin .add (.var 1) (.k (.int 2))), (.bin .add (.var 1) (.k (.int 5)))])])]), .asg true (.nm 2) (.bin .add (.var 2) (.lst [(.tup [(.tup [(.bin .add (.var 1) (.k (.int 4))), (.bin .add (.var 1) (.k (.int 5)))]), (.tup [(.var 1), (.bin .add (.var 1) (.k (.int 1)))])]), (.tup [(.tup [(.neg (.k (.int 1))), (.var 1)])]), (.tup [(.tup [(.var 1), (.k (.int 96))])]), (.tup [(.tup [(.var 1), (.var 1), (.var 1)])]), (.tup [(.tup [(.var 1)])])])), .asg true (.nm 2) (.bin .add (.var 2) (.lst [(.tup [(.lst [(.var 1), (.var 1)])]), (.lst [(.tup [(.var 1), (.var 1)])]), (.tup [(.tup [(.k (.bl true)), (.k (.int 4))])]), (.tup [(.tup [(.k (.int 0)), (.k (.bl true))])]), (.tup [(.tup [(.var 1), (.k (.str [57]))])]), (.tup [(.tup [(.k (.str [97])), (.k (.str [98]))])]), (.tup [(.var 1), (.var 1)])])), .asg true (.nm 2) (.bin .add (.var 2) (.lst [(.k .non), (.k (.int 7)), (.k (.str [97, 98])), (.dct false [] []), (.tup [(.k .non)]), (.tup [(.tup [(.var 1), (.k .non)])]), (.tup [(.tup [])]), (.tup [(.lst [])]), (.tup [(.tup [(.var 1), (.var 1)]), (.tup [(.var 1), (.var 1)])])])), .asg true (.nm 2) (.bin .add (.var 2) (.lst [(.tup [(.tup [(.k (.bl false)), (.k (.int 4))])]), (.tup [(.tup [(.k (.int 0)), (.k (.bl false))])])])), .asg true (.nm 3) (.lst [(.tup [(.k (.int 2)), (.k (.int 96))]), (.tup [(.k (.int 2)), (.k (.bl true))]), (.tup [(.k (.int 2)), (.k (.str [57]))]), (.tup [(.k (.int 2)), (.k (.int 3)), (.k (.int 4))]), (.tup [(.k (.int 2))]), (.k .non), (.lst [(.k (.int 2)), (.k (.int 3))]), (.tup [(.k (.int 2)), (.k .non)]), (.tup [])]), .ret (.bin .add (.var 2) (.comp (.tup [(.tup [(.k (.int 0)), (.k (.int 0))]), (.var 4)]) (.nm 4) .seq [(.var 3)] []))]⟩
def fd_law_truth : Fd := ⟨2, 2, [],
  [.ret (.and [(.isi (.var 0) [.bool]), (.cmp .eq (.var 0) (.var 1))])]⟩
def fd_law_texts : Fd := ⟨1, 7, [],
  [.asg true (.nm 1) (.call 13 []), .asg true (.nm 2) (.mt .join [(.k (.str [])), (.comp (.sub (.var 1) (.bin .mod (.var 6) (.k (.int 96)))) (.nm 6) .seq [(.slB (.var 0) (.k (.int 2)) (.bin .add (.k (.int 2)) (.bin .mod (.call 12 [(.var 0), (.k (.int 1))]) (.k (.int 10)))))] [])]), .ite (.cmp .isnot (.call 1 [(.var 2)]) (.k (.bl true))) [.ret (.k (.bl false))] [], .for_ (.nm 3) .seq [(.frz (.lst [(.k (.str [])), (.k (.str [97, 98])), (.bin .add (.var 2) (.k (.str [97, 126]))), (.k .non), (.k (.int 5)), (.k (.bl true)), (.lst [(.k (.str [97]))]), (.tup [(.k (.str [97]))]), (.k (.str [10, 9])), (.dct false [] [])]))] [.ite (.or [(.not (.call 19 [(.call 1 [(.var 3)]), (.isi (.var 3) [.str])])), (.cmp .ne (.call 17 [(.k (.int 0)), (.var 3), (.tup [])]) (.k (.str [115, 105, 103, 110])))]) [.ret (.k (.bl false))] []], .asg true (.nm 4) (.bin .mod (.call 12 [(.var 0), (.k (.int 0))]) (.k (.int 96))), .asg true (.nm 5) (.call 2 [(.sub (.var 1) (.var 4))]), .ret (.and [(.isi (.var 5) [.int]), (.not (.isi (.var 5) [.bool])), (.cmp .eq (.var 5) (.var 4)), (.cmp .eq (.g 0) (.var 1))])]⟩
def fd_law_is : Fd := ⟨2, 3, [],
  [.ite (.or [(.not (.isi (.var 0) [.tuple])), (.cmp .ne (.var 0) (.call 15 [(.var 1)]))]) [.ret (.k (.bl false))] [], .ret (.bi .all [(.comp (.and [(.isi (.var 2) [.tuple]), (.not (.isi (.sub (.var 2) (.k (.int 0))) [.bool]))]) (.nm 2) .seq [(.var 0)] [])])]⟩
def fd_law_far_right : Fd := ⟨1, 5, [],
  [.asg true (.nm 1) (.k (.int 1)), .for_ (.nm 2) .rng [(.k (.int 3000))] [.asg true (.nm 1) (.bin .mul (.var 1) (.k (.int 50)))], .for_ (.nm 3) .seq [(.tup [(.tup [(.tup [(.k (.int 0)), (.var 1)])]), (.tup [(.tup [(.bin .sub (.k (.int 0)) (.var 1)), (.k (.int 5))])]), (.tup [(.tup [(.var 1), (.var 1)])]), (.tup [(.tup [(.k (.int 0)), (.k (.int 3))]), (.tup [(.k (.int 5)), (.var 1)])]), (.var 1)])] [.ite (.or [(.cmp .isnot (.call 4 [(.var 3)]) (.k (.bl false))), (.not (.bi .all [(.comp (.cmp .eq (.call 17 [(.var 4), (.var 3), (.var 0)]) (.k (.str [115, 101, 116]))) (.nm 4) .rng [(.k (.int 1)), (.k (.int 7))] [])]))]) [.ret (.k (.bl false))] []], .ret (.k (.bl true))]⟩
def fd_law : Fd := ⟨1, 11, [],
  [.ite (.not (.call 20 [(.var 0)])) [.ret (.k (.bl false))] [], .asg true (.nm 1) (.call 14 [(.comp (.call 12 [(.var 0), (.bin .add (.k (.int 2)) (.var 8))]) (.nm 8) .rng [(.k (.int 7))] [])]), .asg true (.nm 2) (.call 14 [(.comp (.call 12 [(.var 0), (.bin .add (.k (.int 9)) (.var 8))]) (.nm 8) .rng [(.k (.int 7))] [])]), .asg true (.nm 3) (.call 15 [(.var 1)]), .asg true (.nm 4) (.call 15 [(.var 2)]), .ite (.or [(.cmp .isnot (.call 4 [(.var 3)]) (.k (.bl true))), (.cmp .isnot (.call 4 [(.var 4)]) (.k (.bl true)))]) [.ret (.k (.bl false))] [], .for_ (.nm 5) .rng [(.neg (.k (.int 3))), (.k (.int 99))] [.ite (.not (.call 19 [(.call 6 [(.var 3), (.var 5)]), (.and [(.chn .le .lt (.k (.int 0)) (.var 5) (.k (.int 96))), (.sub (.var 1) (.bin .mod (.var 5) (.k (.int 96))))])])) [.ret (.k (.bl false))] []], .ite (.not (.call 21 [(.call 9 [(.var 3), (.var 4)]), (.comp (.or [(.sub (.var 1) (.var 8)), (.sub (.var 2) (.var 8))]) (.nm 8) .rng [(.k (.int 96))] [])])) [.ret (.k (.bl false))] [], .ite (.not (.call 21 [(.call 10 [(.var 3), (.var 4)]), (.comp (.and [(.sub (.var 1) (.var 8)), (.sub (.var 2) (.var 8))]) (.nm 8) .rng [(.k (.int 96))] [])])) [.ret (.k (.bl false))] [], .ite (.or [(.not (.call 21 [(.call 11 [(.var 3)]), (.comp (.not (.var 10)) (.nm 10) .seq [(.var 1)] [])])), (.not (.call 22 [(.var 3)]))]) [.ret (.k (.bl false))] [], .asg true (.nm 6) (.call 18 [(.call 12 [(.var 0), (.k (.int 1))])]), .asg true (.nm 7) (.sub (.var 6) (.bin .mod (.call 12 [(.var 0), (.k (.int 0))]) (.bi .len [(.var 6)]))), .ret (.and [(.cmp .is (.call 4 [(.var 7)]) (.k (.bl false))), (.bi .all [(.comp (.cmp .eq (.call 17 [(.var 9), (.var 7), (.var 3)]) (.k (.str [115, 101, 116]))) (.nm 9) .rng [(.k (.int 1)), (.k (.int 7))] [])])])]⟩
def gl : Nat → D
  | 0 => (.str [9, 10, 32, 33, 34, 35, 36, 38, 39, 40, 41, 42, 43, 44, 45, 46, 47, 48, 49, 50, 51, 52, 53, 54, 55, 56, 57, 58, 59, 60, 61, 62, 63, 64, 65, 66, 67, 68, 69, 70, 71, 72, 73, 74, 75, 76, 77, 78, 79, 80, 81, 82, 83, 84, 85, 86, 87, 88, 89, 90, 91, 92, 93, 94, 95, 96, 97, 98, 99, 100, 101, 102, 103, 104, 105, 106, 107, 108, 109, 110, 111, 112, 113, 114, 115, 116, 117, 118, 119, 120, 121, 122, 123, 124, 125, 126])
  | 1 => (.int 96)
  | _ => .non
def fdt : Nat → Option Fd
  | 0 => some fd_is_number
  | 1 => some fd_is_text
  | 2 => some fd_number_of
  | 3 => some fd_is_pair
  | 4 => some fd_is_set
  | 5 => some fd_need_set
  | 6 => some fd_has
  | 7 => some fd_flags_of
  | 8 => some fd_set_of
  | 9 => some fd_joined
  | 10 => some fd_met
  | 11 => some fd_others
  | 12 => some fd_law_cell_at
  | 13 => some fd_law_signs
  | 14 => some fd_law_flags
  | 15 => some fd_law_set
  | 16 => some fd_law_kind
  | 17 => some fd_law_refused
  | 18 => some fd_law_no_sets
  | 19 => some fd_law_truth
  | 20 => some fd_law_texts
  | 21 => some fd_law_is
  | 22 => some fd_law_far_right
  | 23 => some fd_law
  | _ => none
def sub (c d : Nat) : Bool := c == d || (decide (1 ≤ c) && decide (c ≤ 9) && (d == 1 || d == 0))
def pg : Pg := ⟨fdt, gl, sub, 10000000⟩
end K01

namespace K01
open Mi
abbrev S1 : MS := .ite (.not (.call 20 [(.var 0)])) [.ret (.k (.bl false))] []
abbrev S2 : MS := .asg true (.nm 1) (.call 14 [(.comp (.call 12 [(.var 0), (.bin .add (.k (.int 2)) (.var 8))]) (.nm 8) .rng [(.k (.int 7))] [])])
abbrev S3 : MS := .asg true (.nm 2) (.call 14 [(.comp (.call 12 [(.var 0), (.bin .add (.k (.int 9)) (.var 8))]) (.nm 8) .rng [(.k (.int 7))] [])])
abbrev S4 : MS := .asg true (.nm 3) (.call 15 [(.var 1)])
abbrev S5 : MS := .asg true (.nm 4) (.call 15 [(.var 2)])
abbrev S6 : MS := .ite (.or [(.cmp .isnot (.call 4 [(.var 3)]) (.k (.bl true))), (.cmp .isnot (.call 4 [(.var 4)]) (.k (.bl true)))]) [.ret (.k (.bl false))] []
abbrev S7 : MS := .for_ (.nm 5) .rng [(.neg (.k (.int 3))), (.k (.int 99))] [.ite (.not (.call 19 [(.call 6 [(.var 3), (.var 5)]), (.and [(.chn .le .lt (.k (.int 0)) (.var 5) (.k (.int 96))), (.sub (.var 1) (.bin .mod (.var 5) (.k (.int 96))))])])) [.ret (.k (.bl false))] []]
abbrev S8 : MS := .ite (.not (.call 21 [(.call 9 [(.var 3), (.var 4)]), (.comp (.or [(.sub (.var 1) (.var 8)), (.sub (.var 2) (.var 8))]) (.nm 8) .rng [(.k (.int 96))] [])])) [.ret (.k (.bl false))] []
abbrev S9 : MS := .ite (.not (.call 21 [(.call 10 [(.var 3), (.var 4)]), (.comp (.and [(.sub (.var 1) (.var 8)), (.sub (.var 2) (.var 8))]) (.nm 8) .rng [(.k (.int 96))] [])])) [.ret (.k (.bl false))] []
abbrev S10 : MS := .ite (.or [(.not (.call 21 [(.call 11 [(.var 3)]), (.comp (.not (.var 10)) (.nm 10) .seq [(.var 1)] [])])), (.not (.call 22 [(.var 3)]))]) [.ret (.k (.bl false))] []
abbrev S11 : MS := .asg true (.nm 6) (.call 18 [(.call 12 [(.var 0), (.k (.int 1))])])
abbrev S12 : MS := .asg true (.nm 7) (.sub (.var 6) (.bin .mod (.call 12 [(.var 0), (.k (.int 0))]) (.bi .len [(.var 6)])))
abbrev S13 : MS := .ret (.and [(.cmp .is (.call 4 [(.var 7)]) (.k (.bl false))), (.bi .all [(.comp (.cmp .eq (.call 17 [(.var 9), (.var 7), (.var 3)]) (.k (.str [115, 101, 116]))) (.nm 9) .rng [(.k (.int 1)), (.k (.int 7))] [])])])
abbrev lb_is_set_0 : List MS := [.ite (.not (.call 3 [(.var 2), (.var 1)])) [.ret (.k (.bl false))] [], .asg true (.nm 1) (.bin .add (.sub (.var 2) (.k (.int 1))) (.k (.int 2)))]
abbrev fs_is_set_0 : MS := .ite (.not (.isi (.var 0) [.tuple])) [.ret (.k (.bl false))] []
abbrev fs_is_set_1 : MS := .asg true (.nm 1) (.k (.int 0))
abbrev fs_is_set_2 : MS := .for_ (.nm 2) .seq [(.var 0)] [.ite (.not (.call 3 [(.var 2), (.var 1)])) [.ret (.k (.bl false))] [], .asg true (.nm 1) (.bin .add (.sub (.var 2) (.k (.int 1))) (.k (.int 2)))]
abbrev fs_is_set_3 : MS := .ret (.k (.bl true))
abbrev lb_flags_of_0 : List MS := [.for_ (.nm 4) .rng [(.var 2), (.bin .add (.var 3) (.k (.int 1)))] [.ssub (.var 1) (.var 4) (.k (.bl true))]]
abbrev lb_flags_of_1 : List MS := [.ssub (.var 1) (.var 4) (.k (.bl true))]
abbrev fs_flags_of_0 : MS := .asg false (.nm 1) (.bin .mul (.lst [(.k (.bl false))]) (.g 1))
abbrev fs_flags_of_1 : MS := .for_ (.tp [2, 3]) .seq [(.var 0)] [.for_ (.nm 4) .rng [(.var 2), (.bin .add (.var 3) (.k (.int 1)))] [.ssub (.var 1) (.var 4) (.k (.bl true))]]
abbrev fs_flags_of_2 : MS := .ret (.mvar 1)
abbrev lb_set_of_0 : List MS := [.ite (.sub (.var 0) (.var 2)) [.ite (.and [(.cmp .ne (.var 1) (.lst [])), (.cmp .eq (.sub (.sub (.var 1) (.neg (.k (.int 1)))) (.k (.int 1))) (.bin .sub (.var 2) (.k (.int 1))))]) [.ssub (.var 1) (.neg (.k (.int 1))) (.tup [(.sub (.sub (.var 1) (.neg (.k (.int 1)))) (.k (.int 0))), (.var 2)])] [.mut (.var 1) .append [(.tup [(.var 2), (.var 2)])]]] []]
abbrev fs_set_of_0 : MS := .asg false (.nm 1) (.lst [])
abbrev fs_set_of_1 : MS := .for_ (.nm 2) .rng [(.g 1)] [.ite (.sub (.var 0) (.var 2)) [.ite (.and [(.cmp .ne (.var 1) (.lst [])), (.cmp .eq (.sub (.sub (.var 1) (.neg (.k (.int 1)))) (.k (.int 1))) (.bin .sub (.var 2) (.k (.int 1))))]) [.ssub (.var 1) (.neg (.k (.int 1))) (.tup [(.sub (.sub (.var 1) (.neg (.k (.int 1)))) (.k (.int 0))), (.var 2)])] [.mut (.var 1) .append [(.tup [(.var 2), (.var 2)])]]] []]
abbrev fs_set_of_2 : MS := .ret (.bi .tuple [(.var 1)])
abbrev fs_joined_0 : MS := .ex (.call 5 [(.var 0)])
abbrev fs_joined_1 : MS := .ex (.call 5 [(.var 1)])
abbrev fs_joined_2 : MS := .ret (.call 8 [(.comp (.or [(.var 2), (.var 3)]) (.tp [2, 3]) .zip [(.frz (.call 7 [(.var 0)])), (.frz (.call 7 [(.var 1)]))] [])])
abbrev fs_met_0 : MS := .ex (.call 5 [(.var 0)])
abbrev fs_met_1 : MS := .ex (.call 5 [(.var 1)])
abbrev fs_met_2 : MS := .ret (.call 8 [(.comp (.and [(.var 2), (.var 3)]) (.tp [2, 3]) .zip [(.frz (.call 7 [(.var 0)])), (.frz (.call 7 [(.var 1)]))] [])])
abbrev lb_law_flags_0 : List MS := [.asg true (.nm 4) (.sub (.lst [(.bin .mod (.bin .fdiv (.var 3) (.k (.int 4))) (.k (.int 96))), (.bin .mod (.bin .fdiv (.var 3) (.k (.int 4))) (.k (.int 96))), (.k (.int 0)), (.bin .sub (.k (.int 95)) (.bin .mod (.bin .fdiv (.var 3) (.k (.int 4))) (.k (.int 3))))]) (.bin .mod (.var 3) (.k (.int 4)))), .for_ (.nm 5) .rng [(.var 4), (.bi .min [(.k (.int 96)), (.bin .add (.bin .add (.var 4) (.k (.int 1))) (.bin .mod (.bin .fdiv (.var 3) (.k (.int 16))) (.sub (.lst [(.k (.int 1)), (.k (.int 3)), (.k (.int 9)), (.k (.int 40)), (.k (.int 5))]) (.var 1))))])] [.ssub (.var 2) (.var 5) (.cmp .lt (.var 1) (.k (.int 4)))]]
abbrev lb_law_flags_1 : List MS := [.ssub (.var 2) (.var 5) (.cmp .lt (.var 1) (.k (.int 4)))]
abbrev fs_law_flags_0 : MS := .asg true (.nm 1) (.bin .mod (.sub (.var 0) (.k (.int 0))) (.k (.int 5)))
abbrev fs_law_flags_1 : MS := .asg false (.nm 2) (.bin .mul (.lst [(.cmp .eq (.var 1) (.k (.int 4)))]) (.k (.int 96)))
abbrev fs_law_flags_2 : MS := .for_ (.nm 3) .seq [(.slB (.var 0) (.k (.int 1)) (.bin .add (.k (.int 1)) (.bin .mod (.bin .fdiv (.sub (.var 0) (.k (.int 0))) (.k (.int 5))) (.k (.int 7)))))] [.asg true (.nm 4) (.sub (.lst [(.bin .mod (.bin .fdiv (.var 3) (.k (.int 4))) (.k (.int 96))), (.bin .mod (.bin .fdiv (.var 3) (.k (.int 4))) (.k (.int 96))), (.k (.int 0)), (.bin .sub (.k (.int 95)) (.bin .mod (.bin .fdiv (.var 3) (.k (.int 4))) (.k (.int 3))))]) (.bin .mod (.var 3) (.k (.int 4)))), .for_ (.nm 5) .rng [(.var 4), (.bi .min [(.k (.int 96)), (.bin .add (.bin .add (.var 4) (.k (.int 1))) (.bin .mod (.bin .fdiv (.var 3) (.k (.int 16))) (.sub (.lst [(.k (.int 1)), (.k (.int 3)), (.k (.int 9)), (.k (.int 40)), (.k (.int 5))]) (.var 1))))])] [.ssub (.var 2) (.var 5) (.cmp .lt (.var 1) (.k (.int 4)))]]
abbrev fs_law_flags_3 : MS := .ret (.mvar 2)
abbrev lb_law_set_0 : List MS := [.ite (.and [(.sub (.var 0) (.var 2)), (.or [(.cmp .eq (.var 2) (.k (.int 0))), (.not (.sub (.var 0) (.bin .sub (.var 2) (.k (.int 1)))))])]) [.asg true (.nm 3) (.var 2), .whl (.and [(.cmp .lt (.var 3) (.k (.int 95))), (.sub (.var 0) (.bin .add (.var 3) (.k (.int 1))))]) [.asg true (.nm 3) (.bin .add (.var 3) (.k (.int 1)))], .mut (.var 1) .append [(.tup [(.var 2), (.var 3)])]] []]
abbrev lb_law_set_1 : List MS := [.asg true (.nm 3) (.bin .add (.var 3) (.k (.int 1)))]
abbrev lw_law_set_1 : ME := (.and [(.cmp .lt (.var 3) (.k (.int 95))), (.sub (.var 0) (.bin .add (.var 3) (.k (.int 1))))])
abbrev fs_law_set_0 : MS := .asg false (.nm 1) (.lst [])
abbrev fs_law_set_1 : MS := .for_ (.nm 2) .rng [(.k (.int 96))] [.ite (.and [(.sub (.var 0) (.var 2)), (.or [(.cmp .eq (.var 2) (.k (.int 0))), (.not (.sub (.var 0) (.bin .sub (.var 2) (.k (.int 1)))))])]) [.asg true (.nm 3) (.var 2), .whl (.and [(.cmp .lt (.var 3) (.k (.int 95))), (.sub (.var 0) (.bin .add (.var 3) (.k (.int 1))))]) [.asg true (.nm 3) (.bin .add (.var 3) (.k (.int 1)))], .mut (.var 1) .append [(.tup [(.var 2), (.var 3)])]] []]
abbrev fs_law_set_2 : MS := .ret (.bi .tuple [(.var 1)])
abbrev lb_law_kind_0 : List MS := [.ite (.var 2) [.asg true (.nm 1) (.bin .add (.var 1) (.k (.str [111, 116, 104, 101, 114])))] []]
abbrev lb_law_kind_1 : List MS := [.ite (.var 2) [.asg true (.nm 1) (.bin .add (.var 1) (.k (.str [111, 116, 104, 101, 114])))] []]
abbrev fs_law_kind_0 : MS := .asg true (.nm 1) (.k (.str []))
abbrev fs_law_kind_1 : MS := .ite (.isi (.var 0) [(.cls 2)]) [.asg true (.nm 1) (.bin .add (.var 1) (.k (.str [115, 105, 103, 110])))] []
abbrev fs_law_kind_2 : MS := .ite (.isi (.var 0) [(.cls 3)]) [.asg true (.nm 1) (.bin .add (.var 1) (.k (.str [115, 101, 116])))] []
abbrev fs_law_kind_3 : MS := .for_ (.nm 2) .seq [(.frz (.lst [(.isi (.var 0) [(.cls 4)]), (.isi (.var 0) [(.cls 5)]), (.isi (.var 0) [(.cls 6)])]))] [.ite (.var 2) [.asg true (.nm 1) (.bin .add (.var 1) (.k (.str [111, 116, 104, 101, 114])))] []]
abbrev fs_law_kind_4 : MS := .for_ (.nm 2) .seq [(.frz (.lst [(.isi (.var 0) [(.cls 7)]), (.isi (.var 0) [(.cls 8)]), (.isi (.var 0) [(.cls 9)])]))] [.ite (.var 2) [.asg true (.nm 1) (.bin .add (.var 1) (.k (.str [111, 116, 104, 101, 114])))] []]
abbrev fs_law_kind_5 : MS := .ret (.bin .mul (.var 1) (.bi .int [(.isi (.var 0) [(.cls 0)])]))
abbrev fs_law_no_sets_0 : MS := .asg true (.nm 1) (.bin .mod (.var 0) (.k (.int 90)))
abbrev fs_law_no_sets_1 : MS := .asg true (.nm 2) (.lst [(.tup [(.tup [(.bin .add (.var 1) (.k (.int 3))), (.bin .add (.var 1) (.k (.int 1)))])]), (.tup [(.tup [(.var 1), (.bin .add (.var 1) (.k (.int 2)))]), (.tup [(.bin .add (.var 1) (.k (.int 3))), (.bin .add (.var 1) (.k (.int 4)))])]), (.tup [(.tup [(.var 1), (.bin .add (.var 1) (.k (.int 3)))]), (.tup [(.bin .add (.var 1) (.k (.int 2))), (.bin .add (.var 1) (.k (.int 5)))])])])
abbrev fs_law_no_sets_2 : MS := .asg true (.nm 2) (.bin .add (.var 2) (.lst [(.tup [(.tup [(.bin .add (.var 1) (.k (.int 4))), (.bin .add (.var 1) (.k (.int 5)))]), (.tup [(.var 1), (.bin .add (.var 1) (.k (.int 1)))])]), (.tup [(.tup [(.neg (.k (.int 1))), (.var 1)])]), (.tup [(.tup [(.var 1), (.k (.int 96))])]), (.tup [(.tup [(.var 1), (.var 1), (.var 1)])]), (.tup [(.tup [(.var 1)])])]))
abbrev fs_law_no_sets_3 : MS := .asg true (.nm 2) (.bin .add (.var 2) (.lst [(.tup [(.lst [(.var 1), (.var 1)])]), (.lst [(.tup [(.var 1), (.var 1)])]), (.tup [(.tup [(.k (.bl true)), (.k (.int 4))])]), (.tup [(.tup [(.k (.int 0)), (.k (.bl true))])]), (.tup [(.tup [(.var 1), (.k (.str [57]))])]), (.tup [(.tup [(.k (.str [97])), (.k (.str [98]))])]), (.tup [(.var 1), (.var 1)])]))
abbrev fs_law_no_sets_4 : MS := .asg true (.nm 2) (.bin .add (.var 2) (.lst [(.k .non), (.k (.int 7)), (.k (.str [97, 98])), (.dct false [] []), (.tup [(.k .non)]), (.tup [(.tup [(.var 1), (.k .non)])]), (.tup [(.tup [])]), (.tup [(.lst [])]), (.tup [(.tup [(.var 1), (.var 1)]), (.tup [(.var 1), (.var 1)])])]))
abbrev fs_law_no_sets_5 : MS := .asg true (.nm 2) (.bin .add (.var 2) (.lst [(.tup [(.tup [(.k (.bl false)), (.k (.int 4))])]), (.tup [(.tup [(.k (.int 0)), (.k (.bl false))])])]))
abbrev fs_law_no_sets_6 : MS := .asg true (.nm 3) (.lst [(.tup [(.k (.int 2)), (.k (.int 96))]), (.tup [(.k (.int 2)), (.k (.bl true))]), (.tup [(.k (.int 2)), (.k (.str [57]))]), (.tup [(.k (.int 2)), (.k (.int 3)), (.k (.int 4))]), (.tup [(.k (.int 2))]), (.k .non), (.lst [(.k (.int 2)), (.k (.int 3))]), (.tup [(.k (.int 2)), (.k .non)]), (.tup [])])
abbrev fs_law_no_sets_7 : MS := .ret (.bin .add (.var 2) (.comp (.tup [(.tup [(.k (.int 0)), (.k (.int 0))]), (.var 4)]) (.nm 4) .seq [(.var 3)] []))
abbrev lb_law_texts_0 : List MS := [.ite (.or [(.not (.call 19 [(.call 1 [(.var 3)]), (.isi (.var 3) [.str])])), (.cmp .ne (.call 17 [(.k (.int 0)), (.var 3), (.tup [])]) (.k (.str [115, 105, 103, 110])))]) [.ret (.k (.bl false))] []]
abbrev fs_law_texts_0 : MS := .asg true (.nm 1) (.call 13 [])
abbrev fs_law_texts_1 : MS := .asg true (.nm 2) (.mt .join [(.k (.str [])), (.comp (.sub (.var 1) (.bin .mod (.var 6) (.k (.int 96)))) (.nm 6) .seq [(.slB (.var 0) (.k (.int 2)) (.bin .add (.k (.int 2)) (.bin .mod (.call 12 [(.var 0), (.k (.int 1))]) (.k (.int 10)))))] [])])
abbrev fs_law_texts_2 : MS := .ite (.cmp .isnot (.call 1 [(.var 2)]) (.k (.bl true))) [.ret (.k (.bl false))] []
abbrev fs_law_texts_3 : MS := .for_ (.nm 3) .seq [(.frz (.lst [(.k (.str [])), (.k (.str [97, 98])), (.bin .add (.var 2) (.k (.str [97, 126]))), (.k .non), (.k (.int 5)), (.k (.bl true)), (.lst [(.k (.str [97]))]), (.tup [(.k (.str [97]))]), (.k (.str [10, 9])), (.dct false [] [])]))] [.ite (.or [(.not (.call 19 [(.call 1 [(.var 3)]), (.isi (.var 3) [.str])])), (.cmp .ne (.call 17 [(.k (.int 0)), (.var 3), (.tup [])]) (.k (.str [115, 105, 103, 110])))]) [.ret (.k (.bl false))] []]
abbrev fs_law_texts_4 : MS := .asg true (.nm 4) (.bin .mod (.call 12 [(.var 0), (.k (.int 0))]) (.k (.int 96)))
abbrev fs_law_texts_5 : MS := .asg true (.nm 5) (.call 2 [(.sub (.var 1) (.var 4))])
abbrev fs_law_texts_6 : MS := .ret (.and [(.isi (.var 5) [.int]), (.not (.isi (.var 5) [.bool])), (.cmp .eq (.var 5) (.var 4)), (.cmp .eq (.g 0) (.var 1))])
abbrev lb_law_far_right_0 : List MS := [.asg true (.nm 1) (.bin .mul (.var 1) (.k (.int 50)))]
abbrev lb_law_far_right_1 : List MS := [.ite (.or [(.cmp .isnot (.call 4 [(.var 3)]) (.k (.bl false))), (.not (.bi .all [(.comp (.cmp .eq (.call 17 [(.var 4), (.var 3), (.var 0)]) (.k (.str [115, 101, 116]))) (.nm 4) .rng [(.k (.int 1)), (.k (.int 7))] [])]))]) [.ret (.k (.bl false))] []]
abbrev fs_law_far_right_0 : MS := .asg true (.nm 1) (.k (.int 1))
abbrev fs_law_far_right_1 : MS := .for_ (.nm 2) .rng [(.k (.int 3000))] [.asg true (.nm 1) (.bin .mul (.var 1) (.k (.int 50)))]
abbrev fs_law_far_right_2 : MS := .for_ (.nm 3) .seq [(.tup [(.tup [(.tup [(.k (.int 0)), (.var 1)])]), (.tup [(.tup [(.bin .sub (.k (.int 0)) (.var 1)), (.k (.int 5))])]), (.tup [(.tup [(.var 1), (.var 1)])]), (.tup [(.tup [(.k (.int 0)), (.k (.int 3))]), (.tup [(.k (.int 5)), (.var 1)])]), (.var 1)])] [.ite (.or [(.cmp .isnot (.call 4 [(.var 3)]) (.k (.bl false))), (.not (.bi .all [(.comp (.cmp .eq (.call 17 [(.var 4), (.var 3), (.var 0)]) (.k (.str [115, 101, 116]))) (.nm 4) .rng [(.k (.int 1)), (.k (.int 7))] [])]))]) [.ret (.k (.bl false))] []]
abbrev fs_law_far_right_3 : MS := .ret (.k (.bl true))
abbrev lb_law_0 : List MS := [.ite (.not (.call 19 [(.call 6 [(.var 3), (.var 5)]), (.and [(.chn .le .lt (.k (.int 0)) (.var 5) (.k (.int 96))), (.sub (.var 1) (.bin .mod (.var 5) (.k (.int 96))))])])) [.ret (.k (.bl false))] []]
def pk (k : Nat) : Pr := ⟨run pg k, iosOf pg, gl, sub, 10000000⟩
theorem p_call (k : Nat) : (pk k).call = run pg k := rfl
theorem p_ios (k f : Nat) : (pk k).ios f = iosOf pg f := rfl
theorem p_glob (k n : Nat) : (pk k).glob n = gl n := rfl
theorem p_sub (k a b : Nat) : (pk k).sub a b = sub a b := rfl
theorem p_wf (k : Nat) : (pk k).wf = 10000000 := rfl
theorem r_is_number (k : Nat) (cs : List C) : run pg (k + 1) 0 cs = runFd (pk k) fd_is_number cs := rfl
theorem r_is_text (k : Nat) (cs : List C) : run pg (k + 1) 1 cs = runFd (pk k) fd_is_text cs := rfl
theorem r_number_of (k : Nat) (cs : List C) : run pg (k + 1) 2 cs = runFd (pk k) fd_number_of cs := rfl
theorem r_is_pair (k : Nat) (cs : List C) : run pg (k + 1) 3 cs = runFd (pk k) fd_is_pair cs := rfl
theorem r_is_set (k : Nat) (cs : List C) : run pg (k + 1) 4 cs = runFd (pk k) fd_is_set cs := rfl
theorem r_need_set (k : Nat) (cs : List C) : run pg (k + 1) 5 cs = runFd (pk k) fd_need_set cs := rfl
theorem r_has (k : Nat) (cs : List C) : run pg (k + 1) 6 cs = runFd (pk k) fd_has cs := rfl
theorem r_flags_of (k : Nat) (cs : List C) : run pg (k + 1) 7 cs = runFd (pk k) fd_flags_of cs := rfl
theorem r_set_of (k : Nat) (cs : List C) : run pg (k + 1) 8 cs = runFd (pk k) fd_set_of cs := rfl
theorem r_joined (k : Nat) (cs : List C) : run pg (k + 1) 9 cs = runFd (pk k) fd_joined cs := rfl
theorem r_met (k : Nat) (cs : List C) : run pg (k + 1) 10 cs = runFd (pk k) fd_met cs := rfl
theorem r_others (k : Nat) (cs : List C) : run pg (k + 1) 11 cs = runFd (pk k) fd_others cs := rfl
theorem r_law_cell_at (k : Nat) (cs : List C) : run pg (k + 1) 12 cs = runFd (pk k) fd_law_cell_at cs := rfl
theorem r_law_signs (k : Nat) (cs : List C) : run pg (k + 1) 13 cs = runFd (pk k) fd_law_signs cs := rfl
theorem r_law_flags (k : Nat) (cs : List C) : run pg (k + 1) 14 cs = runFd (pk k) fd_law_flags cs := rfl
theorem r_law_set (k : Nat) (cs : List C) : run pg (k + 1) 15 cs = runFd (pk k) fd_law_set cs := rfl
theorem r_law_kind (k : Nat) (cs : List C) : run pg (k + 1) 16 cs = runFd (pk k) fd_law_kind cs := rfl
theorem r_law_refused (k : Nat) (cs : List C) : run pg (k + 1) 17 cs = runFd (pk k) fd_law_refused cs := rfl
theorem r_law_no_sets (k : Nat) (cs : List C) : run pg (k + 1) 18 cs = runFd (pk k) fd_law_no_sets cs := rfl
theorem r_law_truth (k : Nat) (cs : List C) : run pg (k + 1) 19 cs = runFd (pk k) fd_law_truth cs := rfl
theorem r_law_texts (k : Nat) (cs : List C) : run pg (k + 1) 20 cs = runFd (pk k) fd_law_texts cs := rfl
theorem r_law_is (k : Nat) (cs : List C) : run pg (k + 1) 21 cs = runFd (pk k) fd_law_is cs := rfl
theorem r_law_far_right (k : Nat) (cs : List C) : run pg (k + 1) 22 cs = runFd (pk k) fd_law_far_right cs := rfl
theorem r_law (k : Nat) (cs : List C) : run pg (k + 1) 23 cs = runFd (pk k) fd_law cs := rfl
theorem io0 : iosOf pg 0 = [] := rfl
theorem io1 : iosOf pg 1 = [] := rfl
theorem io2 : iosOf pg 2 = [] := rfl
theorem io3 : iosOf pg 3 = [] := rfl
theorem io4 : iosOf pg 4 = [] := rfl
theorem io5 : iosOf pg 5 = [] := rfl
theorem io6 : iosOf pg 6 = [] := rfl
theorem io7 : iosOf pg 7 = [] := rfl
theorem io8 : iosOf pg 8 = [] := rfl
theorem io9 : iosOf pg 9 = [] := rfl
theorem io10 : iosOf pg 10 = [] := rfl
theorem io11 : iosOf pg 11 = [] := rfl
theorem io12 : iosOf pg 12 = [] := rfl
theorem io13 : iosOf pg 13 = [] := rfl
theorem io14 : iosOf pg 14 = [] := rfl
theorem io15 : iosOf pg 15 = [] := rfl
theorem io16 : iosOf pg 16 = [] := rfl
theorem io17 : iosOf pg 17 = [] := rfl
theorem io18 : iosOf pg 18 = [] := rfl
theorem io19 : iosOf pg 19 = [] := rfl
theorem io20 : iosOf pg 20 = [] := rfl
theorem io21 : iosOf pg 21 = [] := rfl
theorem io22 : iosOf pg 22 = [] := rfl
theorem io23 : iosOf pg 23 = [] := rfl
end K01
namespace K01
open Mi
/-! ### sets, told plainly -/
abbrev Ps := List (Nat × Nat)
abbrev pr (p : Nat × Nat) : D := .tup [.int (p.1 : Int), .int (p.2 : Int)]
abbrev kd (ps : Ps) : D := .tup (ps.map pr)
def setOk : Nat → Ps → Bool
  | _, [] => true
  | l, p :: r => Nat.ble l p.1 && Nat.ble p.1 p.2 && Nat.ble p.2 95 && setOk (p.2 + 2) r
def hasB (x : Nat) : Ps → Bool
  | [] => false
  | p :: r => (Nat.ble p.1 x && Nat.ble x p.2) || hasB x r
abbrev wSet : List Nat := [115, 101, 116]
abbrev wSign : List Nat := [115, 105, 103, 110]
/-- from where on the next pair may begin -/
def endP : Nat → Ps → Nat
  | l, [] => l
  | _, p :: r => endP (p.2 + 2) r
theorem setOk_cons {l : Nat} {p : Nat × Nat} {r : Ps} : setOk l (p :: r) = true ↔ l ≤ p.1 ∧ p.1 ≤ p.2 ∧ p.2 < 96 ∧ setOk (p.2 + 2) r = true := by
  rw [setOk]
  simp only [Bool.and_eq_true, Nat.ble_eq]
  constructor
  · intro ⟨⟨⟨a, b⟩, c⟩, d⟩
    exact ⟨a, b, by omega, d⟩
  · intro ⟨a, b, c, d⟩
    exact ⟨⟨⟨a, b⟩, by omega⟩, d⟩
theorem setOk_app : ∀ (ps qs : Ps) (l : Nat), setOk l (ps ++ qs) = (setOk l ps && setOk (endP l ps) qs)
  | [], qs, l => rfl
  | p :: r, qs, l => by
    show (_ && setOk (p.2 + 2) (r ++ qs)) = _
    rw [setOk_app r qs]
    show _ = ((_ && setOk (p.2 + 2) r) && setOk (endP (p.2 + 2) r) qs)
    simp only [Bool.and_assoc]
theorem hasB_app (x : Nat) : ∀ ps qs : Ps, hasB x (ps ++ qs) = (hasB x ps || hasB x qs)
  | [], qs => rfl
  | p :: r, qs => by
    show (_ || hasB x (r ++ qs)) = ((_ || hasB x r) || hasB x qs)
    rw [hasB_app x r qs, Bool.or_assoc]
theorem hasB_low {x : Nat} : ∀ {ps : Ps} {l : Nat}, setOk l ps = true → hasB x ps = true → l ≤ x ∧ x < 96
  | [], _, _, h => nomatch h
  | p :: r, l, h, g => by
    obtain ⟨a, b, c, d⟩ := setOk_cons.mp h
    rw [hasB, Bool.or_eq_true, Bool.and_eq_true, Nat.ble_eq, Nat.ble_eq] at g
    rcases g with g | g
    · omega
    · have := hasB_low d g
      omega
theorem endP_le {m : Nat} : ∀ {ps : Ps} {l : Nat}, setOk l ps = true → (∀ x, hasB x ps = true → x + 2 ≤ m) → l ≤ m → endP l ps ≤ m
  | [], _, _, _, h => h
  | p :: r, l, h, g, hl => by
    obtain ⟨a, b, c, d⟩ := setOk_cons.mp h
    refine endP_le (ps := r) d (fun x hx => g x (by rw [hasB, hx, Bool.or_true])) (g p.2 ?_)
    rw [hasB, Nat.ble_eq.mpr b, Nat.ble_eq.mpr (Nat.le_refl _)]
    rfl
theorem set_len : ∀ {ps : Ps} {l : Nat}, setOk l ps = true → l ≤ 97 → l + 2 * ps.length ≤ 97
  | [], l, _, h => by simpa using h
  | p :: r, l, h, _ => by
    obtain ⟨a, b, c, d⟩ := setOk_cons.mp h
    have := set_len d (by omega)
    rw [List.length_cons]
    omega
theorem hasB_cons (x : Nat) (p : Nat × Nat) (r : Ps) : hasB x (p :: r) = (decide (p.1 ≤ x ∧ x ≤ p.2) || hasB x r) := by
  rw [hasB]
  congr 1
  rw [Bool.eq_iff_iff, Bool.and_eq_true, Nat.ble_eq, Nat.ble_eq, decide_eq_true_eq]
/-- a set is written in one way -/
theorem canon : ∀ (ps qs : Ps) (l l' : Nat), setOk l ps = true → setOk l' qs = true → (∀ x, hasB x ps = hasB x qs) → ps = qs
  | [], [], _, _, _, _, _ => rfl
  | [], q :: s, _, l', _, h, g => by
    obtain ⟨a, b, c, d⟩ := setOk_cons.mp h
    have := g q.1
    rw [hasB_cons, decide_eq_true ⟨Nat.le_refl _, b⟩] at this
    exact nomatch this
  | p :: r, [], l, _, h, _, g => by
    obtain ⟨a, b, c, d⟩ := setOk_cons.mp h
    have := g p.1
    rw [hasB_cons, decide_eq_true ⟨Nat.le_refl _, b⟩] at this
    exact nomatch this
  | p :: r, q :: s, l, l', h, h', g => by
    obtain ⟨a, b, c, d⟩ := setOk_cons.mp h
    obtain ⟨a', b', c', d'⟩ := setOk_cons.mp h'
    have low : ∀ {l : Nat} {p : Nat × Nat} {r : Ps} {x : Nat}, setOk l (p :: r) = true → hasB x (p :: r) = true → p.1 ≤ x ∧ (x ≤ p.2 ∨ p.2 + 2 ≤ x) := by
      intro l p r x h g
      obtain ⟨a, b, c, d⟩ := setOk_cons.mp h
      rw [hasB_cons, Bool.or_eq_true, decide_eq_true_eq] at g
      rcases g with g | g
      · omega
      · have := hasB_low d g
        omega
    have inp : ∀ {p : Nat × Nat} {r : Ps} {x : Nat}, p.1 ≤ x → x ≤ p.2 → hasB x (p :: r) = true := by
      intro p r x h1 h2
      rw [hasB_cons, decide_eq_true ⟨h1, h2⟩, Bool.true_or]
    have e1 : p.1 = q.1 := by
      have u := (low h' ((g p.1).symm.trans (inp (Nat.le_refl _) b))).1
      have v := (low h ((g q.1).trans (inp (Nat.le_refl _) b'))).1
      omega
    have e2 : p.2 = q.2 := by
      rcases Nat.lt_trichotomy p.2 q.2 with z | z | z
      · have := low h ((g (p.2 + 1)).trans (inp (by omega) (by omega)))
        omega
      · exact z
      · have := low h' ((g (q.2 + 1)).symm.trans (inp (by omega) (by omega)))
        omega
    have e : p = q := Prod.ext e1 e2
    subst e
    rw [canon r s _ _ d d' fun x => by
      have := g x
      rw [hasB_cons, hasB_cons] at this
      by_cases hx : p.1 ≤ x ∧ x ≤ p.2
      · have n1 : hasB x r = false := by
          rw [Bool.eq_false_iff]
          intro z
          have := hasB_low d z
          omega
        have n2 : hasB x s = false := by
          rw [Bool.eq_false_iff]
          intro z
          have := hasB_low d' z
          omega
        rw [n1, n2]
      · rw [decide_eq_false hx, Bool.false_or, Bool.false_or] at this
        exact this]
/-! ### flags -/
abbrev FD (f : Nat → Bool) : List D := (List.range 96).map fun x => D.bl (f x)
abbrev FC (f : Nat → Bool) : C := .lst ((FD f).map .val)
theorem FD_len (f : Nat → Bool) : (FD f).length = 96 := by rw [List.length_map, List.length_range]
theorem FD_get (f : Nat → Bool) (i : Nat) (h : i < 96) : (FD f)[i]? = some (.bl (f i)) := by
  rw [List.getElem?_map, List.getElem?_range h]
  rfl
theorem FD_sub (f : Nat → Bool) (i : Nat) (h : i < 96) : subC (.val (.lst (FD f))) (.int (i : Int)) = some (.val (.bl (f i))) := by
  rw [sub_l, ix_nat _ _ (by rw [FD_len]; exact h), Option.bind_some, FD_get f i h]
  rfl
theorem FD_ext {f g : Nat → Bool} (h : ∀ x, x < 96 → f x = g x) : FD f = FD g := List.map_congr_left fun x m => by rw [h x (List.mem_range.mp m)]
def upd (f : Nat → Bool) (i : Nat) (b : Bool) : Nat → Bool := fun x => if x = i then b else f x
theorem FD_set (f : Nat → Bool) (i : Nat) (b : Bool) (h : i < 96) : ((FD f).map C.val).set i (.val (.bl b)) = (FD (upd f i b)).map .val := by
  apply List.ext_getElem?
  intro j
  rw [List.getElem?_set, List.length_map, FD_len]
  by_cases hj : j < 96
  · rw [List.getElem?_map (l := FD f), List.getElem?_map (l := FD (upd f i b)), FD_get _ j hj, FD_get _ j hj]
    by_cases e : i = j
    · subst e
      rw [if_pos rfl, if_pos h]
      simp [upd]
    · rw [if_neg e]
      simp [upd, Ne.symm e]
  · rw [List.getElem?_eq_none (by rw [List.length_map, FD_len]; omega), List.getElem?_eq_none (by rw [List.length_map, FD_len]; omega), if_neg (by omega)]
theorem FC_ix (f : Nat → Bool) (i : Nat) (h : i < 96) : ixN ((FD f).map C.val).length (i : Int) = some i := ix_nat _ _ (by rw [List.length_map, FD_len]; exact h)
theorem FC_frz (f : Nat → Bool) : (FC f).frz = .lst (FD f) := by rw [C.frz, f_map]
theorem rep_FD (b : Bool) : rep [C.val (.bl b)] 96 = (FD fun _ => b).map .val := rfl
theorem mul_FD (b : Bool) : binC .mul (.val (.lst [.bl b])) (.val (.int 96)) = some (FC fun _ => b) := by cases b <;> rfl
theorem FD_line (f : Nat → Bool) : (FD f).length ≤ line := by rw [FD_len]; decide
/-! ### the last one of a list -/
theorem ix_last {α : Type} (X : List α) (y : α) : ixN (X ++ [y]).length (-1) = some X.length := by
  unfold ixN
  rw [if_neg (by omega), List.length_append, List.length_singleton, if_pos (by omega)]
  congr 1
  omega
theorem get_last {α : Type} (X : List α) (y : α) : (X ++ [y])[X.length]? = some y := by simp
theorem set_last {α : Type} (X : List α) (y z : α) : (X ++ [y]).set X.length z = X ++ [z] := by simp
theorem f_lmap (ds : List D) : (C.lst (ds.map .val)).frz = .lst ds := by rw [C.frz, f_map]
theorem ne_nil_c (ds : List D) (h : (D.lst ds).plain = true) : cmpC .ne (.lst (ds.map .val)) (.val (.lst [])) = some (!ds.isEmpty) := by
  have := ne_le ds h
  rw [← this]
  show (if eqOk (C.lst (ds.map .val)).frz (C.val (.lst [])).frz = true then _ else none) = (if eqOk (C.val (.lst ds)).frz (C.val (.lst [])).frz = true then _ else none)
  rw [f_lmap]
  rfl
theorem pr_plain (p : Nat × Nat) : (pr p).plain = true := rfl
theorem ps_plain (ps : Ps) : (D.lst (ps.map pr)).plain = true := plains_of _ fun d m => by
  obtain ⟨p, _, rfl⟩ := List.mem_map.mp m
  exact pr_plain p
theorem s2_0 (a b : D) : subC (.val (.tup [a, b])) (.int 0) = some (.val a) := rfl
theorem s2_1 (a b : D) : subC (.val (.tup [a, b])) (.int 1) = some (.val b) := rfl
theorem ite_t {P : Pr} {c : ME} {a b : List MS} {e e1 : Env} (h : ev P c e = .ok (.val (.bl true)) e1) : evS P (.ite c a b) e = evSs P a e1 := by rw [evS, h]; rfl
theorem ite_f {P : Pr} {c : ME} {a b : List MS} {e e1 : Env} (h : ev P c e = .ok (.val (.bl false)) e1) : evS P (.ite c a b) e = evSs P b e1 := by rw [evS, h]; rfl
end K01
namespace K01
open Mi
/-! ### the program's set_of -/
def upTo (f : Nat → Bool) (n : Nat) (x : Nat) : Bool := decide (x < n) && f x
theorem set_of_ok (k : Nat) (f : Nat → Bool) : ∃ ps, setOk 0 ps = true ∧ (∀ x, hasB x ps = upTo f 96 x) ∧ run pg (k + 1) 8 [.val (.lst (FD f))] = .ok (.val (kd ps)) [] := by
  obtain ⟨e', h1, ps, o2, he, hs, hh⟩ := forLoop_inv0 (f := forB (pk k) (.nm 2) lb_set_of_0) (fun n e => ∃ (ps : Ps) (o2 : Option C), e = [some (.val (.lst (FD f))), some (.lst ((ps.map pr).map .val)), o2] ∧ setOk 0 ps = true ∧ ∀ x, hasB x ps = upTo f n x) (rangeD 0 96) [some (.val (.lst (FD f))), some (.lst []), none] (fun n d e hd ⟨ps, o2, he, hs, hh⟩ => by
    subst he
    obtain ⟨rfl, hn⟩ := rng_get _ _ _ _ hd
    rw [show (0 : Int) + (n : Int) = (n : Int) by omega]
    have hsub := FD_sub f n hn
    cases hf : f n with
    | false =>
      rw [hf] at hsub
      refine ⟨_, .inl ?_, ps, some (.val (.int (n : Int))), rfl, hs, fun x => ?_⟩
      · rw [forB_nm]
        simp only [lb_set_of_0, hsub, ev.eq_1, ev.eq_2, ev.eq_3, ev.eq_4, ev.eq_5, ev.eq_6, ev.eq_7, ev.eq_8, ev.eq_9, ev.eq_10, ev.eq_11, ev.eq_12, ev.eq_13, ev.eq_14, ev.eq_15, ev.eq_16, ev.eq_17, ev.eq_18, ev.eq_19, ev.eq_20, ev.eq_21, ev.eq_22, ev.eq_23, ev.eq_24, ev.eq_25, ev.eq_26, ev.eq_27, ev.eq_28, ev.eq_29, ev.eq_30, ev.eq_31, ev.eq_32, ev.eq_34, ev.eq_35, ev.eq_36, ev.eq_37, ev_cmp, evs, evP, evA, evAnd, evOr, evC, evS.eq_1, evS.eq_2, evS.eq_3, evS.eq_4, evS.eq_5, evS.eq_6, evS.eq_7, evS.eq_10, evS.eq_11, evS.eq_12, evS.eq_13, evS.eq_14, evS_for, evS_whl, evSs, rsv, runFd, start, bor, pur, purs, isVarB, smp, smps, b_ok, b_exc, o_some, h_val, h_tt, h_f, l_val, l_f, f_val, f_lst, f_tup, f_map, n_add, n_sub, lt_of_lt, c_le, c_gt, c_ge, eq_ii, ne_ii, t_bl, lstAt, modE, modC, setL, setF, endOf, outsOf, callC, ioPos, p_call, p_ios, p_glob, io0, io1, io2, io3, io4, io5, io6, io7, io8, io9, io10, io11, io12, io13, io14, io15, io16, io17, io18, io19, io20, io21, io22, io23, takeIo, putIo, hasBw, bindTg, binding, Tg.slots, wipeE, noexc, Bool.and_true, Bool.true_and, Bool.and_false, Bool.false_and, Bool.or_true, Bool.true_or, Bool.or_false, Bool.false_or, Bool.not_true, Bool.not_false, if_true, if_false, ite_true, ite_false, reduceIte, Bool.false_eq_true, List.length_cons, List.length_nil, List.map_cons, List.map_nil, List.replicate, List.append_nil, List.nil_append, List.cons_append, List.getElem?_cons_zero, List.getElem?_cons_succ, List.set_cons_zero, List.set_cons_succ, List.zip_cons_cons, List.zip_nil_left, List.foldl_cons, List.foldl_nil, Option.map_some, Option.bind_some, Option.map_none, Option.bind_none, Option.isSome_some, C.isVal, len_l, len_c, len_t, Nat.reduceAdd, Nat.reduceSub, Nat.reduceLeDiff, Nat.reduceEqDiff, Nat.zero_add, List.getElem?_nil, Option.isSome_none, it_seqc, it_seql, mkTup, allVal, slH_l]
      · rw [hh x]
        unfold upTo
        by_cases e : x = n
        · subst e; rw [hf]; simp
        · congr 1
          rw [Bool.eq_iff_iff, decide_eq_true_eq, decide_eq_true_eq]
          omega
    | true =>
      rw [hf] at hsub
      have hll : ps.length ≤ 48 := by have := set_len hs (by omega); omega
      have low : ∀ x, hasB x ps = true → x < n := fun x hx => by
        rw [hh x, upTo, Bool.and_eq_true, decide_eq_true_eq] at hx
        exact hx.1
      have ups : ∀ {qs : Ps}, (∀ x, hasB x qs = (hasB x ps || decide (x = n))) → ∀ x, hasB x qs = upTo f (n + 1) x := by
        intro qs hq x
        rw [hq x, hh x]
        unfold upTo
        by_cases e : x = n
        · subst e; rw [hf]; simp
        · rw [decide_eq_false e, Bool.or_false]
          congr 1
          rw [Bool.eq_iff_iff, decide_eq_true_eq, decide_eq_true_eq]
          omega
      have hne := ne_nil_c (ps.map pr) (ps_plain ps)
      have appd : ∀ l, setOk l ps = true → (∀ x, hasB x ps = true → x + 2 ≤ n) → l ≤ n → setOk l (ps ++ [(n, n)]) = true := by
        intro l h1 h2 h3
        rw [setOk_app, h1, Bool.true_and]
        exact setOk_cons.mpr ⟨endP_le h1 h2 h3, Nat.le_refl _, hn, rfl⟩
      have hap : ∀ x, hasB x (ps ++ [(n, n)]) = (hasB x ps || decide (x = n)) := by
        intro x
        rw [hasB_app, hasB_cons]
        congr 1
        rw [hasB, Bool.or_false, Bool.eq_iff_iff, decide_eq_true_eq, decide_eq_true_eq]
        omega
      have mo := mo_app (.val (pr (n, n))) ((ps.map pr).map .val) (by rw [List.length_map, List.length_map]; show _ < 16777216; omega)
      rw [show (ps.map pr).map C.val ++ [.val (pr (n, n))] = ((ps ++ [(n, n)]).map pr).map .val by rw [List.map_append, List.map_append]; rfl] at mo
      rcases List.eq_nil_or_concat ps with e | ⟨q, p, e⟩
      · subst e
        refine ⟨_, .inl ?_, [(n, n)], some (.val (.int (n : Int))), rfl, appd 0 rfl (fun x hx => nomatch hx) (by omega), ups hap⟩
        rw [forB_nm]
        have hne : cmpC .ne (.lst []) (.val (.lst [])) = some false := rfl
        have mo : moC .append [.val (.tup [.int (n : Int), .int (n : Int)])] (.lst []) = some (.lst [.val (pr (n, n))], ()) := mo
        simp only [lb_set_of_0, C.frzs, hsub, hne, mo, ev.eq_1, ev.eq_2, ev.eq_3, ev.eq_4, ev.eq_5, ev.eq_6, ev.eq_7, ev.eq_8, ev.eq_9, ev.eq_10, ev.eq_11, ev.eq_12, ev.eq_13, ev.eq_14, ev.eq_15, ev.eq_16, ev.eq_17, ev.eq_18, ev.eq_19, ev.eq_20, ev.eq_21, ev.eq_22, ev.eq_23, ev.eq_24, ev.eq_25, ev.eq_26, ev.eq_27, ev.eq_28, ev.eq_29, ev.eq_30, ev.eq_31, ev.eq_32, ev.eq_34, ev.eq_35, ev.eq_36, ev.eq_37, ev_cmp, evs, evP, evA, evAnd, evOr, evC, evS.eq_1, evS.eq_2, evS.eq_3, evS.eq_4, evS.eq_5, evS.eq_6, evS.eq_7, evS.eq_10, evS.eq_11, evS.eq_12, evS.eq_13, evS.eq_14, evS_for, evS_whl, evSs, rsv, runFd, start, bor, pur, purs, isVarB, smp, smps, b_ok, b_exc, o_some, h_val, h_tt, h_f, l_val, l_f, f_val, f_lst, f_tup, f_map, n_add, n_sub, lt_of_lt, c_le, c_gt, c_ge, eq_ii, ne_ii, t_bl, lstAt, modE, modC, setL, setF, endOf, outsOf, callC, ioPos, p_call, p_ios, p_glob, io0, io1, io2, io3, io4, io5, io6, io7, io8, io9, io10, io11, io12, io13, io14, io15, io16, io17, io18, io19, io20, io21, io22, io23, takeIo, putIo, hasBw, bindTg, binding, Tg.slots, wipeE, noexc, Bool.and_true, Bool.true_and, Bool.and_false, Bool.false_and, Bool.or_true, Bool.true_or, Bool.or_false, Bool.false_or, Bool.not_true, Bool.not_false, if_true, if_false, ite_true, ite_false, reduceIte, Bool.false_eq_true, List.length_cons, List.length_nil, List.map_cons, List.map_nil, List.replicate, List.append_nil, List.nil_append, List.cons_append, List.getElem?_cons_zero, List.getElem?_cons_succ, List.set_cons_zero, List.set_cons_succ, List.zip_cons_cons, List.zip_nil_left, List.foldl_cons, List.foldl_nil, Option.map_some, Option.bind_some, Option.map_none, Option.bind_none, Option.isSome_some, C.isVal, len_l, len_c, len_t, Nat.reduceAdd, Nat.reduceSub, Nat.reduceLeDiff, Nat.reduceEqDiff, Nat.zero_add, List.getElem?_nil, Option.isSome_none, it_seqc, it_seql, mkTup, allVal, slH_l]
      · rw [List.concat_eq_append] at e
        subst e
        have hX : ((q ++ [p]).map pr).map C.val = (q.map pr).map C.val ++ [.val (pr p)] := by rw [List.map_append, List.map_append]; rfl
        have hne : cmpC .ne (.lst (((q ++ [p]).map pr).map C.val)) (.val (.lst [])) = some true := by
          rw [hne]
          cases q <;> rfl
        rw [hX] at hne mo ⊢
        rw [setOk_app, Bool.and_eq_true] at hs
        obtain ⟨p1, p2, p3, _⟩ := setOk_cons.mp hs.2
        have pb : hasB p.2 (q ++ [p]) = true := by
          rw [hasB_app, hasB_cons, decide_eq_true ⟨p2, Nat.le_refl _⟩, Bool.true_or, Bool.or_true]
        have pn := low _ pb
        have il := ix_last ((q.map pr).map C.val) (.val (pr p))
        have gl' := get_last ((q.map pr).map C.val) (.val (pr p))
        have sl := set_last ((q.map pr).map C.val) (.val (pr p)) (.val (pr (p.1, n)))
        have sc : subC (.lst ((q.map pr).map C.val ++ [.val (pr p)])) (.int (-1)) = some (.val (pr p)) := by rw [sub_c, il, Option.bind_some, gl']
        have sc0 := s2_0 (.int (p.1 : Int)) (.int (p.2 : Int))
        have sc1 := s2_1 (.int (p.1 : Int)) (.int (p.2 : Int))
        by_cases ha : p.2 + 1 = n
        · have hb : (((p.2 : Int)) == (n : Int) - 1) = true := by
            rw [show (n : Int) - 1 = (p.2 : Int) by omega]
            exact beq_t _
          refine ⟨[some (.val (.lst (FD f))), some (.lst ((q.map pr).map C.val ++ [.val (pr (p.1, n))])), some (.val (.int (n : Int)))], .inl ?_, q ++ [(p.1, n)], some (.val (.int (n : Int))), ?_, ?_, ups fun x => ?_⟩
          · rw [forB_nm]
            simp only [lb_set_of_0, C.frzs, hsub, hne, sc, sc0, sc1, hb, il, sl, ev.eq_1, ev.eq_2, ev.eq_3, ev.eq_4, ev.eq_5, ev.eq_6, ev.eq_7, ev.eq_8, ev.eq_9, ev.eq_10, ev.eq_11, ev.eq_12, ev.eq_13, ev.eq_14, ev.eq_15, ev.eq_16, ev.eq_17, ev.eq_18, ev.eq_19, ev.eq_20, ev.eq_21, ev.eq_22, ev.eq_23, ev.eq_24, ev.eq_25, ev.eq_26, ev.eq_27, ev.eq_28, ev.eq_29, ev.eq_30, ev.eq_31, ev.eq_32, ev.eq_34, ev.eq_35, ev.eq_36, ev.eq_37, ev_cmp, evs, evP, evA, evAnd, evOr, evC, evS.eq_1, evS.eq_2, evS.eq_3, evS.eq_4, evS.eq_5, evS.eq_6, evS.eq_7, evS.eq_10, evS.eq_11, evS.eq_12, evS.eq_13, evS.eq_14, evS_for, evS_whl, evSs, rsv, runFd, start, bor, pur, purs, isVarB, smp, smps, b_ok, b_exc, o_some, h_val, h_tt, h_f, l_val, l_f, f_val, f_lst, f_tup, f_map, n_add, n_sub, lt_of_lt, c_le, c_gt, c_ge, eq_ii, ne_ii, t_bl, lstAt, modE, modC, setL, setF, endOf, outsOf, callC, ioPos, p_call, p_ios, p_glob, io0, io1, io2, io3, io4, io5, io6, io7, io8, io9, io10, io11, io12, io13, io14, io15, io16, io17, io18, io19, io20, io21, io22, io23, takeIo, putIo, hasBw, bindTg, binding, Tg.slots, wipeE, noexc, Bool.and_true, Bool.true_and, Bool.and_false, Bool.false_and, Bool.or_true, Bool.true_or, Bool.or_false, Bool.false_or, Bool.not_true, Bool.not_false, if_true, if_false, ite_true, ite_false, reduceIte, Bool.false_eq_true, List.length_cons, List.length_nil, List.map_cons, List.map_nil, List.replicate, List.append_nil, List.nil_append, List.cons_append, List.getElem?_cons_zero, List.getElem?_cons_succ, List.set_cons_zero, List.set_cons_succ, List.zip_cons_cons, List.zip_nil_left, List.foldl_cons, List.foldl_nil, Option.map_some, Option.bind_some, Option.map_none, Option.bind_none, Option.isSome_some, C.isVal, len_l, len_c, len_t, Nat.reduceAdd, Nat.reduceSub, Nat.reduceLeDiff, Nat.reduceEqDiff, Nat.zero_add, List.getElem?_nil, Option.isSome_none, it_seqc, it_seql, mkTup, allVal, slH_l]
          · rw [List.map_append, List.map_append]
            rfl
          · rw [setOk_app, hs.1, Bool.true_and]
            exact setOk_cons.mpr ⟨p1, by show p.1 ≤ n; omega, hn, rfl⟩
          · rw [hasB_app, hasB_app, hasB_cons, hasB_cons, hasB, Bool.or_assoc]
            congr 1
            rw [Bool.or_false, Bool.or_false, Bool.eq_iff_iff, Bool.or_eq_true, decide_eq_true_eq, decide_eq_true_eq, decide_eq_true_eq]
            dsimp only
            omega
        · have hb : (((p.2 : Int)) == (n : Int) - 1) = false := beq_f (by omega)
          refine ⟨_, .inl ?_, (q ++ [p]) ++ [(n, n)], some (.val (.int (n : Int))), rfl, appd 0 (by rw [setOk_app, hs.1, hs.2]; rfl) (fun x hx => ?_) (by omega), ups hap⟩
          · rw [forB_nm]
            have mo : moC .append [.val (.tup [.int (n : Int), .int (n : Int)])] _ = _ := mo
            simp only [lb_set_of_0, C.frzs, hsub, hne, sc, sc0, sc1, hb, mo, ev.eq_1, ev.eq_2, ev.eq_3, ev.eq_4, ev.eq_5, ev.eq_6, ev.eq_7, ev.eq_8, ev.eq_9, ev.eq_10, ev.eq_11, ev.eq_12, ev.eq_13, ev.eq_14, ev.eq_15, ev.eq_16, ev.eq_17, ev.eq_18, ev.eq_19, ev.eq_20, ev.eq_21, ev.eq_22, ev.eq_23, ev.eq_24, ev.eq_25, ev.eq_26, ev.eq_27, ev.eq_28, ev.eq_29, ev.eq_30, ev.eq_31, ev.eq_32, ev.eq_34, ev.eq_35, ev.eq_36, ev.eq_37, ev_cmp, evs, evP, evA, evAnd, evOr, evC, evS.eq_1, evS.eq_2, evS.eq_3, evS.eq_4, evS.eq_5, evS.eq_6, evS.eq_7, evS.eq_10, evS.eq_11, evS.eq_12, evS.eq_13, evS.eq_14, evS_for, evS_whl, evSs, rsv, runFd, start, bor, pur, purs, isVarB, smp, smps, b_ok, b_exc, o_some, h_val, h_tt, h_f, l_val, l_f, f_val, f_lst, f_tup, f_map, n_add, n_sub, lt_of_lt, c_le, c_gt, c_ge, eq_ii, ne_ii, t_bl, lstAt, modE, modC, setL, setF, endOf, outsOf, callC, ioPos, p_call, p_ios, p_glob, io0, io1, io2, io3, io4, io5, io6, io7, io8, io9, io10, io11, io12, io13, io14, io15, io16, io17, io18, io19, io20, io21, io22, io23, takeIo, putIo, hasBw, bindTg, binding, Tg.slots, wipeE, noexc, Bool.and_true, Bool.true_and, Bool.and_false, Bool.false_and, Bool.or_true, Bool.true_or, Bool.or_false, Bool.false_or, Bool.not_true, Bool.not_false, if_true, if_false, ite_true, ite_false, reduceIte, Bool.false_eq_true, List.length_cons, List.length_nil, List.map_cons, List.map_nil, List.replicate, List.append_nil, List.nil_append, List.cons_append, List.getElem?_cons_zero, List.getElem?_cons_succ, List.set_cons_zero, List.set_cons_succ, List.zip_cons_cons, List.zip_nil_left, List.foldl_cons, List.foldl_nil, Option.map_some, Option.bind_some, Option.map_none, Option.bind_none, Option.isSome_some, C.isVal, len_l, len_c, len_t, Nat.reduceAdd, Nat.reduceSub, Nat.reduceLeDiff, Nat.reduceEqDiff, Nat.zero_add, List.getElem?_nil, Option.isSome_none, it_seqc, it_seql, mkTup, allVal, slH_l]
          · have := low x hx
            rw [hasB_app, Bool.or_eq_true] at hx
            rcases hx with hx | hx
            · have : endP 0 q ≤ p.1 := p1
              have hq : ∀ {q : Ps} {l : Nat}, setOk l q = true → hasB x q = true → x + 2 ≤ endP l q := by
                intro q
                induction q with
                | nil => intro l _ h; exact nomatch h
                | cons a r ih =>
                  intro l h g
                  obtain ⟨a1, a2, a3, a4⟩ := setOk_cons.mp h
                  rw [hasB_cons, Bool.or_eq_true, decide_eq_true_eq] at g
                  rw [endP]
                  rcases g with g | g
                  · have mono : ∀ {r : Ps} {l : Nat}, setOk l r = true → l ≤ endP l r := by
                      intro r
                      induction r with
                      | nil => intro l _; exact Nat.le_refl _
                      | cons b s ih =>
                        intro l h
                        obtain ⟨b1, b2, b3, b4⟩ := setOk_cons.mp h
                        have := ih b4
                        rw [endP]
                        omega
                    have := mono a4
                    omega
                  · exact ih a4 g
              have := hq hs.1 hx
              omega
            · rw [hasB_cons, hasB, Bool.or_false, decide_eq_true_eq] at hx
              omega) ⟨[], none, rfl, rfl, fun x => by simp [hasB, upTo]⟩
  rw [rng_len] at hh
  refine ⟨ps, hs, hh, ?_⟩
  subst he
  have hrg : itemsK .rng [.val (.int 96)] = some (rangeD 0 96) := rfl
  have ht : biC .tuple [.lst ((ps.map pr).map .val)] = some (.val (kd ps)) := by simp only [biC, C.asL, a_map]
  have g1 : gl 1 = .int 96 := rfl
  rw [r_set_of]
  have e0 : evS (pk k) fs_set_of_0 [some (.val (.lst (FD f))), none, none] = .ok .nx [some (.val (.lst (FD f))), some (.lst []), none] := rfl
  have e1 : evS (pk k) fs_set_of_1 [some (.val (.lst (FD f))), some (.lst []), none] = .ok .nx [some (.val (.lst (FD f))), some (.lst ((ps.map pr).map .val)), o2] := by
    rw [fs_set_of_1, evS_for]
    exact h1
  have e2 : evS (pk k) fs_set_of_2 [some (.val (.lst (FD f))), some (.lst ((ps.map pr).map .val)), o2] = .ok (.rt (.val (kd ps))) [some (.val (.lst (FD f))), some (.lst ((ps.map pr).map .val)), o2] := by
    simp only [fs_set_of_2, ht, ev.eq_1, ev.eq_2, ev.eq_3, ev.eq_4, ev.eq_5, ev.eq_6, ev.eq_7, ev.eq_8, ev.eq_9, ev.eq_10, ev.eq_11, ev.eq_12, ev.eq_13, ev.eq_14, ev.eq_15, ev.eq_16, ev.eq_17, ev.eq_18, ev.eq_19, ev.eq_20, ev.eq_21, ev.eq_22, ev.eq_23, ev.eq_24, ev.eq_25, ev.eq_26, ev.eq_27, ev.eq_28, ev.eq_29, ev.eq_30, ev.eq_31, ev.eq_32, ev.eq_34, ev.eq_35, ev.eq_36, ev.eq_37, ev_cmp, evs, evP, evA, evAnd, evOr, evC, evS.eq_1, evS.eq_2, evS.eq_3, evS.eq_4, evS.eq_5, evS.eq_6, evS.eq_7, evS.eq_10, evS.eq_11, evS.eq_12, evS.eq_13, evS.eq_14, evS_for, evS_whl, evSs, rsv, runFd, start, bor, pur, purs, isVarB, smp, smps, b_ok, b_exc, o_some, h_val, h_tt, h_f, l_val, l_f, f_val, f_lst, f_tup, f_map, n_add, n_sub, lt_of_lt, c_le, c_gt, c_ge, eq_ii, ne_ii, t_bl, lstAt, modE, modC, setL, setF, endOf, outsOf, callC, ioPos, p_call, p_ios, p_glob, io0, io1, io2, io3, io4, io5, io6, io7, io8, io9, io10, io11, io12, io13, io14, io15, io16, io17, io18, io19, io20, io21, io22, io23, takeIo, putIo, hasBw, bindTg, binding, Tg.slots, wipeE, noexc, Bool.and_true, Bool.true_and, Bool.and_false, Bool.false_and, Bool.or_true, Bool.true_or, Bool.or_false, Bool.false_or, Bool.not_true, Bool.not_false, if_true, if_false, ite_true, ite_false, reduceIte, Bool.false_eq_true, List.length_cons, List.length_nil, List.map_cons, List.map_nil, List.replicate, List.append_nil, List.nil_append, List.cons_append, List.getElem?_cons_zero, List.getElem?_cons_succ, List.set_cons_zero, List.set_cons_succ, List.zip_cons_cons, List.zip_nil_left, List.foldl_cons, List.foldl_nil, Option.map_some, Option.bind_some, Option.map_none, Option.bind_none, Option.isSome_some, C.isVal, len_l, len_c, len_t, Nat.reduceAdd, Nat.reduceSub, Nat.reduceLeDiff, Nat.reduceEqDiff, Nat.zero_add, List.getElem?_nil, Option.isSome_none, it_seqc, it_seql, mkTup, allVal, slH_l]
  exact rt_ios rfl ((q_nx e0).trans <| (q_nx e1).trans <| q_rt e2) rfl
end K01
namespace K01
open Mi
/-! ### the law's own set -/
theorem high_ok (P : Pr) (f : Nat → Bool) (a b : Option C) : ∀ (m h : Nat), h ≤ 95 → 95 - h ≤ m → ∃ h', h ≤ h' ∧ h' ≤ 95 ∧ (∀ x, h < x → x ≤ h' → f x = true) ∧ (h' < 95 → f (h' + 1) = false) ∧
    whlLoop (whlT P lw_law_set_1) (whlB P lb_law_set_1) (m + 1) [some (.val (.lst (FD f))), a, b, some (.val (.int (h : Int)))] = .ok .nx [some (.val (.lst (FD f))), a, b, some (.val (.int (h' : Int)))] := by
  have tt : ∀ h : Nat, h < 95 → whlT P lw_law_set_1 [some (.val (.lst (FD f))), a, b, some (.val (.int (h : Int)))] = .ok (f (h + 1)) [some (.val (.lst (FD f))), a, b, some (.val (.int (h : Int)))] := by
    intro h hh
    have d1 : decide ((h : Int) < 95) = true := decide_eq_true (by omega)
    have sb := FD_sub f (h + 1) (by omega)
    rw [show ((h + 1 : Nat) : Int) = (h : Int) + 1 by omega] at sb
    cases hf : f (h + 1) <;> rw [hf] at sb <;> simp only [whlT, lw_law_set_1, d1, sb, ev.eq_1, ev.eq_2, ev.eq_3, ev.eq_4, ev.eq_5, ev.eq_6, ev.eq_7, ev.eq_8, ev.eq_9, ev.eq_10, ev.eq_11, ev.eq_12, ev.eq_13, ev.eq_14, ev.eq_15, ev.eq_16, ev.eq_17, ev.eq_18, ev.eq_19, ev.eq_20, ev.eq_21, ev.eq_22, ev.eq_23, ev.eq_24, ev.eq_25, ev.eq_26, ev.eq_27, ev.eq_28, ev.eq_29, ev.eq_30, ev.eq_31, ev.eq_32, ev.eq_34, ev.eq_35, ev.eq_36, ev.eq_37, ev_cmp, evs, evP, evA, evAnd, evOr, evC, evS.eq_1, evS.eq_2, evS.eq_3, evS.eq_4, evS.eq_5, evS.eq_6, evS.eq_7, evS.eq_10, evS.eq_11, evS.eq_12, evS.eq_13, evS.eq_14, evS_for, evS_whl, evSs, rsv, runFd, start, bor, pur, purs, isVarB, smp, smps, b_ok, b_exc, o_some, h_val, h_tt, h_f, l_val, l_f, f_val, f_lst, f_tup, f_map, n_add, n_sub, lt_of_lt, c_le, c_gt, c_ge, eq_ii, ne_ii, t_bl, lstAt, modE, modC, setL, setF, endOf, outsOf, callC, ioPos, p_call, p_ios, p_glob, io0, io1, io2, io3, io4, io5, io6, io7, io8, io9, io10, io11, io12, io13, io14, io15, io16, io17, io18, io19, io20, io21, io22, io23, takeIo, putIo, hasBw, bindTg, binding, Tg.slots, wipeE, noexc, Bool.and_true, Bool.true_and, Bool.and_false, Bool.false_and, Bool.or_true, Bool.true_or, Bool.or_false, Bool.false_or, Bool.not_true, Bool.not_false, if_true, if_false, ite_true, ite_false, reduceIte, Bool.false_eq_true, List.length_cons, List.length_nil, List.map_cons, List.map_nil, List.replicate, List.append_nil, List.nil_append, List.cons_append, List.getElem?_cons_zero, List.getElem?_cons_succ, List.set_cons_zero, List.set_cons_succ, List.zip_cons_cons, List.zip_nil_left, List.foldl_cons, List.foldl_nil, Option.map_some, Option.bind_some, Option.map_none, Option.bind_none, Option.isSome_some, C.isVal, len_l, len_c, len_t, Nat.reduceAdd, Nat.reduceSub, Nat.reduceLeDiff, Nat.reduceEqDiff, Nat.zero_add, List.getElem?_nil, Option.isSome_none, it_seqc, it_seql, mkTup, allVal, slH_l]
  have te : whlT P lw_law_set_1 [some (.val (.lst (FD f))), a, b, some (.val (.int (95 : Int)))] = .ok false [some (.val (.lst (FD f))), a, b, some (.val (.int (95 : Int)))] := by
    have d1 : decide ((95 : Int) < 95) = false := rfl
    simp only [whlT, lw_law_set_1, d1, ev.eq_1, ev.eq_2, ev.eq_3, ev.eq_4, ev.eq_5, ev.eq_6, ev.eq_7, ev.eq_8, ev.eq_9, ev.eq_10, ev.eq_11, ev.eq_12, ev.eq_13, ev.eq_14, ev.eq_15, ev.eq_16, ev.eq_17, ev.eq_18, ev.eq_19, ev.eq_20, ev.eq_21, ev.eq_22, ev.eq_23, ev.eq_24, ev.eq_25, ev.eq_26, ev.eq_27, ev.eq_28, ev.eq_29, ev.eq_30, ev.eq_31, ev.eq_32, ev.eq_34, ev.eq_35, ev.eq_36, ev.eq_37, ev_cmp, evs, evP, evA, evAnd, evOr, evC, evS.eq_1, evS.eq_2, evS.eq_3, evS.eq_4, evS.eq_5, evS.eq_6, evS.eq_7, evS.eq_10, evS.eq_11, evS.eq_12, evS.eq_13, evS.eq_14, evS_for, evS_whl, evSs, rsv, runFd, start, bor, pur, purs, isVarB, smp, smps, b_ok, b_exc, o_some, h_val, h_tt, h_f, l_val, l_f, f_val, f_lst, f_tup, f_map, n_add, n_sub, lt_of_lt, c_le, c_gt, c_ge, eq_ii, ne_ii, t_bl, lstAt, modE, modC, setL, setF, endOf, outsOf, callC, ioPos, p_call, p_ios, p_glob, io0, io1, io2, io3, io4, io5, io6, io7, io8, io9, io10, io11, io12, io13, io14, io15, io16, io17, io18, io19, io20, io21, io22, io23, takeIo, putIo, hasBw, bindTg, binding, Tg.slots, wipeE, noexc, Bool.and_true, Bool.true_and, Bool.and_false, Bool.false_and, Bool.or_true, Bool.true_or, Bool.or_false, Bool.false_or, Bool.not_true, Bool.not_false, if_true, if_false, ite_true, ite_false, reduceIte, Bool.false_eq_true, List.length_cons, List.length_nil, List.map_cons, List.map_nil, List.replicate, List.append_nil, List.nil_append, List.cons_append, List.getElem?_cons_zero, List.getElem?_cons_succ, List.set_cons_zero, List.set_cons_succ, List.zip_cons_cons, List.zip_nil_left, List.foldl_cons, List.foldl_nil, Option.map_some, Option.bind_some, Option.map_none, Option.bind_none, Option.isSome_some, C.isVal, len_l, len_c, len_t, Nat.reduceAdd, Nat.reduceSub, Nat.reduceLeDiff, Nat.reduceEqDiff, Nat.zero_add, List.getElem?_nil, Option.isSome_none, it_seqc, it_seql, mkTup, allVal, slH_l]
  intro m
  induction m with
  | zero =>
    intro h h1 h2
    have : h = 95 := by omega
    subst this
    exact ⟨95, Nat.le_refl _, Nat.le_refl _, fun x _ _ => by omega, fun z => by omega, whl_ff _ _ _ _ _ _ te⟩
  | succ m ih =>
    intro h h1 h2
    by_cases e : h = 95
    · subst e
      exact ⟨95, Nat.le_refl _, Nat.le_refl _, fun x _ _ => by omega, fun z => by omega, whl_ff _ _ _ _ _ _ te⟩
    have t := tt h (by omega)
    cases hf : f (h + 1) with
    | false =>
      rw [hf] at t
      exact ⟨h, Nat.le_refl _, h1, fun x _ _ => by omega, fun _ => hf, whl_ff _ _ _ _ _ _ t⟩
    | true =>
      rw [hf] at t
      obtain ⟨h', a1, a2, a3, a4, a5⟩ := ih (h + 1) (by omega) (by omega)
      refine ⟨h', by omega, a2, fun x x1 x2 => ?_, a4, ?_⟩
      · by_cases e : x = h + 1
        · rw [e]; exact hf
        · exact a3 x (by omega) x2
      · rw [whl_tt _ _ _ _ _ _ t, ← a5]
        have : evSs P lb_law_set_1 [some (.val (.lst (FD f))), a, b, some (.val (.int (h : Int)))] = .ok .nx [some (.val (.lst (FD f))), a, b, some (.val (.int ((h + 1 : Nat) : Int)))] := rfl
        rw [this]
        rfl
theorem law_set_ok (k : Nat) (f : Nat → Bool) : ∃ ps, setOk 0 ps = true ∧ (∀ x, hasB x ps = upTo f 96 x) ∧ run pg (k + 1) 15 [.val (.lst (FD f))] = .ok (.val (kd ps)) [] := by
  obtain ⟨e', h1, ps, o2, o3, m, he, hs, m1, m2, m3, m4, m5, hh⟩ := forLoop_inv0 (f := forB (pk k) (.nm 2) lb_law_set_0) (fun n e => ∃ (ps : Ps) (o2 o3 : Option C) (m : Nat), e = [some (.val (.lst (FD f))), some (.lst ((ps.map pr).map .val)), o2, o3] ∧ setOk 0 ps = true ∧ n ≤ m ∧ (n ≤ 96 → m ≤ 96) ∧ (∀ x, n ≤ x → x < m → f x = true) ∧ (m = n ∨ 0 < n ∧ f (n - 1) = true) ∧ (0 < n → f (n - 1) = true → m < 96 → f m = false) ∧ ∀ x, hasB x ps = upTo f m x) (rangeD 0 96) [some (.val (.lst (FD f))), some (.lst []), none, none] (fun n d e hd ⟨ps, o2, o3, m, he, hs, m1, m2, m3, m4, m5, hh⟩ => by
    subst he
    obtain ⟨rfl, hn⟩ := rng_get _ _ _ _ hd
    rw [show (0 : Int) + (n : Int) = (n : Int) by omega]
    have hsub := FD_sub f n hn
    cases hf : f n with
    | false =>
      rw [hf] at hsub
      have em : m = n := by
        rcases Nat.eq_or_lt_of_le m1 with z | z
        · exact z.symm
        · rw [m3 n (Nat.le_refl _) z] at hf; cases hf
      subst em
      refine ⟨_, .inl ?_, ps, some (.val (.int (m : Int))), o3, m + 1, rfl, hs, Nat.le_refl _, fun z => z, fun x a b => by omega, .inl rfl, fun _ z => ?_, fun x => ?_⟩
      · rw [forB_nm]
        simp only [lb_law_set_0, hsub, ev.eq_1, ev.eq_2, ev.eq_3, ev.eq_4, ev.eq_5, ev.eq_6, ev.eq_7, ev.eq_8, ev.eq_9, ev.eq_10, ev.eq_11, ev.eq_12, ev.eq_13, ev.eq_14, ev.eq_15, ev.eq_16, ev.eq_17, ev.eq_18, ev.eq_19, ev.eq_20, ev.eq_21, ev.eq_22, ev.eq_23, ev.eq_24, ev.eq_25, ev.eq_26, ev.eq_27, ev.eq_28, ev.eq_29, ev.eq_30, ev.eq_31, ev.eq_32, ev.eq_34, ev.eq_35, ev.eq_36, ev.eq_37, ev_cmp, evs, evP, evA, evAnd, evOr, evC, evS.eq_1, evS.eq_2, evS.eq_3, evS.eq_4, evS.eq_5, evS.eq_6, evS.eq_7, evS.eq_10, evS.eq_11, evS.eq_12, evS.eq_13, evS.eq_14, evS_for, evS_whl, evSs, rsv, runFd, start, bor, pur, purs, isVarB, smp, smps, b_ok, b_exc, o_some, h_val, h_tt, h_f, l_val, l_f, f_val, f_lst, f_tup, f_map, n_add, n_sub, lt_of_lt, c_le, c_gt, c_ge, eq_ii, ne_ii, t_bl, lstAt, modE, modC, setL, setF, endOf, outsOf, callC, ioPos, p_call, p_ios, p_glob, io0, io1, io2, io3, io4, io5, io6, io7, io8, io9, io10, io11, io12, io13, io14, io15, io16, io17, io18, io19, io20, io21, io22, io23, takeIo, putIo, hasBw, bindTg, binding, Tg.slots, wipeE, noexc, Bool.and_true, Bool.true_and, Bool.and_false, Bool.false_and, Bool.or_true, Bool.true_or, Bool.or_false, Bool.false_or, Bool.not_true, Bool.not_false, if_true, if_false, ite_true, ite_false, reduceIte, Bool.false_eq_true, List.length_cons, List.length_nil, List.map_cons, List.map_nil, List.replicate, List.append_nil, List.nil_append, List.cons_append, List.getElem?_cons_zero, List.getElem?_cons_succ, List.set_cons_zero, List.set_cons_succ, List.zip_cons_cons, List.zip_nil_left, List.foldl_cons, List.foldl_nil, Option.map_some, Option.bind_some, Option.map_none, Option.bind_none, Option.isSome_some, C.isVal, len_l, len_c, len_t, Nat.reduceAdd, Nat.reduceSub, Nat.reduceLeDiff, Nat.reduceEqDiff, Nat.zero_add, List.getElem?_nil, Option.isSome_none, it_seqc, it_seql, mkTup, allVal, slH_l]
      · rw [Nat.add_sub_cancel, hf] at z; cases z
      · rw [hh x]
        unfold upTo
        by_cases e : x = m
        · subst e; rw [hf]; simp
        · congr 1
          rw [Bool.eq_iff_iff, decide_eq_true_eq, decide_eq_true_eq]
          omega
    | true =>
      rw [hf] at hsub
      by_cases hp : 0 < n ∧ f (n - 1) = true
      · have b0 : ((n : Int) == 0) = false := beq_f (by omega)
        have hs1 := FD_sub f (n - 1) (by omega)
        rw [show ((n - 1 : Nat) : Int) = (n : Int) - 1 by omega, hp.2] at hs1
        have hm : n + 1 ≤ m := by
          rcases Nat.eq_or_lt_of_le m1 with z | z
          · have := m5 hp.1 hp.2 (by omega)
            rw [← z, hf] at this
            cases this
          · exact z
        refine ⟨_, .inl ?_, ps, some (.val (.int (n : Int))), o3, m, rfl, hs, hm, fun _ => m2 (by omega), fun x a b => m3 x (by omega) b, .inr ⟨by omega, by rw [Nat.add_sub_cancel]; exact hf⟩, fun _ _ z => m5 hp.1 hp.2 z, hh⟩
        rw [forB_nm]
        simp only [lb_law_set_0, hsub, b0, hs1, ev.eq_1, ev.eq_2, ev.eq_3, ev.eq_4, ev.eq_5, ev.eq_6, ev.eq_7, ev.eq_8, ev.eq_9, ev.eq_10, ev.eq_11, ev.eq_12, ev.eq_13, ev.eq_14, ev.eq_15, ev.eq_16, ev.eq_17, ev.eq_18, ev.eq_19, ev.eq_20, ev.eq_21, ev.eq_22, ev.eq_23, ev.eq_24, ev.eq_25, ev.eq_26, ev.eq_27, ev.eq_28, ev.eq_29, ev.eq_30, ev.eq_31, ev.eq_32, ev.eq_34, ev.eq_35, ev.eq_36, ev.eq_37, ev_cmp, evs, evP, evA, evAnd, evOr, evC, evS.eq_1, evS.eq_2, evS.eq_3, evS.eq_4, evS.eq_5, evS.eq_6, evS.eq_7, evS.eq_10, evS.eq_11, evS.eq_12, evS.eq_13, evS.eq_14, evS_for, evS_whl, evSs, rsv, runFd, start, bor, pur, purs, isVarB, smp, smps, b_ok, b_exc, o_some, h_val, h_tt, h_f, l_val, l_f, f_val, f_lst, f_tup, f_map, n_add, n_sub, lt_of_lt, c_le, c_gt, c_ge, eq_ii, ne_ii, t_bl, lstAt, modE, modC, setL, setF, endOf, outsOf, callC, ioPos, p_call, p_ios, p_glob, io0, io1, io2, io3, io4, io5, io6, io7, io8, io9, io10, io11, io12, io13, io14, io15, io16, io17, io18, io19, io20, io21, io22, io23, takeIo, putIo, hasBw, bindTg, binding, Tg.slots, wipeE, noexc, Bool.and_true, Bool.true_and, Bool.and_false, Bool.false_and, Bool.or_true, Bool.true_or, Bool.or_false, Bool.false_or, Bool.not_true, Bool.not_false, if_true, if_false, ite_true, ite_false, reduceIte, Bool.false_eq_true, List.length_cons, List.length_nil, List.map_cons, List.map_nil, List.replicate, List.append_nil, List.nil_append, List.cons_append, List.getElem?_cons_zero, List.getElem?_cons_succ, List.set_cons_zero, List.set_cons_succ, List.zip_cons_cons, List.zip_nil_left, List.foldl_cons, List.foldl_nil, Option.map_some, Option.bind_some, Option.map_none, Option.bind_none, Option.isSome_some, C.isVal, len_l, len_c, len_t, Nat.reduceAdd, Nat.reduceSub, Nat.reduceLeDiff, Nat.reduceEqDiff, Nat.zero_add, List.getElem?_nil, Option.isSome_none, it_seqc, it_seql, mkTup, allVal, slH_l]
      · have em : m = n := by
          rcases m4 with z | z
          · exact z
          · exact absurd z hp
        subst em
        obtain ⟨h, a1, a2, a3, a4, a5⟩ := high_ok (pk k) f (some (.lst ((ps.map pr).map .val))) (some (.val (.int (m : Int)))) 9999999 m (by omega) (by omega)
        have hll : ps.length ≤ 48 := by have := set_len hs (by omega); omega
        have mo := mo_app (.val (pr (m, h))) ((ps.map pr).map .val) (by rw [List.length_map, List.length_map]; show _ < 16777216; omega)
        rw [show (ps.map pr).map C.val ++ [.val (pr (m, h))] = ((ps ++ [(m, h)]).map pr).map .val by rw [List.map_append, List.map_append]; rfl] at mo
        have low : ∀ x, hasB x ps = true → x + 2 ≤ m := fun x hx => by
          rw [hh x, upTo, Bool.and_eq_true, decide_eq_true_eq] at hx
          by_cases z : x + 1 = m
          · refine absurd ⟨by omega, ?_⟩ hp
            rw [show m - 1 = x by omega]
            exact hx.2
          · omega
        refine ⟨[some (.val (.lst (FD f))), some (.lst (((ps ++ [(m, h)]).map pr).map .val)), some (.val (.int (m : Int))), some (.val (.int (h : Int)))], .inl ?_, ps ++ [(m, h)], some (.val (.int (m : Int))), some (.val (.int (h : Int))), h + 1, rfl, ?_, by omega, fun _ => by omega, fun x x1 x2 => a3 x (by omega) (by omega), .inr ⟨by omega, by rw [Nat.add_sub_cancel]; exact hf⟩, fun _ _ z => a4 (by omega), fun x => ?_⟩
        · rw [forB_nm]
          refine (q_nx ?_).trans rfl
          have hc : ev (pk k) (.and [(.sub (.var 0) (.var 2)), (.or [(.cmp .eq (.var 2) (.k (.int 0))), (.not (.sub (.var 0) (.bin .sub (.var 2) (.k (.int 1)))))])]) [some (.val (.lst (FD f))), some (.lst ((ps.map pr).map .val)), some (.val (.int (m : Int))), o3] = .ok (.val (.bl true)) [some (.val (.lst (FD f))), some (.lst ((ps.map pr).map .val)), some (.val (.int (m : Int))), o3] := by
            by_cases z : m = 0
            · have b0 : ((m : Int) == 0) = true := by rw [z]; rfl
              simp only [hsub, b0, ev.eq_1, ev.eq_2, ev.eq_3, ev.eq_4, ev.eq_5, ev.eq_6, ev.eq_7, ev.eq_8, ev.eq_9, ev.eq_10, ev.eq_11, ev.eq_12, ev.eq_13, ev.eq_14, ev.eq_15, ev.eq_16, ev.eq_17, ev.eq_18, ev.eq_19, ev.eq_20, ev.eq_21, ev.eq_22, ev.eq_23, ev.eq_24, ev.eq_25, ev.eq_26, ev.eq_27, ev.eq_28, ev.eq_29, ev.eq_30, ev.eq_31, ev.eq_32, ev.eq_34, ev.eq_35, ev.eq_36, ev.eq_37, ev_cmp, evs, evP, evA, evAnd, evOr, evC, evS.eq_1, evS.eq_2, evS.eq_3, evS.eq_4, evS.eq_5, evS.eq_6, evS.eq_7, evS.eq_10, evS.eq_11, evS.eq_12, evS.eq_13, evS.eq_14, evS_for, evS_whl, evSs, rsv, runFd, start, bor, pur, purs, isVarB, smp, smps, b_ok, b_exc, o_some, h_val, h_tt, h_f, l_val, l_f, f_val, f_lst, f_tup, f_map, n_add, n_sub, lt_of_lt, c_le, c_gt, c_ge, eq_ii, ne_ii, t_bl, lstAt, modE, modC, setL, setF, endOf, outsOf, callC, ioPos, p_call, p_ios, p_glob, io0, io1, io2, io3, io4, io5, io6, io7, io8, io9, io10, io11, io12, io13, io14, io15, io16, io17, io18, io19, io20, io21, io22, io23, takeIo, putIo, hasBw, bindTg, binding, Tg.slots, wipeE, noexc, Bool.and_true, Bool.true_and, Bool.and_false, Bool.false_and, Bool.or_true, Bool.true_or, Bool.or_false, Bool.false_or, Bool.not_true, Bool.not_false, if_true, if_false, ite_true, ite_false, reduceIte, Bool.false_eq_true, List.length_cons, List.length_nil, List.map_cons, List.map_nil, List.replicate, List.append_nil, List.nil_append, List.cons_append, List.getElem?_cons_zero, List.getElem?_cons_succ, List.set_cons_zero, List.set_cons_succ, List.zip_cons_cons, List.zip_nil_left, List.foldl_cons, List.foldl_nil, Option.map_some, Option.bind_some, Option.map_none, Option.bind_none, Option.isSome_some, C.isVal, len_l, len_c, len_t, Nat.reduceAdd, Nat.reduceSub, Nat.reduceLeDiff, Nat.reduceEqDiff, Nat.zero_add, List.getElem?_nil, Option.isSome_none, it_seqc, it_seql, mkTup, allVal, slH_l]
            · have b0 : ((m : Int) == 0) = false := beq_f (by omega)
              have hs1 := FD_sub f (m - 1) (by omega)
              have hfm : f (m - 1) = false := by
                rw [Bool.eq_false_iff]
                exact fun y => hp ⟨by omega, y⟩
              rw [show ((m - 1 : Nat) : Int) = (m : Int) - 1 by omega, hfm] at hs1
              simp only [hsub, b0, hs1, ev.eq_1, ev.eq_2, ev.eq_3, ev.eq_4, ev.eq_5, ev.eq_6, ev.eq_7, ev.eq_8, ev.eq_9, ev.eq_10, ev.eq_11, ev.eq_12, ev.eq_13, ev.eq_14, ev.eq_15, ev.eq_16, ev.eq_17, ev.eq_18, ev.eq_19, ev.eq_20, ev.eq_21, ev.eq_22, ev.eq_23, ev.eq_24, ev.eq_25, ev.eq_26, ev.eq_27, ev.eq_28, ev.eq_29, ev.eq_30, ev.eq_31, ev.eq_32, ev.eq_34, ev.eq_35, ev.eq_36, ev.eq_37, ev_cmp, evs, evP, evA, evAnd, evOr, evC, evS.eq_1, evS.eq_2, evS.eq_3, evS.eq_4, evS.eq_5, evS.eq_6, evS.eq_7, evS.eq_10, evS.eq_11, evS.eq_12, evS.eq_13, evS.eq_14, evS_for, evS_whl, evSs, rsv, runFd, start, bor, pur, purs, isVarB, smp, smps, b_ok, b_exc, o_some, h_val, h_tt, h_f, l_val, l_f, f_val, f_lst, f_tup, f_map, n_add, n_sub, lt_of_lt, c_le, c_gt, c_ge, eq_ii, ne_ii, t_bl, lstAt, modE, modC, setL, setF, endOf, outsOf, callC, ioPos, p_call, p_ios, p_glob, io0, io1, io2, io3, io4, io5, io6, io7, io8, io9, io10, io11, io12, io13, io14, io15, io16, io17, io18, io19, io20, io21, io22, io23, takeIo, putIo, hasBw, bindTg, binding, Tg.slots, wipeE, noexc, Bool.and_true, Bool.true_and, Bool.and_false, Bool.false_and, Bool.or_true, Bool.true_or, Bool.or_false, Bool.false_or, Bool.not_true, Bool.not_false, if_true, if_false, ite_true, ite_false, reduceIte, Bool.false_eq_true, List.length_cons, List.length_nil, List.map_cons, List.map_nil, List.replicate, List.append_nil, List.nil_append, List.cons_append, List.getElem?_cons_zero, List.getElem?_cons_succ, List.set_cons_zero, List.set_cons_succ, List.zip_cons_cons, List.zip_nil_left, List.foldl_cons, List.foldl_nil, Option.map_some, Option.bind_some, Option.map_none, Option.bind_none, Option.isSome_some, C.isVal, len_l, len_c, len_t, Nat.reduceAdd, Nat.reduceSub, Nat.reduceLeDiff, Nat.reduceEqDiff, Nat.zero_add, List.getElem?_nil, Option.isSome_none, it_seqc, it_seql, mkTup, allVal, slH_l]
          have e1 : evS (pk k) (.asg true (.nm 3) (.var 2)) [some (.val (.lst (FD f))), some (.lst ((ps.map pr).map .val)), some (.val (.int (m : Int))), o3] = .ok .nx [some (.val (.lst (FD f))), some (.lst ((ps.map pr).map .val)), some (.val (.int (m : Int))), some (.val (.int (m : Int)))] := rfl
          have e2 : evS (pk k) (.whl lw_law_set_1 lb_law_set_1) [some (.val (.lst (FD f))), some (.lst ((ps.map pr).map .val)), some (.val (.int (m : Int))), some (.val (.int (m : Int)))] = .ok .nx [some (.val (.lst (FD f))), some (.lst ((ps.map pr).map .val)), some (.val (.int (m : Int))), some (.val (.int (h : Int)))] := by
            rw [evS_whl]
            exact a5
          have e3 : evS (pk k) (.mut (.var 1) .append [(.tup [(.var 2), (.var 3)])]) [some (.val (.lst (FD f))), some (.lst ((ps.map pr).map .val)), some (.val (.int (m : Int))), some (.val (.int (h : Int)))] = .ok .nx [some (.val (.lst (FD f))), some (.lst (((ps ++ [(m, h)]).map pr).map .val)), some (.val (.int (m : Int))), some (.val (.int (h : Int)))] := by
            have mo : moC .append [.val (.tup [.int (m : Int), .int (h : Int)])] _ = _ := mo
            simp only [mo, ev.eq_1, ev.eq_2, ev.eq_3, ev.eq_4, ev.eq_5, ev.eq_6, ev.eq_7, ev.eq_8, ev.eq_9, ev.eq_10, ev.eq_11, ev.eq_12, ev.eq_13, ev.eq_14, ev.eq_15, ev.eq_16, ev.eq_17, ev.eq_18, ev.eq_19, ev.eq_20, ev.eq_21, ev.eq_22, ev.eq_23, ev.eq_24, ev.eq_25, ev.eq_26, ev.eq_27, ev.eq_28, ev.eq_29, ev.eq_30, ev.eq_31, ev.eq_32, ev.eq_34, ev.eq_35, ev.eq_36, ev.eq_37, ev_cmp, evs, evP, evA, evAnd, evOr, evC, evS.eq_1, evS.eq_2, evS.eq_3, evS.eq_4, evS.eq_5, evS.eq_6, evS.eq_7, evS.eq_10, evS.eq_11, evS.eq_12, evS.eq_13, evS.eq_14, evS_for, evS_whl, evSs, rsv, runFd, start, bor, pur, purs, isVarB, smp, smps, b_ok, b_exc, o_some, h_val, h_tt, h_f, l_val, l_f, f_val, f_lst, f_tup, f_map, n_add, n_sub, lt_of_lt, c_le, c_gt, c_ge, eq_ii, ne_ii, t_bl, lstAt, modE, modC, setL, setF, endOf, outsOf, callC, ioPos, p_call, p_ios, p_glob, io0, io1, io2, io3, io4, io5, io6, io7, io8, io9, io10, io11, io12, io13, io14, io15, io16, io17, io18, io19, io20, io21, io22, io23, takeIo, putIo, hasBw, bindTg, binding, Tg.slots, wipeE, noexc, Bool.and_true, Bool.true_and, Bool.and_false, Bool.false_and, Bool.or_true, Bool.true_or, Bool.or_false, Bool.false_or, Bool.not_true, Bool.not_false, if_true, if_false, ite_true, ite_false, reduceIte, Bool.false_eq_true, List.length_cons, List.length_nil, List.map_cons, List.map_nil, List.replicate, List.append_nil, List.nil_append, List.cons_append, List.getElem?_cons_zero, List.getElem?_cons_succ, List.set_cons_zero, List.set_cons_succ, List.zip_cons_cons, List.zip_nil_left, List.foldl_cons, List.foldl_nil, Option.map_some, Option.bind_some, Option.map_none, Option.bind_none, Option.isSome_some, C.isVal, len_l, len_c, len_t, Nat.reduceAdd, Nat.reduceSub, Nat.reduceLeDiff, Nat.reduceEqDiff, Nat.zero_add, List.getElem?_nil, Option.isSome_none, it_seqc, it_seql, mkTup, allVal, slH_l]
          show evS (pk k) (.ite _ _ []) _ = _
          exact (ite_t hc).trans <| (q_nx e1).trans <| (q_nx e2).trans <| (q_nx e3).trans rfl
        · rw [setOk_app, hs, Bool.true_and]
          exact setOk_cons.mpr ⟨endP_le hs low (by omega), a1, by show h < 96; omega, rfl⟩
        · rw [hasB_app, hh x, hasB_cons, hasB, Bool.or_false]
          unfold upTo
          by_cases z1 : x < m
          · rw [decide_eq_true z1, decide_eq_true (by omega : x < h + 1), decide_eq_false (by dsimp only; omega), Bool.or_false]
          · rw [decide_eq_false z1, Bool.false_and, Bool.false_or]
            by_cases z2 : x < h + 1
            · have : f x = true := by
                by_cases z : x = m
                · rw [z]; exact hf
                · exact a3 x (by omega) (by omega)
              rw [decide_eq_true z2, this, decide_eq_true (by dsimp only; omega)]
              rfl
            · rw [decide_eq_false z2, decide_eq_false (by dsimp only; omega)]
              rfl) ⟨[], none, none, 0, rfl, rfl, Nat.le_refl _, fun _ => Nat.zero_le _, fun x _ b => by omega, .inl rfl, fun z => by omega, fun x => by simp [hasB, upTo]⟩
  rw [rng_len] at m1 m2
  have em : m = 96 := by have := m2 (Nat.le_refl _); omega
  subst em
  refine ⟨ps, hs, hh, ?_⟩
  subst he
  have hrg : itemsK .rng [.val (.int 96)] = some (rangeD 0 96) := rfl
  have ht : biC .tuple [.lst ((ps.map pr).map .val)] = some (.val (kd ps)) := by simp only [biC, C.asL, a_map]
  rw [r_law_set]
  have e0 : evS (pk k) fs_law_set_0 [some (.val (.lst (FD f))), none, none, none] = .ok .nx [some (.val (.lst (FD f))), some (.lst []), none, none] := rfl
  have e1 : evS (pk k) fs_law_set_1 [some (.val (.lst (FD f))), some (.lst []), none, none] = .ok .nx [some (.val (.lst (FD f))), some (.lst ((ps.map pr).map .val)), o2, o3] := by
    rw [fs_law_set_1, evS_for]
    exact h1
  have e2 : evS (pk k) fs_law_set_2 [some (.val (.lst (FD f))), some (.lst ((ps.map pr).map .val)), o2, o3] = .ok (.rt (.val (kd ps))) [some (.val (.lst (FD f))), some (.lst ((ps.map pr).map .val)), o2, o3] := by
    simp only [fs_law_set_2, ht, ev.eq_1, ev.eq_2, ev.eq_3, ev.eq_4, ev.eq_5, ev.eq_6, ev.eq_7, ev.eq_8, ev.eq_9, ev.eq_10, ev.eq_11, ev.eq_12, ev.eq_13, ev.eq_14, ev.eq_15, ev.eq_16, ev.eq_17, ev.eq_18, ev.eq_19, ev.eq_20, ev.eq_21, ev.eq_22, ev.eq_23, ev.eq_24, ev.eq_25, ev.eq_26, ev.eq_27, ev.eq_28, ev.eq_29, ev.eq_30, ev.eq_31, ev.eq_32, ev.eq_34, ev.eq_35, ev.eq_36, ev.eq_37, ev_cmp, evs, evP, evA, evAnd, evOr, evC, evS.eq_1, evS.eq_2, evS.eq_3, evS.eq_4, evS.eq_5, evS.eq_6, evS.eq_7, evS.eq_10, evS.eq_11, evS.eq_12, evS.eq_13, evS.eq_14, evS_for, evS_whl, evSs, rsv, runFd, start, bor, pur, purs, isVarB, smp, smps, b_ok, b_exc, o_some, h_val, h_tt, h_f, l_val, l_f, f_val, f_lst, f_tup, f_map, n_add, n_sub, lt_of_lt, c_le, c_gt, c_ge, eq_ii, ne_ii, t_bl, lstAt, modE, modC, setL, setF, endOf, outsOf, callC, ioPos, p_call, p_ios, p_glob, io0, io1, io2, io3, io4, io5, io6, io7, io8, io9, io10, io11, io12, io13, io14, io15, io16, io17, io18, io19, io20, io21, io22, io23, takeIo, putIo, hasBw, bindTg, binding, Tg.slots, wipeE, noexc, Bool.and_true, Bool.true_and, Bool.and_false, Bool.false_and, Bool.or_true, Bool.true_or, Bool.or_false, Bool.false_or, Bool.not_true, Bool.not_false, if_true, if_false, ite_true, ite_false, reduceIte, Bool.false_eq_true, List.length_cons, List.length_nil, List.map_cons, List.map_nil, List.replicate, List.append_nil, List.nil_append, List.cons_append, List.getElem?_cons_zero, List.getElem?_cons_succ, List.set_cons_zero, List.set_cons_succ, List.zip_cons_cons, List.zip_nil_left, List.foldl_cons, List.foldl_nil, Option.map_some, Option.bind_some, Option.map_none, Option.bind_none, Option.isSome_some, C.isVal, len_l, len_c, len_t, Nat.reduceAdd, Nat.reduceSub, Nat.reduceLeDiff, Nat.reduceEqDiff, Nat.zero_add, List.getElem?_nil, Option.isSome_none, it_seqc, it_seql, mkTup, allVal, slH_l]
  exact rt_ios rfl ((q_nx e0).trans <| (q_nx e1).trans <| q_rt e2) rfl
end K01
namespace K01
open Mi
theorem FC_ext {f g : Nat → Bool} (h : ∀ x, x < 96 → f x = g x) : FC f = FC g := by rw [FC, FD_ext h]
theorem gl0 : gl 0 = .str SG := rfl
theorem gl1 : gl 1 = .int 96 := rfl
/-! ### flags of a set -/
theorem turn_ok (P : Pr) (a : Option C) (p : Nat × Nat) (f : Nat → Bool) (o : Option C) (h1 : p.1 ≤ p.2) (h2 : p.2 < 96) : ∃ o', evSs P lb_flags_of_0 [a, some (FC f), some (.val (.int (p.1 : Int))), some (.val (.int (p.2 : Int))), o] = .ok .nx [a, some (FC fun x => decide (p.1 ≤ x ∧ x ≤ p.2) || f x), some (.val (.int (p.1 : Int))), some (.val (.int (p.2 : Int))), o'] := by
  obtain ⟨e', g1, o', ge⟩ := forLoop_inv0 (f := forB P (.nm 4) lb_flags_of_1) (fun j e => ∃ o', e = [a, some (FC fun x => decide (p.1 ≤ x ∧ x < p.1 + j) || f x), some (.val (.int (p.1 : Int))), some (.val (.int (p.2 : Int))), o']) (rangeD (p.1 : Int) (p.2 + 1 - p.1)) [a, some (FC f), some (.val (.int (p.1 : Int))), some (.val (.int (p.2 : Int))), o] (fun j d e hd ⟨o', he⟩ => by
    subst he
    obtain ⟨rfl, hj⟩ := rng_get _ _ _ _ hd
    rw [show (p.1 : Int) + (j : Int) = ((p.1 + j : Nat) : Int) by omega]
    have hx := FC_ix (fun x => decide (p.1 ≤ x ∧ x < p.1 + j) || f x) (p.1 + j) (by omega)
    have hs := FD_set (fun x => decide (p.1 ≤ x ∧ x < p.1 + j) || f x) (p.1 + j) true (by omega)
    have ee : FD (upd (fun x => decide (p.1 ≤ x ∧ x < p.1 + j) || f x) (p.1 + j) true) = FD fun x => decide (p.1 ≤ x ∧ x < p.1 + (j + 1)) || f x := FD_ext fun x _ => by
      unfold upd
      by_cases z : x = p.1 + j
      · rw [if_pos z, decide_eq_true (by omega), Bool.true_or]
      · rw [if_neg z]
        dsimp only
        congr 1
        rw [Bool.eq_iff_iff, decide_eq_true_eq, decide_eq_true_eq]
        omega
    rw [ee] at hs
    refine ⟨[a, some (FC fun x => decide (p.1 ≤ x ∧ x < p.1 + (j + 1)) || f x), some (.val (.int (p.1 : Int))), some (.val (.int (p.2 : Int))), some (.val (.int ((p.1 + j : Nat) : Int)))], .inl ?_, _, rfl⟩
    rw [forB_nm]
    simp only [lb_flags_of_1, FC, hx, hs, ev.eq_1, ev.eq_2, ev.eq_3, ev.eq_4, ev.eq_5, ev.eq_6, ev.eq_7, ev.eq_8, ev.eq_9, ev.eq_10, ev.eq_11, ev.eq_12, ev.eq_13, ev.eq_14, ev.eq_15, ev.eq_16, ev.eq_17, ev.eq_18, ev.eq_19, ev.eq_20, ev.eq_21, ev.eq_22, ev.eq_23, ev.eq_24, ev.eq_25, ev.eq_26, ev.eq_27, ev.eq_28, ev.eq_29, ev.eq_30, ev.eq_31, ev.eq_32, ev.eq_34, ev.eq_35, ev.eq_36, ev.eq_37, ev_cmp, evs, evP, evA, evAnd, evOr, evC, evS.eq_1, evS.eq_2, evS.eq_3, evS.eq_4, evS.eq_5, evS.eq_6, evS.eq_7, evS.eq_10, evS.eq_11, evS.eq_12, evS.eq_13, evS.eq_14, evS_for, evS_whl, evSs, rsv, runFd, start, bor, pur, purs, isVarB, smp, smps, b_ok, b_exc, o_some, h_val, h_tt, h_f, l_val, l_f, f_val, f_lst, f_tup, f_map, n_add, n_sub, lt_of_lt, c_le, c_gt, c_ge, eq_ii, ne_ii, t_bl, lstAt, modE, modC, setL, setF, endOf, outsOf, callC, ioPos, p_call, p_ios, p_glob, io0, io1, io2, io3, io4, io5, io6, io7, io8, io9, io10, io11, io12, io13, io14, io15, io16, io17, io18, io19, io20, io21, io22, io23, takeIo, putIo, hasBw, bindTg, binding, Tg.slots, wipeE, noexc, Bool.and_true, Bool.true_and, Bool.and_false, Bool.false_and, Bool.or_true, Bool.true_or, Bool.or_false, Bool.false_or, Bool.not_true, Bool.not_false, if_true, if_false, ite_true, ite_false, reduceIte, Bool.false_eq_true, List.length_cons, List.length_nil, List.map_cons, List.map_nil, List.replicate, List.append_nil, List.nil_append, List.cons_append, List.getElem?_cons_zero, List.getElem?_cons_succ, List.set_cons_zero, List.set_cons_succ, List.zip_cons_cons, List.zip_nil_left, List.foldl_cons, List.foldl_nil, Option.map_some, Option.bind_some, Option.map_none, Option.bind_none, Option.isSome_some, C.isVal, len_l, len_c, len_t, Nat.reduceAdd, Nat.reduceSub, Nat.reduceLeDiff, Nat.reduceEqDiff, Nat.zero_add, List.getElem?_nil, Option.isSome_none, it_seqc, it_seql, mkTup, allVal, slH_l]) ⟨o, by
      rw [FC_ext (f := f) (g := fun x => decide (p.1 ≤ x ∧ x < p.1 + 0) || f x) fun x _ => by rw [decide_eq_false (by omega), Bool.false_or]]⟩
  rw [rng_len] at ge
  refine ⟨o', (q_nx (e' := e') ?_).trans ?_⟩
  · rw [evS_for]
    have hr := it_rng2 (p.1 : Int) ((p.2 : Int) + 1) ⟨by omega, by omega⟩ ⟨by omega, by omega⟩
    rw [show ((p.2 : Int) + 1 - (p.1 : Int)).toNat = p.2 + 1 - p.1 by omega] at hr
    refine Eq.trans ?_ g1
    have he : evs P [.var 2, .bin .add (.var 3) (.k (.int 1))] [a, some (FC f), some (.val (.int (p.1 : Int))), some (.val (.int (p.2 : Int))), o] = .ok [.val (.int (p.1 : Int)), .val (.int ((p.2 : Int) + 1))] [a, some (FC f), some (.val (.int (p.1 : Int))), some (.val (.int (p.2 : Int))), o] := rfl
    rw [he, b_ok, hr]
  · rw [ge, FC_ext (f := fun x => decide (p.1 ≤ x ∧ x < p.1 + (p.2 + 1 - p.1)) || f x) (g := fun x => decide (p.1 ≤ x ∧ x ≤ p.2) || f x) fun x _ => by
      congr 1
      rw [Bool.eq_iff_iff, decide_eq_true_eq, decide_eq_true_eq]
      omega]
    rfl
theorem turns_ok (P : Pr) (a : Option C) : ∀ (ps : Ps) (l : Nat) (f : Nat → Bool) (o2 o3 o4 : Option C), setOk l ps = true → ∃ x2 x3 x4, forLoop (forB P (.tp [2, 3]) lb_flags_of_0) (ps.map pr) [a, some (FC f), o2, o3, o4] = .ok .nx [a, some (FC fun x => hasB x ps || f x), x2, x3, x4]
  | [], l, f, o2, o3, o4, _ => ⟨o2, o3, o4, rfl⟩
  | p :: r, l, f, o2, o3, o4, h => by
    obtain ⟨h1, h2, h3, h4⟩ := setOk_cons.mp h
    obtain ⟨o', g⟩ := turn_ok P a p f o4 h2 h3
    obtain ⟨x2, x3, x4, t⟩ := turns_ok P a r _ (fun x => decide (p.1 ≤ x ∧ x ≤ p.2) || f x) (some (.val (.int (p.1 : Int)))) (some (.val (.int (p.2 : Int)))) o' h4
    refine ⟨x2, x3, x4, ?_⟩
    rw [List.map_cons]
    refine (ft_nx rfl g).trans ?_
    rw [t, FC_ext (f := fun x => hasB x r || (decide (p.1 ≤ x ∧ x ≤ p.2) || f x)) (g := fun x => hasB x (p :: r) || f x) fun x _ => by rw [hasB_cons, ← Bool.or_assoc, Bool.or_comm (hasB x r)]]
theorem flags_of_ok (k : Nat) (ps : Ps) (h : setOk 0 ps = true) : run pg (k + 1) 7 [.val (kd ps)] = .ok (FC fun x => hasB x ps) [] := by
  obtain ⟨x2, x3, x4, t⟩ := turns_ok (pk k) (some (.val (kd ps))) ps 0 (fun _ => false) none none none h
  rw [FC_ext (f := fun x => hasB x ps || false) (g := fun x => hasB x ps) fun x _ => Bool.or_false _] at t
  rw [r_flags_of]
  have e0 : evS (pk k) fs_flags_of_0 [some (.val (kd ps)), none, none, none, none] = .ok .nx [some (.val (kd ps)), some (FC fun _ => false), none, none, none] := by
    have := mul_FD false
    simp only [fs_flags_of_0, C.frzs, gl1, this, ev.eq_1, ev.eq_2, ev.eq_3, ev.eq_4, ev.eq_5, ev.eq_6, ev.eq_7, ev.eq_8, ev.eq_9, ev.eq_10, ev.eq_11, ev.eq_12, ev.eq_13, ev.eq_14, ev.eq_15, ev.eq_16, ev.eq_17, ev.eq_18, ev.eq_19, ev.eq_20, ev.eq_21, ev.eq_22, ev.eq_23, ev.eq_24, ev.eq_25, ev.eq_26, ev.eq_27, ev.eq_28, ev.eq_29, ev.eq_30, ev.eq_31, ev.eq_32, ev.eq_34, ev.eq_35, ev.eq_36, ev.eq_37, ev_cmp, evs, evP, evA, evAnd, evOr, evC, evS.eq_1, evS.eq_2, evS.eq_3, evS.eq_4, evS.eq_5, evS.eq_6, evS.eq_7, evS.eq_10, evS.eq_11, evS.eq_12, evS.eq_13, evS.eq_14, evS_for, evS_whl, evSs, rsv, runFd, start, bor, pur, purs, isVarB, smp, smps, b_ok, b_exc, o_some, h_val, h_tt, h_f, l_val, l_f, f_val, f_lst, f_tup, f_map, n_add, n_sub, lt_of_lt, c_le, c_gt, c_ge, eq_ii, ne_ii, t_bl, lstAt, modE, modC, setL, setF, endOf, outsOf, callC, ioPos, p_call, p_ios, p_glob, io0, io1, io2, io3, io4, io5, io6, io7, io8, io9, io10, io11, io12, io13, io14, io15, io16, io17, io18, io19, io20, io21, io22, io23, takeIo, putIo, hasBw, bindTg, binding, Tg.slots, wipeE, noexc, Bool.and_true, Bool.true_and, Bool.and_false, Bool.false_and, Bool.or_true, Bool.true_or, Bool.or_false, Bool.false_or, Bool.not_true, Bool.not_false, if_true, if_false, ite_true, ite_false, reduceIte, Bool.false_eq_true, List.length_cons, List.length_nil, List.map_cons, List.map_nil, List.replicate, List.append_nil, List.nil_append, List.cons_append, List.getElem?_cons_zero, List.getElem?_cons_succ, List.set_cons_zero, List.set_cons_succ, List.zip_cons_cons, List.zip_nil_left, List.foldl_cons, List.foldl_nil, Option.map_some, Option.bind_some, Option.map_none, Option.bind_none, Option.isSome_some, C.isVal, len_l, len_c, len_t, Nat.reduceAdd, Nat.reduceSub, Nat.reduceLeDiff, Nat.reduceEqDiff, Nat.zero_add, List.getElem?_nil, Option.isSome_none, it_seqc, it_seql, mkTup, allVal, slH_l]
  have e1 : evS (pk k) fs_flags_of_1 [some (.val (kd ps)), some (FC fun _ => false), none, none, none] = .ok .nx [some (.val (kd ps)), some (FC fun x => hasB x ps), x2, x3, x4] := by
    rw [fs_flags_of_1, evS_for]
    exact t
  have e2 : evS (pk k) fs_flags_of_2 [some (.val (kd ps)), some (FC fun x => hasB x ps), x2, x3, x4] = .ok (.rt (FC fun x => hasB x ps)) [some (.val (kd ps)), none, x2, x3, x4] := by
    simp only [fs_flags_of_2, FC, leak, ev.eq_1, ev.eq_2, ev.eq_3, ev.eq_4, ev.eq_5, ev.eq_6, ev.eq_7, ev.eq_8, ev.eq_9, ev.eq_10, ev.eq_11, ev.eq_12, ev.eq_13, ev.eq_14, ev.eq_15, ev.eq_16, ev.eq_17, ev.eq_18, ev.eq_19, ev.eq_20, ev.eq_21, ev.eq_22, ev.eq_23, ev.eq_24, ev.eq_25, ev.eq_26, ev.eq_27, ev.eq_28, ev.eq_29, ev.eq_30, ev.eq_31, ev.eq_32, ev.eq_34, ev.eq_35, ev.eq_36, ev.eq_37, ev_cmp, evs, evP, evA, evAnd, evOr, evC, evS.eq_1, evS.eq_2, evS.eq_3, evS.eq_4, evS.eq_5, evS.eq_6, evS.eq_7, evS.eq_10, evS.eq_11, evS.eq_12, evS.eq_13, evS.eq_14, evS_for, evS_whl, evSs, rsv, runFd, start, bor, pur, purs, isVarB, smp, smps, b_ok, b_exc, o_some, h_val, h_tt, h_f, l_val, l_f, f_val, f_lst, f_tup, f_map, n_add, n_sub, lt_of_lt, c_le, c_gt, c_ge, eq_ii, ne_ii, t_bl, lstAt, modE, modC, setL, setF, endOf, outsOf, callC, ioPos, p_call, p_ios, p_glob, io0, io1, io2, io3, io4, io5, io6, io7, io8, io9, io10, io11, io12, io13, io14, io15, io16, io17, io18, io19, io20, io21, io22, io23, takeIo, putIo, hasBw, bindTg, binding, Tg.slots, wipeE, noexc, Bool.and_true, Bool.true_and, Bool.and_false, Bool.false_and, Bool.or_true, Bool.true_or, Bool.or_false, Bool.false_or, Bool.not_true, Bool.not_false, if_true, if_false, ite_true, ite_false, reduceIte, Bool.false_eq_true, List.length_cons, List.length_nil, List.map_cons, List.map_nil, List.replicate, List.append_nil, List.nil_append, List.cons_append, List.getElem?_cons_zero, List.getElem?_cons_succ, List.set_cons_zero, List.set_cons_succ, List.zip_cons_cons, List.zip_nil_left, List.foldl_cons, List.foldl_nil, Option.map_some, Option.bind_some, Option.map_none, Option.bind_none, Option.isSome_some, C.isVal, len_l, len_c, len_t, Nat.reduceAdd, Nat.reduceSub, Nat.reduceLeDiff, Nat.reduceEqDiff, Nat.zero_add, List.getElem?_nil, Option.isSome_none, it_seqc, it_seql, mkTup, allVal, slH_l]
  exact rt_ios rfl ((q_nx e0).trans <| (q_nx e1).trans <| q_rt e2) rfl
/-! ### what is a set -/
def numB : D → Bool
  | .int i => decide (0 ≤ i) && decide (i < 96)
  | _ => false
def leB (l : Int) : D → D → Bool
  | .int i, .int j => decide (l ≤ i) && decide (i ≤ j)
  | _, _ => false
def pairB (l : Int) : D → Bool
  | .tup [a, b] => numB a && numB b && leB l a b
  | _ => false
def highD : D → Int
  | .tup [_, .int j] => j
  | _ => 0
def setB : Int → List D → Bool
  | _, [] => true
  | l, d :: r => pairB l d && setB (highD d + 2) r
theorem num_any (k : Nat) (d : D) (h : d.plain = true) : run pg (k + 1) 0 [.val d] = .ok (.val (.bl (numB d))) [] := by
  cases d with
  | int i => 
    simp only [r_is_number, fd_is_number, isiT, C.top, tyD, gl1, numB, ev.eq_1, ev.eq_2, ev.eq_3, ev.eq_4, ev.eq_5, ev.eq_6, ev.eq_7, ev.eq_8, ev.eq_9, ev.eq_10, ev.eq_11, ev.eq_12, ev.eq_13, ev.eq_14, ev.eq_15, ev.eq_16, ev.eq_17, ev.eq_18, ev.eq_19, ev.eq_20, ev.eq_21, ev.eq_22, ev.eq_23, ev.eq_24, ev.eq_25, ev.eq_26, ev.eq_27, ev.eq_28, ev.eq_29, ev.eq_30, ev.eq_31, ev.eq_32, ev.eq_34, ev.eq_35, ev.eq_36, ev.eq_37, ev_cmp, evs, evP, evA, evAnd, evOr, evC, evS.eq_1, evS.eq_2, evS.eq_3, evS.eq_4, evS.eq_5, evS.eq_6, evS.eq_7, evS.eq_10, evS.eq_11, evS.eq_12, evS.eq_13, evS.eq_14, evS_for, evS_whl, evSs, rsv, runFd, start, bor, pur, purs, isVarB, smp, smps, b_ok, b_exc, o_some, h_val, h_tt, h_f, l_val, l_f, f_val, f_lst, f_tup, f_map, n_add, n_sub, lt_of_lt, c_le, c_gt, c_ge, eq_ii, ne_ii, t_bl, lstAt, modE, modC, setL, setF, endOf, outsOf, callC, ioPos, p_call, p_ios, p_glob, io0, io1, io2, io3, io4, io5, io6, io7, io8, io9, io10, io11, io12, io13, io14, io15, io16, io17, io18, io19, io20, io21, io22, io23, takeIo, putIo, hasBw, bindTg, binding, Tg.slots, wipeE, noexc, Bool.and_true, Bool.true_and, Bool.and_false, Bool.false_and, Bool.or_true, Bool.true_or, Bool.or_false, Bool.false_or, Bool.not_true, Bool.not_false, if_true, if_false, ite_true, ite_false, reduceIte, Bool.false_eq_true, List.length_cons, List.length_nil, List.map_cons, List.map_nil, List.replicate, List.append_nil, List.nil_append, List.cons_append, List.getElem?_cons_zero, List.getElem?_cons_succ, List.set_cons_zero, List.set_cons_succ, List.zip_cons_cons, List.zip_nil_left, List.foldl_cons, List.foldl_nil, Option.map_some, Option.bind_some, Option.map_none, Option.bind_none, Option.isSome_some, C.isVal, len_l, len_c, len_t, Nat.reduceAdd, Nat.reduceSub, Nat.reduceLeDiff, Nat.reduceEqDiff, Nat.zero_add, List.getElem?_nil, Option.isSome_none, it_seqc, it_seql, mkTup, allVal, slH_l]
    by_cases h1 : (0 : Int) ≤ i
    · simp only [decide_eq_true h1, ev.eq_1, ev.eq_2, ev.eq_3, ev.eq_4, ev.eq_5, ev.eq_6, ev.eq_7, ev.eq_8, ev.eq_9, ev.eq_10, ev.eq_11, ev.eq_12, ev.eq_13, ev.eq_14, ev.eq_15, ev.eq_16, ev.eq_17, ev.eq_18, ev.eq_19, ev.eq_20, ev.eq_21, ev.eq_22, ev.eq_23, ev.eq_24, ev.eq_25, ev.eq_26, ev.eq_27, ev.eq_28, ev.eq_29, ev.eq_30, ev.eq_31, ev.eq_32, ev.eq_34, ev.eq_35, ev.eq_36, ev.eq_37, ev_cmp, evs, evP, evA, evAnd, evOr, evC, evS.eq_1, evS.eq_2, evS.eq_3, evS.eq_4, evS.eq_5, evS.eq_6, evS.eq_7, evS.eq_10, evS.eq_11, evS.eq_12, evS.eq_13, evS.eq_14, evS_for, evS_whl, evSs, rsv, runFd, start, bor, pur, purs, isVarB, smp, smps, b_ok, b_exc, o_some, h_val, h_tt, h_f, l_val, l_f, f_val, f_lst, f_tup, f_map, n_add, n_sub, lt_of_lt, c_le, c_gt, c_ge, eq_ii, ne_ii, t_bl, lstAt, modE, modC, setL, setF, endOf, outsOf, callC, ioPos, p_call, p_ios, p_glob, io0, io1, io2, io3, io4, io5, io6, io7, io8, io9, io10, io11, io12, io13, io14, io15, io16, io17, io18, io19, io20, io21, io22, io23, takeIo, putIo, hasBw, bindTg, binding, Tg.slots, wipeE, noexc, Bool.and_true, Bool.true_and, Bool.and_false, Bool.false_and, Bool.or_true, Bool.true_or, Bool.or_false, Bool.false_or, Bool.not_true, Bool.not_false, if_true, if_false, ite_true, ite_false, reduceIte, Bool.false_eq_true, List.length_cons, List.length_nil, List.map_cons, List.map_nil, List.replicate, List.append_nil, List.nil_append, List.cons_append, List.getElem?_cons_zero, List.getElem?_cons_succ, List.set_cons_zero, List.set_cons_succ, List.zip_cons_cons, List.zip_nil_left, List.foldl_cons, List.foldl_nil, Option.map_some, Option.bind_some, Option.map_none, Option.bind_none, Option.isSome_some, C.isVal, len_l, len_c, len_t, Nat.reduceAdd, Nat.reduceSub, Nat.reduceLeDiff, Nat.reduceEqDiff, Nat.zero_add, List.getElem?_nil, Option.isSome_none, it_seqc, it_seql, mkTup, allVal, slH_l]
    · simp only [decide_eq_false h1, ev.eq_1, ev.eq_2, ev.eq_3, ev.eq_4, ev.eq_5, ev.eq_6, ev.eq_7, ev.eq_8, ev.eq_9, ev.eq_10, ev.eq_11, ev.eq_12, ev.eq_13, ev.eq_14, ev.eq_15, ev.eq_16, ev.eq_17, ev.eq_18, ev.eq_19, ev.eq_20, ev.eq_21, ev.eq_22, ev.eq_23, ev.eq_24, ev.eq_25, ev.eq_26, ev.eq_27, ev.eq_28, ev.eq_29, ev.eq_30, ev.eq_31, ev.eq_32, ev.eq_34, ev.eq_35, ev.eq_36, ev.eq_37, ev_cmp, evs, evP, evA, evAnd, evOr, evC, evS.eq_1, evS.eq_2, evS.eq_3, evS.eq_4, evS.eq_5, evS.eq_6, evS.eq_7, evS.eq_10, evS.eq_11, evS.eq_12, evS.eq_13, evS.eq_14, evS_for, evS_whl, evSs, rsv, runFd, start, bor, pur, purs, isVarB, smp, smps, b_ok, b_exc, o_some, h_val, h_tt, h_f, l_val, l_f, f_val, f_lst, f_tup, f_map, n_add, n_sub, lt_of_lt, c_le, c_gt, c_ge, eq_ii, ne_ii, t_bl, lstAt, modE, modC, setL, setF, endOf, outsOf, callC, ioPos, p_call, p_ios, p_glob, io0, io1, io2, io3, io4, io5, io6, io7, io8, io9, io10, io11, io12, io13, io14, io15, io16, io17, io18, io19, io20, io21, io22, io23, takeIo, putIo, hasBw, bindTg, binding, Tg.slots, wipeE, noexc, Bool.and_true, Bool.true_and, Bool.and_false, Bool.false_and, Bool.or_true, Bool.true_or, Bool.or_false, Bool.false_or, Bool.not_true, Bool.not_false, if_true, if_false, ite_true, ite_false, reduceIte, Bool.false_eq_true, List.length_cons, List.length_nil, List.map_cons, List.map_nil, List.replicate, List.append_nil, List.nil_append, List.cons_append, List.getElem?_cons_zero, List.getElem?_cons_succ, List.set_cons_zero, List.set_cons_succ, List.zip_cons_cons, List.zip_nil_left, List.foldl_cons, List.foldl_nil, Option.map_some, Option.bind_some, Option.map_none, Option.bind_none, Option.isSome_some, C.isVal, len_l, len_c, len_t, Nat.reduceAdd, Nat.reduceSub, Nat.reduceLeDiff, Nat.reduceEqDiff, Nat.zero_add, List.getElem?_nil, Option.isSome_none, it_seqc, it_seql, mkTup, allVal, slH_l]
  | dct a b => cases h
  | obj a b c => cases h
  | exc a => cases h
  | _ => simp only [r_is_number, fd_is_number, isiT, C.top, tyD, gl1, numB, ev.eq_1, ev.eq_2, ev.eq_3, ev.eq_4, ev.eq_5, ev.eq_6, ev.eq_7, ev.eq_8, ev.eq_9, ev.eq_10, ev.eq_11, ev.eq_12, ev.eq_13, ev.eq_14, ev.eq_15, ev.eq_16, ev.eq_17, ev.eq_18, ev.eq_19, ev.eq_20, ev.eq_21, ev.eq_22, ev.eq_23, ev.eq_24, ev.eq_25, ev.eq_26, ev.eq_27, ev.eq_28, ev.eq_29, ev.eq_30, ev.eq_31, ev.eq_32, ev.eq_34, ev.eq_35, ev.eq_36, ev.eq_37, ev_cmp, evs, evP, evA, evAnd, evOr, evC, evS.eq_1, evS.eq_2, evS.eq_3, evS.eq_4, evS.eq_5, evS.eq_6, evS.eq_7, evS.eq_10, evS.eq_11, evS.eq_12, evS.eq_13, evS.eq_14, evS_for, evS_whl, evSs, rsv, runFd, start, bor, pur, purs, isVarB, smp, smps, b_ok, b_exc, o_some, h_val, h_tt, h_f, l_val, l_f, f_val, f_lst, f_tup, f_map, n_add, n_sub, lt_of_lt, c_le, c_gt, c_ge, eq_ii, ne_ii, t_bl, lstAt, modE, modC, setL, setF, endOf, outsOf, callC, ioPos, p_call, p_ios, p_glob, io0, io1, io2, io3, io4, io5, io6, io7, io8, io9, io10, io11, io12, io13, io14, io15, io16, io17, io18, io19, io20, io21, io22, io23, takeIo, putIo, hasBw, bindTg, binding, Tg.slots, wipeE, noexc, Bool.and_true, Bool.true_and, Bool.and_false, Bool.false_and, Bool.or_true, Bool.true_or, Bool.or_false, Bool.false_or, Bool.not_true, Bool.not_false, if_true, if_false, ite_true, ite_false, reduceIte, Bool.false_eq_true, List.length_cons, List.length_nil, List.map_cons, List.map_nil, List.replicate, List.append_nil, List.nil_append, List.cons_append, List.getElem?_cons_zero, List.getElem?_cons_succ, List.set_cons_zero, List.set_cons_succ, List.zip_cons_cons, List.zip_nil_left, List.foldl_cons, List.foldl_nil, Option.map_some, Option.bind_some, Option.map_none, Option.bind_none, Option.isSome_some, C.isVal, len_l, len_c, len_t, Nat.reduceAdd, Nat.reduceSub, Nat.reduceLeDiff, Nat.reduceEqDiff, Nat.zero_add, List.getElem?_nil, Option.isSome_none, it_seqc, it_seql, mkTup, allVal, slH_l]
theorem pair_any (k : Nat) (d : D) (l : Int) (h : d.plain = true) : run pg (k + 2) 3 [.val d, .val (.int l)] = .ok (.val (.bl (pairB l d))) [] := by
  cases d with
  | dct a b => cases h
  | obj a b c => cases h
  | exc a => cases h
  | tup ds =>
    rcases ds with _ | ⟨a, _ | ⟨b, _ | ⟨c, r⟩⟩⟩
    · have b2 : (((0 : Nat) : Int) == 2) = false := rfl
      simp only [r_is_pair, fd_is_pair, isiT, C.top, tyD, pairB, b2, ev.eq_1, ev.eq_2, ev.eq_3, ev.eq_4, ev.eq_5, ev.eq_6, ev.eq_7, ev.eq_8, ev.eq_9, ev.eq_10, ev.eq_11, ev.eq_12, ev.eq_13, ev.eq_14, ev.eq_15, ev.eq_16, ev.eq_17, ev.eq_18, ev.eq_19, ev.eq_20, ev.eq_21, ev.eq_22, ev.eq_23, ev.eq_24, ev.eq_25, ev.eq_26, ev.eq_27, ev.eq_28, ev.eq_29, ev.eq_30, ev.eq_31, ev.eq_32, ev.eq_34, ev.eq_35, ev.eq_36, ev.eq_37, ev_cmp, evs, evP, evA, evAnd, evOr, evC, evS.eq_1, evS.eq_2, evS.eq_3, evS.eq_4, evS.eq_5, evS.eq_6, evS.eq_7, evS.eq_10, evS.eq_11, evS.eq_12, evS.eq_13, evS.eq_14, evS_for, evS_whl, evSs, rsv, runFd, start, bor, pur, purs, isVarB, smp, smps, b_ok, b_exc, o_some, h_val, h_tt, h_f, l_val, l_f, f_val, f_lst, f_tup, f_map, n_add, n_sub, lt_of_lt, c_le, c_gt, c_ge, eq_ii, ne_ii, t_bl, lstAt, modE, modC, setL, setF, endOf, outsOf, callC, ioPos, p_call, p_ios, p_glob, io0, io1, io2, io3, io4, io5, io6, io7, io8, io9, io10, io11, io12, io13, io14, io15, io16, io17, io18, io19, io20, io21, io22, io23, takeIo, putIo, hasBw, bindTg, binding, Tg.slots, wipeE, noexc, Bool.and_true, Bool.true_and, Bool.and_false, Bool.false_and, Bool.or_true, Bool.true_or, Bool.or_false, Bool.false_or, Bool.not_true, Bool.not_false, if_true, if_false, ite_true, ite_false, reduceIte, Bool.false_eq_true, List.length_cons, List.length_nil, List.map_cons, List.map_nil, List.replicate, List.append_nil, List.nil_append, List.cons_append, List.getElem?_cons_zero, List.getElem?_cons_succ, List.set_cons_zero, List.set_cons_succ, List.zip_cons_cons, List.zip_nil_left, List.foldl_cons, List.foldl_nil, Option.map_some, Option.bind_some, Option.map_none, Option.bind_none, Option.isSome_some, C.isVal, len_l, len_c, len_t, Nat.reduceAdd, Nat.reduceSub, Nat.reduceLeDiff, Nat.reduceEqDiff, Nat.zero_add, List.getElem?_nil, Option.isSome_none, it_seqc, it_seql, mkTup, allVal, slH_l]
    · have b2 : (((0 + 1 : Nat) : Int) == 2) = false := rfl
      have b2' : (((1 : Nat) : Int) == 2) = false := rfl
      simp only [r_is_pair, fd_is_pair, isiT, C.top, tyD, pairB, b2, b2', ev.eq_1, ev.eq_2, ev.eq_3, ev.eq_4, ev.eq_5, ev.eq_6, ev.eq_7, ev.eq_8, ev.eq_9, ev.eq_10, ev.eq_11, ev.eq_12, ev.eq_13, ev.eq_14, ev.eq_15, ev.eq_16, ev.eq_17, ev.eq_18, ev.eq_19, ev.eq_20, ev.eq_21, ev.eq_22, ev.eq_23, ev.eq_24, ev.eq_25, ev.eq_26, ev.eq_27, ev.eq_28, ev.eq_29, ev.eq_30, ev.eq_31, ev.eq_32, ev.eq_34, ev.eq_35, ev.eq_36, ev.eq_37, ev_cmp, evs, evP, evA, evAnd, evOr, evC, evS.eq_1, evS.eq_2, evS.eq_3, evS.eq_4, evS.eq_5, evS.eq_6, evS.eq_7, evS.eq_10, evS.eq_11, evS.eq_12, evS.eq_13, evS.eq_14, evS_for, evS_whl, evSs, rsv, runFd, start, bor, pur, purs, isVarB, smp, smps, b_ok, b_exc, o_some, h_val, h_tt, h_f, l_val, l_f, f_val, f_lst, f_tup, f_map, n_add, n_sub, lt_of_lt, c_le, c_gt, c_ge, eq_ii, ne_ii, t_bl, lstAt, modE, modC, setL, setF, endOf, outsOf, callC, ioPos, p_call, p_ios, p_glob, io0, io1, io2, io3, io4, io5, io6, io7, io8, io9, io10, io11, io12, io13, io14, io15, io16, io17, io18, io19, io20, io21, io22, io23, takeIo, putIo, hasBw, bindTg, binding, Tg.slots, wipeE, noexc, Bool.and_true, Bool.true_and, Bool.and_false, Bool.false_and, Bool.or_true, Bool.true_or, Bool.or_false, Bool.false_or, Bool.not_true, Bool.not_false, if_true, if_false, ite_true, ite_false, reduceIte, Bool.false_eq_true, List.length_cons, List.length_nil, List.map_cons, List.map_nil, List.replicate, List.append_nil, List.nil_append, List.cons_append, List.getElem?_cons_zero, List.getElem?_cons_succ, List.set_cons_zero, List.set_cons_succ, List.zip_cons_cons, List.zip_nil_left, List.foldl_cons, List.foldl_nil, Option.map_some, Option.bind_some, Option.map_none, Option.bind_none, Option.isSome_some, C.isVal, len_l, len_c, len_t, Nat.reduceAdd, Nat.reduceSub, Nat.reduceLeDiff, Nat.reduceEqDiff, Nat.zero_add, List.getElem?_nil, Option.isSome_none, it_seqc, it_seql, mkTup, allVal, slH_l]
    · rw [D.plain, D.plains, D.plains, Bool.and_eq_true, Bool.and_eq_true] at h
      have n1 := num_any k a h.1
      have n2 := num_any k b h.2.1
      have b2 : (((2 : Nat) : Int) == 2) = true := rfl
      have b3 : (((0 + 1 + 1 : Nat) : Int) == 2) = true := rfl
      cases ha : numB a with
      | false =>
        rw [ha] at n1
        simp only [r_is_pair, fd_is_pair, isiT, C.top, tyD, pairB, b2, b3, ix0, ix1, ix0', ix1', n1, ha, ev.eq_1, ev.eq_2, ev.eq_3, ev.eq_4, ev.eq_5, ev.eq_6, ev.eq_7, ev.eq_8, ev.eq_9, ev.eq_10, ev.eq_11, ev.eq_12, ev.eq_13, ev.eq_14, ev.eq_15, ev.eq_16, ev.eq_17, ev.eq_18, ev.eq_19, ev.eq_20, ev.eq_21, ev.eq_22, ev.eq_23, ev.eq_24, ev.eq_25, ev.eq_26, ev.eq_27, ev.eq_28, ev.eq_29, ev.eq_30, ev.eq_31, ev.eq_32, ev.eq_34, ev.eq_35, ev.eq_36, ev.eq_37, ev_cmp, evs, evP, evA, evAnd, evOr, evC, evS.eq_1, evS.eq_2, evS.eq_3, evS.eq_4, evS.eq_5, evS.eq_6, evS.eq_7, evS.eq_10, evS.eq_11, evS.eq_12, evS.eq_13, evS.eq_14, evS_for, evS_whl, evSs, rsv, runFd, start, bor, pur, purs, isVarB, smp, smps, b_ok, b_exc, o_some, h_val, h_tt, h_f, l_val, l_f, f_val, f_lst, f_tup, f_map, n_add, n_sub, sub_l, sub_t, sub_c, lt_of_lt, c_le, c_gt, c_ge, eq_ii, ne_ii, t_bl, lstAt, modE, modC, setL, setF, endOf, outsOf, callC, ioPos, p_call, p_ios, p_glob, io0, io1, io2, io3, io4, io5, io6, io7, io8, io9, io10, io11, io12, io13, io14, io15, io16, io17, io18, io19, io20, io21, io22, io23, takeIo, putIo, hasBw, bindTg, binding, Tg.slots, wipeE, noexc, Bool.and_true, Bool.true_and, Bool.and_false, Bool.false_and, Bool.or_true, Bool.true_or, Bool.or_false, Bool.false_or, Bool.not_true, Bool.not_false, if_true, if_false, ite_true, ite_false, reduceIte, Bool.false_eq_true, List.length_cons, List.length_nil, List.map_cons, List.map_nil, List.replicate, List.append_nil, List.nil_append, List.cons_append, List.getElem?_cons_zero, List.getElem?_cons_succ, List.set_cons_zero, List.set_cons_succ, List.zip_cons_cons, List.zip_nil_left, List.foldl_cons, List.foldl_nil, Option.map_some, Option.bind_some, Option.map_none, Option.bind_none, Option.isSome_some, C.isVal, len_l, len_c, len_t, Nat.reduceAdd, Nat.reduceSub, Nat.reduceLeDiff, Nat.reduceEqDiff, Nat.zero_add, List.getElem?_nil, Option.isSome_none, it_seqc, it_seql, mkTup, allVal, slH_l]
      | true =>
        rw [ha] at n1
        cases hb : numB b with
        | false =>
          rw [hb] at n2
          simp only [r_is_pair, fd_is_pair, isiT, C.top, tyD, pairB, b2, b3, ix0, ix1, ix0', ix1', n1, n2, ha, hb, ev.eq_1, ev.eq_2, ev.eq_3, ev.eq_4, ev.eq_5, ev.eq_6, ev.eq_7, ev.eq_8, ev.eq_9, ev.eq_10, ev.eq_11, ev.eq_12, ev.eq_13, ev.eq_14, ev.eq_15, ev.eq_16, ev.eq_17, ev.eq_18, ev.eq_19, ev.eq_20, ev.eq_21, ev.eq_22, ev.eq_23, ev.eq_24, ev.eq_25, ev.eq_26, ev.eq_27, ev.eq_28, ev.eq_29, ev.eq_30, ev.eq_31, ev.eq_32, ev.eq_34, ev.eq_35, ev.eq_36, ev.eq_37, ev_cmp, evs, evP, evA, evAnd, evOr, evC, evS.eq_1, evS.eq_2, evS.eq_3, evS.eq_4, evS.eq_5, evS.eq_6, evS.eq_7, evS.eq_10, evS.eq_11, evS.eq_12, evS.eq_13, evS.eq_14, evS_for, evS_whl, evSs, rsv, runFd, start, bor, pur, purs, isVarB, smp, smps, b_ok, b_exc, o_some, h_val, h_tt, h_f, l_val, l_f, f_val, f_lst, f_tup, f_map, n_add, n_sub, sub_l, sub_t, sub_c, lt_of_lt, c_le, c_gt, c_ge, eq_ii, ne_ii, t_bl, lstAt, modE, modC, setL, setF, endOf, outsOf, callC, ioPos, p_call, p_ios, p_glob, io0, io1, io2, io3, io4, io5, io6, io7, io8, io9, io10, io11, io12, io13, io14, io15, io16, io17, io18, io19, io20, io21, io22, io23, takeIo, putIo, hasBw, bindTg, binding, Tg.slots, wipeE, noexc, Bool.and_true, Bool.true_and, Bool.and_false, Bool.false_and, Bool.or_true, Bool.true_or, Bool.or_false, Bool.false_or, Bool.not_true, Bool.not_false, if_true, if_false, ite_true, ite_false, reduceIte, Bool.false_eq_true, List.length_cons, List.length_nil, List.map_cons, List.map_nil, List.replicate, List.append_nil, List.nil_append, List.cons_append, List.getElem?_cons_zero, List.getElem?_cons_succ, List.set_cons_zero, List.set_cons_succ, List.zip_cons_cons, List.zip_nil_left, List.foldl_cons, List.foldl_nil, Option.map_some, Option.bind_some, Option.map_none, Option.bind_none, Option.isSome_some, C.isVal, len_l, len_c, len_t, Nat.reduceAdd, Nat.reduceSub, Nat.reduceLeDiff, Nat.reduceEqDiff, Nat.zero_add, List.getElem?_nil, Option.isSome_none, it_seqc, it_seql, mkTup, allVal, slH_l]
        | true =>
          rw [hb] at n2
          obtain ⟨i, rfl⟩ : ∃ i, a = .int i := by cases a <;> first | exact ⟨_, rfl⟩ | cases ha
          obtain ⟨j, rfl⟩ : ∃ j, b = .int j := by cases b <;> first | exact ⟨_, rfl⟩ | cases hb
          cases hl : decide (l ≤ i) <;> simp only [r_is_pair, fd_is_pair, isiT, C.top, tyD, pairB, leB, b2, b3, ix0, ix1, ix0', ix1', n1, n2, ha, hb, hl, ev.eq_1, ev.eq_2, ev.eq_3, ev.eq_4, ev.eq_5, ev.eq_6, ev.eq_7, ev.eq_8, ev.eq_9, ev.eq_10, ev.eq_11, ev.eq_12, ev.eq_13, ev.eq_14, ev.eq_15, ev.eq_16, ev.eq_17, ev.eq_18, ev.eq_19, ev.eq_20, ev.eq_21, ev.eq_22, ev.eq_23, ev.eq_24, ev.eq_25, ev.eq_26, ev.eq_27, ev.eq_28, ev.eq_29, ev.eq_30, ev.eq_31, ev.eq_32, ev.eq_34, ev.eq_35, ev.eq_36, ev.eq_37, ev_cmp, evs, evP, evA, evAnd, evOr, evC, evS.eq_1, evS.eq_2, evS.eq_3, evS.eq_4, evS.eq_5, evS.eq_6, evS.eq_7, evS.eq_10, evS.eq_11, evS.eq_12, evS.eq_13, evS.eq_14, evS_for, evS_whl, evSs, rsv, runFd, start, bor, pur, purs, isVarB, smp, smps, b_ok, b_exc, o_some, h_val, h_tt, h_f, l_val, l_f, f_val, f_lst, f_tup, f_map, n_add, n_sub, sub_l, sub_t, sub_c, lt_of_lt, c_le, c_gt, c_ge, eq_ii, ne_ii, t_bl, lstAt, modE, modC, setL, setF, endOf, outsOf, callC, ioPos, p_call, p_ios, p_glob, io0, io1, io2, io3, io4, io5, io6, io7, io8, io9, io10, io11, io12, io13, io14, io15, io16, io17, io18, io19, io20, io21, io22, io23, takeIo, putIo, hasBw, bindTg, binding, Tg.slots, wipeE, noexc, Bool.and_true, Bool.true_and, Bool.and_false, Bool.false_and, Bool.or_true, Bool.true_or, Bool.or_false, Bool.false_or, Bool.not_true, Bool.not_false, if_true, if_false, ite_true, ite_false, reduceIte, Bool.false_eq_true, List.length_cons, List.length_nil, List.map_cons, List.map_nil, List.replicate, List.append_nil, List.nil_append, List.cons_append, List.getElem?_cons_zero, List.getElem?_cons_succ, List.set_cons_zero, List.set_cons_succ, List.zip_cons_cons, List.zip_nil_left, List.foldl_cons, List.foldl_nil, Option.map_some, Option.bind_some, Option.map_none, Option.bind_none, Option.isSome_some, C.isVal, len_l, len_c, len_t, Nat.reduceAdd, Nat.reduceSub, Nat.reduceLeDiff, Nat.reduceEqDiff, Nat.zero_add, List.getElem?_nil, Option.isSome_none, it_seqc, it_seql, mkTup, allVal, slH_l]
    · have b2 : ((((r.length + 1 + 1 + 1 : Nat)) : Int) == 2) = false := beq_f (by omega)
      simp only [r_is_pair, fd_is_pair, isiT, C.top, tyD, pairB, b2, ev.eq_1, ev.eq_2, ev.eq_3, ev.eq_4, ev.eq_5, ev.eq_6, ev.eq_7, ev.eq_8, ev.eq_9, ev.eq_10, ev.eq_11, ev.eq_12, ev.eq_13, ev.eq_14, ev.eq_15, ev.eq_16, ev.eq_17, ev.eq_18, ev.eq_19, ev.eq_20, ev.eq_21, ev.eq_22, ev.eq_23, ev.eq_24, ev.eq_25, ev.eq_26, ev.eq_27, ev.eq_28, ev.eq_29, ev.eq_30, ev.eq_31, ev.eq_32, ev.eq_34, ev.eq_35, ev.eq_36, ev.eq_37, ev_cmp, evs, evP, evA, evAnd, evOr, evC, evS.eq_1, evS.eq_2, evS.eq_3, evS.eq_4, evS.eq_5, evS.eq_6, evS.eq_7, evS.eq_10, evS.eq_11, evS.eq_12, evS.eq_13, evS.eq_14, evS_for, evS_whl, evSs, rsv, runFd, start, bor, pur, purs, isVarB, smp, smps, b_ok, b_exc, o_some, h_val, h_tt, h_f, l_val, l_f, f_val, f_lst, f_tup, f_map, n_add, n_sub, lt_of_lt, c_le, c_gt, c_ge, eq_ii, ne_ii, t_bl, lstAt, modE, modC, setL, setF, endOf, outsOf, callC, ioPos, p_call, p_ios, p_glob, io0, io1, io2, io3, io4, io5, io6, io7, io8, io9, io10, io11, io12, io13, io14, io15, io16, io17, io18, io19, io20, io21, io22, io23, takeIo, putIo, hasBw, bindTg, binding, Tg.slots, wipeE, noexc, Bool.and_true, Bool.true_and, Bool.and_false, Bool.false_and, Bool.or_true, Bool.true_or, Bool.or_false, Bool.false_or, Bool.not_true, Bool.not_false, if_true, if_false, ite_true, ite_false, reduceIte, Bool.false_eq_true, List.length_cons, List.length_nil, List.map_cons, List.map_nil, List.replicate, List.append_nil, List.nil_append, List.cons_append, List.getElem?_cons_zero, List.getElem?_cons_succ, List.set_cons_zero, List.set_cons_succ, List.zip_cons_cons, List.zip_nil_left, List.foldl_cons, List.foldl_nil, Option.map_some, Option.bind_some, Option.map_none, Option.bind_none, Option.isSome_some, C.isVal, len_l, len_c, len_t, Nat.reduceAdd, Nat.reduceSub, Nat.reduceLeDiff, Nat.reduceEqDiff, Nat.zero_add, List.getElem?_nil, Option.isSome_none, it_seqc, it_seql, mkTup, allVal, slH_l]
  | _ => simp only [r_is_pair, fd_is_pair, isiT, C.top, tyD, pairB, ev.eq_1, ev.eq_2, ev.eq_3, ev.eq_4, ev.eq_5, ev.eq_6, ev.eq_7, ev.eq_8, ev.eq_9, ev.eq_10, ev.eq_11, ev.eq_12, ev.eq_13, ev.eq_14, ev.eq_15, ev.eq_16, ev.eq_17, ev.eq_18, ev.eq_19, ev.eq_20, ev.eq_21, ev.eq_22, ev.eq_23, ev.eq_24, ev.eq_25, ev.eq_26, ev.eq_27, ev.eq_28, ev.eq_29, ev.eq_30, ev.eq_31, ev.eq_32, ev.eq_34, ev.eq_35, ev.eq_36, ev.eq_37, ev_cmp, evs, evP, evA, evAnd, evOr, evC, evS.eq_1, evS.eq_2, evS.eq_3, evS.eq_4, evS.eq_5, evS.eq_6, evS.eq_7, evS.eq_10, evS.eq_11, evS.eq_12, evS.eq_13, evS.eq_14, evS_for, evS_whl, evSs, rsv, runFd, start, bor, pur, purs, isVarB, smp, smps, b_ok, b_exc, o_some, h_val, h_tt, h_f, l_val, l_f, f_val, f_lst, f_tup, f_map, n_add, n_sub, lt_of_lt, c_le, c_gt, c_ge, eq_ii, ne_ii, t_bl, lstAt, modE, modC, setL, setF, endOf, outsOf, callC, ioPos, p_call, p_ios, p_glob, io0, io1, io2, io3, io4, io5, io6, io7, io8, io9, io10, io11, io12, io13, io14, io15, io16, io17, io18, io19, io20, io21, io22, io23, takeIo, putIo, hasBw, bindTg, binding, Tg.slots, wipeE, noexc, Bool.and_true, Bool.true_and, Bool.and_false, Bool.false_and, Bool.or_true, Bool.true_or, Bool.or_false, Bool.false_or, Bool.not_true, Bool.not_false, if_true, if_false, ite_true, ite_false, reduceIte, Bool.false_eq_true, List.length_cons, List.length_nil, List.map_cons, List.map_nil, List.replicate, List.append_nil, List.nil_append, List.cons_append, List.getElem?_cons_zero, List.getElem?_cons_succ, List.set_cons_zero, List.set_cons_succ, List.zip_cons_cons, List.zip_nil_left, List.foldl_cons, List.foldl_nil, Option.map_some, Option.bind_some, Option.map_none, Option.bind_none, Option.isSome_some, C.isVal, len_l, len_c, len_t, Nat.reduceAdd, Nat.reduceSub, Nat.reduceLeDiff, Nat.reduceEqDiff, Nat.zero_add, List.getElem?_nil, Option.isSome_none, it_seqc, it_seql, mkTup, allVal, slH_l]
theorem pair_int {l : Int} {d : D} (h : pairB l d = true) : ∃ i j, d = .tup [.int i, .int j] := by
  cases d with
  | tup ds =>
    rcases ds with _ | ⟨a, _ | ⟨b, _ | ⟨c, r⟩⟩⟩
    · cases h
    · cases h
    · rw [pairB, Bool.and_eq_true, Bool.and_eq_true] at h
      obtain ⟨i, rfl⟩ : ∃ i, a = .int i := by cases a <;> first | exact ⟨_, rfl⟩ | exact nomatch h.1.1
      obtain ⟨j, rfl⟩ : ∃ j, b = .int j := by cases b <;> first | exact ⟨_, rfl⟩ | exact nomatch h.1.2
      exact ⟨i, j, rfl⟩
    · cases h
  | _ => cases h
theorem set_any (k : Nat) (ds : List D) (h : D.plains ds = true) : run pg (k + 3) 4 [.val (.tup ds)] = .ok (.val (.bl (setB 0 ds))) [] := by
  have lp : ∀ (ds : List D) (l : Int) (o : Option C) (x : C), D.plains ds = true → ∃ e', forLoop (forB (pk (k + 2)) (.nm 2) lb_is_set_0) ds [some x, some (.val (.int l)), o] = .ok (if setB l ds = true then .nx else .rt (.val (.bl false))) e' := by
    intro ds
    induction ds with
    | nil => intro l o x _; exact ⟨_, rfl⟩
    | cons d r ih =>
      intro l o x h
      rw [D.plains, Bool.and_eq_true] at h
      have hp := pair_any k d l h.1
      cases hb : pairB l d with
      | false =>
        rw [hb] at hp
        refine ⟨[some x, some (.val (.int l)), some (.val d)], (fl_rt (c := .val (.bl false)) (e' := [some x, some (.val (.int l)), some (.val d)]) ?_).trans ?_⟩
        · simp only [lb_is_set_0, hp, ev.eq_1, ev.eq_2, ev.eq_3, ev.eq_4, ev.eq_5, ev.eq_6, ev.eq_7, ev.eq_8, ev.eq_9, ev.eq_10, ev.eq_11, ev.eq_12, ev.eq_13, ev.eq_14, ev.eq_15, ev.eq_16, ev.eq_17, ev.eq_18, ev.eq_19, ev.eq_20, ev.eq_21, ev.eq_22, ev.eq_23, ev.eq_24, ev.eq_25, ev.eq_26, ev.eq_27, ev.eq_28, ev.eq_29, ev.eq_30, ev.eq_31, ev.eq_32, ev.eq_34, ev.eq_35, ev.eq_36, ev.eq_37, ev_cmp, evs, evP, evA, evAnd, evOr, evC, evS.eq_1, evS.eq_2, evS.eq_3, evS.eq_4, evS.eq_5, evS.eq_6, evS.eq_7, evS.eq_10, evS.eq_11, evS.eq_12, evS.eq_13, evS.eq_14, evS_for, evS_whl, evSs, rsv, runFd, start, bor, pur, purs, isVarB, smp, smps, b_ok, b_exc, o_some, h_val, h_tt, h_f, l_val, l_f, f_val, f_lst, f_tup, f_map, n_add, n_sub, lt_of_lt, c_le, c_gt, c_ge, eq_ii, ne_ii, t_bl, lstAt, modE, modC, setL, setF, endOf, outsOf, callC, ioPos, p_call, p_ios, p_glob, io0, io1, io2, io3, io4, io5, io6, io7, io8, io9, io10, io11, io12, io13, io14, io15, io16, io17, io18, io19, io20, io21, io22, io23, takeIo, putIo, hasBw, bindTg, binding, Tg.slots, wipeE, noexc, Bool.and_true, Bool.true_and, Bool.and_false, Bool.false_and, Bool.or_true, Bool.true_or, Bool.or_false, Bool.false_or, Bool.not_true, Bool.not_false, if_true, if_false, ite_true, ite_false, reduceIte, Bool.false_eq_true, List.length_cons, List.length_nil, List.map_cons, List.map_nil, List.replicate, List.append_nil, List.nil_append, List.cons_append, List.getElem?_cons_zero, List.getElem?_cons_succ, List.set_cons_zero, List.set_cons_succ, List.zip_cons_cons, List.zip_nil_left, List.foldl_cons, List.foldl_nil, Option.map_some, Option.bind_some, Option.map_none, Option.bind_none, Option.isSome_some, C.isVal, len_l, len_c, len_t, Nat.reduceAdd, Nat.reduceSub, Nat.reduceLeDiff, Nat.reduceEqDiff, Nat.zero_add, List.getElem?_nil, Option.isSome_none, it_seqc, it_seql, mkTup, allVal, slH_l]
        · rw [setB, hb]
          rfl
      | true =>
        rw [hb] at hp
        obtain ⟨i, j, rfl⟩ := pair_int hb
        obtain ⟨e', h5⟩ := ih (j + 2) (some (.val (.tup [.int i, .int j]))) x h.2
        refine ⟨e', (fl_nx (e' := [some x, some (.val (.int (j + 2))), some (.val (.tup [.int i, .int j]))]) ?_).trans ?_⟩
        · simp only [lb_is_set_0, hp, ix1, ix1', ev.eq_1, ev.eq_2, ev.eq_3, ev.eq_4, ev.eq_5, ev.eq_6, ev.eq_7, ev.eq_8, ev.eq_9, ev.eq_10, ev.eq_11, ev.eq_12, ev.eq_13, ev.eq_14, ev.eq_15, ev.eq_16, ev.eq_17, ev.eq_18, ev.eq_19, ev.eq_20, ev.eq_21, ev.eq_22, ev.eq_23, ev.eq_24, ev.eq_25, ev.eq_26, ev.eq_27, ev.eq_28, ev.eq_29, ev.eq_30, ev.eq_31, ev.eq_32, ev.eq_34, ev.eq_35, ev.eq_36, ev.eq_37, ev_cmp, evs, evP, evA, evAnd, evOr, evC, evS.eq_1, evS.eq_2, evS.eq_3, evS.eq_4, evS.eq_5, evS.eq_6, evS.eq_7, evS.eq_10, evS.eq_11, evS.eq_12, evS.eq_13, evS.eq_14, evS_for, evS_whl, evSs, rsv, runFd, start, bor, pur, purs, isVarB, smp, smps, b_ok, b_exc, o_some, h_val, h_tt, h_f, l_val, l_f, f_val, f_lst, f_tup, f_map, n_add, n_sub, sub_l, sub_t, sub_c, lt_of_lt, c_le, c_gt, c_ge, eq_ii, ne_ii, t_bl, lstAt, modE, modC, setL, setF, endOf, outsOf, callC, ioPos, p_call, p_ios, p_glob, io0, io1, io2, io3, io4, io5, io6, io7, io8, io9, io10, io11, io12, io13, io14, io15, io16, io17, io18, io19, io20, io21, io22, io23, takeIo, putIo, hasBw, bindTg, binding, Tg.slots, wipeE, noexc, Bool.and_true, Bool.true_and, Bool.and_false, Bool.false_and, Bool.or_true, Bool.true_or, Bool.or_false, Bool.false_or, Bool.not_true, Bool.not_false, if_true, if_false, ite_true, ite_false, reduceIte, Bool.false_eq_true, List.length_cons, List.length_nil, List.map_cons, List.map_nil, List.replicate, List.append_nil, List.nil_append, List.cons_append, List.getElem?_cons_zero, List.getElem?_cons_succ, List.set_cons_zero, List.set_cons_succ, List.zip_cons_cons, List.zip_nil_left, List.foldl_cons, List.foldl_nil, Option.map_some, Option.bind_some, Option.map_none, Option.bind_none, Option.isSome_some, C.isVal, len_l, len_c, len_t, Nat.reduceAdd, Nat.reduceSub, Nat.reduceLeDiff, Nat.reduceEqDiff, Nat.zero_add, List.getElem?_nil, Option.isSome_none, it_seqc, it_seql, mkTup, allVal, slH_l]
        · rw [setB, hb]
          exact h5
  obtain ⟨e', h1⟩ := lp ds 0 none (.val (.tup ds)) h
  have e0 : evS (pk (k + 2)) fs_is_set_0 [some (.val (.tup ds)), none, none] = .ok .nx [some (.val (.tup ds)), none, none] := rfl
  have e1 : evS (pk (k + 2)) fs_is_set_1 [some (.val (.tup ds)), none, none] = .ok .nx [some (.val (.tup ds)), some (.val (.int 0)), none] := rfl
  have e2 : evS (pk (k + 2)) fs_is_set_2 [some (.val (.tup ds)), some (.val (.int 0)), none] = .ok (if setB 0 ds = true then .nx else .rt (.val (.bl false))) e' := by
    rw [fs_is_set_2, evS_for]
    exact h1
  rw [r_is_set]
  cases hb : setB 0 ds with
  | true =>
    rw [hb] at e2
    exact rt_ios rfl ((q_nx e0).trans <| (q_nx e1).trans <| (q_nx e2).trans <| q_rt rfl) rfl
  | false =>
    rw [hb] at e2
    exact rt_ios rfl ((q_nx e0).trans <| (q_nx e1).trans <| q_rt e2) rfl
theorem set_nt (k : Nat) (d : D) (h : isiT .tuple d = true) (g : tyD sub d .tuple = false) : run pg (k + 3) 4 [.val d] = .ok (.val (.bl false)) [] := by
  have ht : (C.val d).top = d := rfl
  rw [r_is_set]
  have e0 : evS (pk (k + 2)) fs_is_set_0 [some (.val d), none, none] = .ok (.rt (.val (.bl false))) [some (.val d), none, none] := by
    have g : tyD (pk (k + 2)).sub d .tuple = false := g
    simp only [fs_is_set_0, ht, h, g, ev.eq_1, ev.eq_2, ev.eq_3, ev.eq_4, ev.eq_5, ev.eq_6, ev.eq_7, ev.eq_8, ev.eq_9, ev.eq_10, ev.eq_11, ev.eq_12, ev.eq_13, ev.eq_14, ev.eq_15, ev.eq_16, ev.eq_17, ev.eq_18, ev.eq_19, ev.eq_20, ev.eq_21, ev.eq_22, ev.eq_23, ev.eq_24, ev.eq_25, ev.eq_26, ev.eq_27, ev.eq_28, ev.eq_29, ev.eq_30, ev.eq_31, ev.eq_32, ev.eq_34, ev.eq_35, ev.eq_36, ev.eq_37, ev_cmp, evs, evP, evA, evAnd, evOr, evC, evS.eq_1, evS.eq_2, evS.eq_3, evS.eq_4, evS.eq_5, evS.eq_6, evS.eq_7, evS.eq_10, evS.eq_11, evS.eq_12, evS.eq_13, evS.eq_14, evS_for, evS_whl, evSs, rsv, runFd, start, bor, pur, purs, isVarB, smp, smps, b_ok, b_exc, o_some, h_val, h_tt, h_f, l_val, l_f, f_val, f_lst, f_tup, f_map, n_add, n_sub, lt_of_lt, c_le, c_gt, c_ge, eq_ii, ne_ii, t_bl, lstAt, modE, modC, setL, setF, endOf, outsOf, callC, ioPos, p_call, p_ios, p_glob, io0, io1, io2, io3, io4, io5, io6, io7, io8, io9, io10, io11, io12, io13, io14, io15, io16, io17, io18, io19, io20, io21, io22, io23, takeIo, putIo, hasBw, bindTg, binding, Tg.slots, wipeE, noexc, Bool.and_true, Bool.true_and, Bool.and_false, Bool.false_and, Bool.or_true, Bool.true_or, Bool.or_false, Bool.false_or, Bool.not_true, Bool.not_false, if_true, if_false, ite_true, ite_false, reduceIte, Bool.false_eq_true, List.length_cons, List.length_nil, List.map_cons, List.map_nil, List.replicate, List.append_nil, List.nil_append, List.cons_append, List.getElem?_cons_zero, List.getElem?_cons_succ, List.set_cons_zero, List.set_cons_succ, List.zip_cons_cons, List.zip_nil_left, List.foldl_cons, List.foldl_nil, Option.map_some, Option.bind_some, Option.map_none, Option.bind_none, Option.isSome_some, C.isVal, len_l, len_c, len_t, Nat.reduceAdd, Nat.reduceSub, Nat.reduceLeDiff, Nat.reduceEqDiff, Nat.zero_add, List.getElem?_nil, Option.isSome_none, it_seqc, it_seql, mkTup, allVal, slH_l]
  exact rt_ios rfl (q_rt e0) rfl
theorem kd_plain (ps : Ps) : D.plains (ps.map pr) = true := ps_plain ps
theorem set_kd : ∀ (ps : Ps) (l : Nat), setOk l ps = true → setB (l : Int) (ps.map pr) = true
  | [], l, _ => rfl
  | p :: r, l, h => by
    obtain ⟨h1, h2, h3, h4⟩ := setOk_cons.mp h
    have := set_kd r _ h4
    rw [List.map_cons, setB]
    rw [show highD (pr p) + 2 = ((p.2 + 2 : Nat) : Int) by show (p.2 : Int) + 2 = _; omega, this, Bool.and_true, pairB, numB, numB, leB, decide_eq_true (by omega), decide_eq_true (by omega), decide_eq_true (by omega), decide_eq_true (by omega), decide_eq_true (by omega), decide_eq_true (by omega)]
    rfl
theorem is_set_ok (k : Nat) (ps : Ps) (h : setOk 0 ps = true) : run pg (k + 3) 4 [.val (kd ps)] = .ok (.val (.bl true)) [] := by
  have := set_any k (ps.map pr) (kd_plain ps)
  have h2 : setB 0 (ps.map pr) = true := set_kd ps 0 h
  rw [h2] at this
  exact this
theorem need_set_ok (k : Nat) (ps : Ps) (h : setOk 0 ps = true) : run pg (k + 4) 5 [.val (kd ps)] = .ok (.val .non) [] := by
  have := is_set_ok k ps h
  simp only [r_need_set, fd_need_set, this, ev.eq_1, ev.eq_2, ev.eq_3, ev.eq_4, ev.eq_5, ev.eq_6, ev.eq_7, ev.eq_8, ev.eq_9, ev.eq_10, ev.eq_11, ev.eq_12, ev.eq_13, ev.eq_14, ev.eq_15, ev.eq_16, ev.eq_17, ev.eq_18, ev.eq_19, ev.eq_20, ev.eq_21, ev.eq_22, ev.eq_23, ev.eq_24, ev.eq_25, ev.eq_26, ev.eq_27, ev.eq_28, ev.eq_29, ev.eq_30, ev.eq_31, ev.eq_32, ev.eq_34, ev.eq_35, ev.eq_36, ev.eq_37, ev_cmp, evs, evP, evA, evAnd, evOr, evC, evS.eq_1, evS.eq_2, evS.eq_3, evS.eq_4, evS.eq_5, evS.eq_6, evS.eq_7, evS.eq_10, evS.eq_11, evS.eq_12, evS.eq_13, evS.eq_14, evS_for, evS_whl, evSs, rsv, runFd, start, bor, pur, purs, isVarB, smp, smps, b_ok, b_exc, o_some, h_val, h_tt, h_f, l_val, l_f, f_val, f_lst, f_tup, f_map, n_add, n_sub, lt_of_lt, c_le, c_gt, c_ge, eq_ii, ne_ii, t_bl, lstAt, modE, modC, setL, setF, endOf, outsOf, callC, ioPos, p_call, p_ios, p_glob, io0, io1, io2, io3, io4, io5, io6, io7, io8, io9, io10, io11, io12, io13, io14, io15, io16, io17, io18, io19, io20, io21, io22, io23, takeIo, putIo, hasBw, bindTg, binding, Tg.slots, wipeE, noexc, Bool.and_true, Bool.true_and, Bool.and_false, Bool.false_and, Bool.or_true, Bool.true_or, Bool.or_false, Bool.false_or, Bool.not_true, Bool.not_false, if_true, if_false, ite_true, ite_false, reduceIte, Bool.false_eq_true, List.length_cons, List.length_nil, List.map_cons, List.map_nil, List.replicate, List.append_nil, List.nil_append, List.cons_append, List.getElem?_cons_zero, List.getElem?_cons_succ, List.set_cons_zero, List.set_cons_succ, List.zip_cons_cons, List.zip_nil_left, List.foldl_cons, List.foldl_nil, Option.map_some, Option.bind_some, Option.map_none, Option.bind_none, Option.isSome_some, C.isVal, len_l, len_c, len_t, Nat.reduceAdd, Nat.reduceSub, Nat.reduceLeDiff, Nat.reduceEqDiff, Nat.zero_add, List.getElem?_nil, Option.isSome_none, it_seqc, it_seql, mkTup, allVal, slH_l]
/-- what is no set -/
def NoS (d : D) : Prop := ∀ k, run pg (k + 3) 4 [.val d] = .ok (.val (.bl false)) []
theorem need_set_no (k : Nat) {d : D} (h : NoS d) : run pg (k + 4) 5 [.val d] = .exc 3 := by
  have := h k
  simp only [r_need_set, fd_need_set, this, ev.eq_1, ev.eq_2, ev.eq_3, ev.eq_4, ev.eq_5, ev.eq_6, ev.eq_7, ev.eq_8, ev.eq_9, ev.eq_10, ev.eq_11, ev.eq_12, ev.eq_13, ev.eq_14, ev.eq_15, ev.eq_16, ev.eq_17, ev.eq_18, ev.eq_19, ev.eq_20, ev.eq_21, ev.eq_22, ev.eq_23, ev.eq_24, ev.eq_25, ev.eq_26, ev.eq_27, ev.eq_28, ev.eq_29, ev.eq_30, ev.eq_31, ev.eq_32, ev.eq_34, ev.eq_35, ev.eq_36, ev.eq_37, ev_cmp, evs, evP, evA, evAnd, evOr, evC, evS.eq_1, evS.eq_2, evS.eq_3, evS.eq_4, evS.eq_5, evS.eq_6, evS.eq_7, evS.eq_10, evS.eq_11, evS.eq_12, evS.eq_13, evS.eq_14, evS_for, evS_whl, evSs, rsv, runFd, start, bor, pur, purs, isVarB, smp, smps, b_ok, b_exc, o_some, h_val, h_tt, h_f, l_val, l_f, f_val, f_lst, f_tup, f_map, n_add, n_sub, lt_of_lt, c_le, c_gt, c_ge, eq_ii, ne_ii, t_bl, lstAt, modE, modC, setL, setF, endOf, outsOf, callC, ioPos, p_call, p_ios, p_glob, io0, io1, io2, io3, io4, io5, io6, io7, io8, io9, io10, io11, io12, io13, io14, io15, io16, io17, io18, io19, io20, io21, io22, io23, takeIo, putIo, hasBw, bindTg, binding, Tg.slots, wipeE, noexc, Bool.and_true, Bool.true_and, Bool.and_false, Bool.false_and, Bool.or_true, Bool.true_or, Bool.or_false, Bool.false_or, Bool.not_true, Bool.not_false, if_true, if_false, ite_true, ite_false, reduceIte, Bool.false_eq_true, List.length_cons, List.length_nil, List.map_cons, List.map_nil, List.replicate, List.append_nil, List.nil_append, List.cons_append, List.getElem?_cons_zero, List.getElem?_cons_succ, List.set_cons_zero, List.set_cons_succ, List.zip_cons_cons, List.zip_nil_left, List.foldl_cons, List.foldl_nil, Option.map_some, Option.bind_some, Option.map_none, Option.bind_none, Option.isSome_some, C.isVal, len_l, len_c, len_t, Nat.reduceAdd, Nat.reduceSub, Nat.reduceLeDiff, Nat.reduceEqDiff, Nat.zero_add, List.getElem?_nil, Option.isSome_none, it_seqc, it_seql, mkTup, allVal, slH_l]
end K01
namespace K01
open Mi
/-! ### has -/
def hasI (x : Int) (ps : Ps) : Bool := ps.any fun p => decide ((p.1 : Int) ≤ x) && decide (x ≤ (p.2 : Int))
theorem hasI_nat (x : Nat) : ∀ ps : Ps, hasI (x : Int) ps = hasB x ps
  | [] => rfl
  | p :: r => by
    have := hasI_nat x r
    unfold hasI at this ⊢
    rw [List.any_cons, hasB_cons, this]
    congr 1
    rw [Bool.eq_iff_iff]
    simp only [Bool.and_eq_true, decide_eq_true_eq]
    omega
theorem hasI_out {x : Int} (h : x < 0 ∨ 96 ≤ x) : ∀ {ps : Ps} {l : Nat}, setOk l ps = true → hasI x ps = false
  | [], _, _ => rfl
  | p :: r, l, hs => by
    obtain ⟨h1, h2, h3, h4⟩ := setOk_cons.mp hs
    have := hasI_out h h4
    unfold hasI at this ⊢
    rw [List.any_cons, this, Bool.or_false]
    rcases h with h | h
    · rw [decide_eq_false (by omega : ¬ (p.1 : Int) ≤ x), Bool.false_and]
    · rw [decide_eq_false (by omega : ¬ x ≤ (p.2 : Int)), Bool.and_false]
theorem has_ok (k : Nat) (ps : Ps) (x : Int) (h : setOk 0 ps = true) : run pg (k + 5) 6 [.val (kd ps), .val (.int x)] = .ok (.val (.bl (hasI x ps))) [] := by
  have hn := need_set_ok k ps h
  have hll : ps.length ≤ 48 := by have := set_len h (by omega); omega
  have hc : compLoop (compB (pk (k + 4)) (.chn .le .le (.var 2) (.var 1) (.var 3)) (.tp [2, 3]) []) (ps.map pr) [some (.val (kd ps)), some (.val (.int x)), none, none] = .ok ((ps.map pr).map fun d => match d with | .tup [.int a, .int b] => C.val (.bl (decide (a ≤ x) && decide (x ≤ b))) | _ => .val .non) [some (.val (kd ps)), some (.val (.int x)), none, none] :=
    compLoop_map _ _ _ fun d hd => by
      obtain ⟨p, _, rfl⟩ := List.mem_map.mp hd
      cases h1 : decide ((p.1 : Int) ≤ x) <;> simp only [compB, pr, h1, ev.eq_1, ev.eq_2, ev.eq_3, ev.eq_4, ev.eq_5, ev.eq_6, ev.eq_7, ev.eq_8, ev.eq_9, ev.eq_10, ev.eq_11, ev.eq_12, ev.eq_13, ev.eq_14, ev.eq_15, ev.eq_16, ev.eq_17, ev.eq_18, ev.eq_19, ev.eq_20, ev.eq_21, ev.eq_22, ev.eq_23, ev.eq_24, ev.eq_25, ev.eq_26, ev.eq_27, ev.eq_28, ev.eq_29, ev.eq_30, ev.eq_31, ev.eq_32, ev.eq_34, ev.eq_35, ev.eq_36, ev.eq_37, ev_cmp, evs, evP, evA, evAnd, evOr, evC, evS.eq_1, evS.eq_2, evS.eq_3, evS.eq_4, evS.eq_5, evS.eq_6, evS.eq_7, evS.eq_10, evS.eq_11, evS.eq_12, evS.eq_13, evS.eq_14, evS_for, evS_whl, evSs, rsv, runFd, start, bor, pur, purs, isVarB, smp, smps, b_ok, b_exc, o_some, h_val, h_tt, h_f, l_val, l_f, f_val, f_lst, f_tup, f_map, n_add, n_sub, sub_l, sub_t, sub_c, lt_of_lt, c_le, c_gt, c_ge, eq_ii, ne_ii, t_bl, lstAt, modE, modC, setL, setF, endOf, outsOf, callC, ioPos, p_call, p_ios, p_glob, io0, io1, io2, io3, io4, io5, io6, io7, io8, io9, io10, io11, io12, io13, io14, io15, io16, io17, io18, io19, io20, io21, io22, io23, takeIo, putIo, hasBw, bindTg, binding, Tg.slots, wipeE, noexc, Bool.and_true, Bool.true_and, Bool.and_false, Bool.false_and, Bool.or_true, Bool.true_or, Bool.or_false, Bool.false_or, Bool.not_true, Bool.not_false, if_true, if_false, ite_true, ite_false, reduceIte, Bool.false_eq_true, List.length_cons, List.length_nil, List.map_cons, List.map_nil, List.replicate, List.append_nil, List.nil_append, List.cons_append, List.getElem?_cons_zero, List.getElem?_cons_succ, List.set_cons_zero, List.set_cons_succ, List.zip_cons_cons, List.zip_nil_left, List.foldl_cons, List.foldl_nil, Option.map_some, Option.bind_some, Option.map_none, Option.bind_none, Option.isSome_some, C.isVal, len_l, len_c, len_t, Nat.reduceAdd, Nat.reduceSub, Nat.reduceLeDiff, Nat.reduceEqDiff, Nat.zero_add, List.getElem?_nil, Option.isSome_none, it_seqc, it_seql, mkTup, allVal, slH_l]
  have e : (ps.map pr).map (fun d => match d with | .tup [.int a, .int b] => C.val (.bl (decide (a ≤ x) && decide (x ≤ b))) | _ => .val .non) = ps.map fun p => C.val (.bl (decide ((p.1 : Int) ≤ x) && decide (x ≤ (p.2 : Int)))) := by rw [List.map_map]; rfl
  rw [e] at hc
  have hlm : (ps.map pr).length ≤ line := by rw [List.length_map]; show ps.length ≤ 16777216; omega
  have hn : run pg (k + 4) 5 [.val (.tup (ps.map pr))] = _ := hn
  simp only [r_has, fd_has, kd, hn, it_tup, hlm, ev.eq_1, ev.eq_2, ev.eq_3, ev.eq_4, ev.eq_5, ev.eq_6, ev.eq_7, ev.eq_8, ev.eq_9, ev.eq_10, ev.eq_11, ev.eq_12, ev.eq_13, ev.eq_14, ev.eq_15, ev.eq_16, ev.eq_17, ev.eq_18, ev.eq_19, ev.eq_20, ev.eq_21, ev.eq_22, ev.eq_23, ev.eq_24, ev.eq_25, ev.eq_26, ev.eq_27, ev.eq_28, ev.eq_29, ev.eq_30, ev.eq_31, ev.eq_32, ev.eq_34, ev.eq_35, ev.eq_36, ev.eq_37, ev_cmp, evs, evP, evA, evAnd, evOr, evC, evS.eq_1, evS.eq_2, evS.eq_3, evS.eq_4, evS.eq_5, evS.eq_6, evS.eq_7, evS.eq_10, evS.eq_11, evS.eq_12, evS.eq_13, evS.eq_14, evS_for, evS_whl, evSs, rsv, runFd, start, bor, pur, purs, isVarB, smp, smps, b_ok, b_exc, o_some, h_val, h_tt, h_f, l_val, l_f, f_val, f_lst, f_tup, f_map, n_add, n_sub, sub_l, sub_t, sub_c, lt_of_lt, c_le, c_gt, c_ge, eq_ii, ne_ii, t_bl, lstAt, modE, modC, setL, setF, endOf, outsOf, callC, ioPos, p_call, p_ios, p_glob, io0, io1, io2, io3, io4, io5, io6, io7, io8, io9, io10, io11, io12, io13, io14, io15, io16, io17, io18, io19, io20, io21, io22, io23, takeIo, putIo, hasBw, bindTg, binding, Tg.slots, wipeE, noexc, Bool.and_true, Bool.true_and, Bool.and_false, Bool.false_and, Bool.or_true, Bool.true_or, Bool.or_false, Bool.false_or, Bool.not_true, Bool.not_false, if_true, if_false, ite_true, ite_false, reduceIte, Bool.false_eq_true, List.length_cons, List.length_nil, List.map_cons, List.map_nil, List.replicate, List.append_nil, List.nil_append, List.cons_append, List.getElem?_cons_zero, List.getElem?_cons_succ, List.set_cons_zero, List.set_cons_succ, List.zip_cons_cons, List.zip_nil_left, List.foldl_cons, List.foldl_nil, Option.map_some, Option.bind_some, Option.map_none, Option.bind_none, Option.isSome_some, C.isVal, len_l, len_c, len_t, Nat.reduceAdd, Nat.reduceSub, Nat.reduceLeDiff, Nat.reduceEqDiff, Nat.zero_add, List.getElem?_nil, Option.isSome_none, it_seqc, it_seql, mkTup, allVal, slH_l]
  simp only [kd] at hc
  rw [hc]
  simp only [frz_mapf (fun p : Nat × Nat => D.bl (decide ((p.1 : Int) ≤ x) && decide (x ≤ (p.2 : Int)))), any_mapG (fun p : Nat × Nat => decide ((p.1 : Int) ≤ x) && decide (x ≤ (p.2 : Int))), hasI, ev.eq_1, ev.eq_2, ev.eq_3, ev.eq_4, ev.eq_5, ev.eq_6, ev.eq_7, ev.eq_8, ev.eq_9, ev.eq_10, ev.eq_11, ev.eq_12, ev.eq_13, ev.eq_14, ev.eq_15, ev.eq_16, ev.eq_17, ev.eq_18, ev.eq_19, ev.eq_20, ev.eq_21, ev.eq_22, ev.eq_23, ev.eq_24, ev.eq_25, ev.eq_26, ev.eq_27, ev.eq_28, ev.eq_29, ev.eq_30, ev.eq_31, ev.eq_32, ev.eq_34, ev.eq_35, ev.eq_36, ev.eq_37, ev_cmp, evs, evP, evA, evAnd, evOr, evC, evS.eq_1, evS.eq_2, evS.eq_3, evS.eq_4, evS.eq_5, evS.eq_6, evS.eq_7, evS.eq_10, evS.eq_11, evS.eq_12, evS.eq_13, evS.eq_14, evS_for, evS_whl, evSs, rsv, runFd, start, bor, pur, purs, isVarB, smp, smps, b_ok, b_exc, o_some, h_val, h_tt, h_f, l_val, l_f, f_val, f_lst, f_tup, f_map, n_add, n_sub, sub_l, sub_t, sub_c, lt_of_lt, c_le, c_gt, c_ge, eq_ii, ne_ii, t_bl, lstAt, modE, modC, setL, setF, endOf, outsOf, callC, ioPos, p_call, p_ios, p_glob, io0, io1, io2, io3, io4, io5, io6, io7, io8, io9, io10, io11, io12, io13, io14, io15, io16, io17, io18, io19, io20, io21, io22, io23, takeIo, putIo, hasBw, bindTg, binding, Tg.slots, wipeE, noexc, Bool.and_true, Bool.true_and, Bool.and_false, Bool.false_and, Bool.or_true, Bool.true_or, Bool.or_false, Bool.false_or, Bool.not_true, Bool.not_false, if_true, if_false, ite_true, ite_false, reduceIte, Bool.false_eq_true, List.length_cons, List.length_nil, List.map_cons, List.map_nil, List.replicate, List.append_nil, List.nil_append, List.cons_append, List.getElem?_cons_zero, List.getElem?_cons_succ, List.set_cons_zero, List.set_cons_succ, List.zip_cons_cons, List.zip_nil_left, List.foldl_cons, List.foldl_nil, Option.map_some, Option.bind_some, Option.map_none, Option.bind_none, Option.isSome_some, C.isVal, len_l, len_c, len_t, Nat.reduceAdd, Nat.reduceSub, Nat.reduceLeDiff, Nat.reduceEqDiff, Nat.zero_add, List.getElem?_nil, Option.isSome_none, it_seqc, it_seql, mkTup, allVal, slH_l]
theorem has_no (k : Nat) {d : D} (h : NoS d) (x : D) : run pg (k + 5) 6 [.val d, .val x] = .exc 3 := by
  have := need_set_no k h
  simp only [r_has, fd_has, this, ev.eq_1, ev.eq_2, ev.eq_3, ev.eq_4, ev.eq_5, ev.eq_6, ev.eq_7, ev.eq_8, ev.eq_9, ev.eq_10, ev.eq_11, ev.eq_12, ev.eq_13, ev.eq_14, ev.eq_15, ev.eq_16, ev.eq_17, ev.eq_18, ev.eq_19, ev.eq_20, ev.eq_21, ev.eq_22, ev.eq_23, ev.eq_24, ev.eq_25, ev.eq_26, ev.eq_27, ev.eq_28, ev.eq_29, ev.eq_30, ev.eq_31, ev.eq_32, ev.eq_34, ev.eq_35, ev.eq_36, ev.eq_37, ev_cmp, evs, evP, evA, evAnd, evOr, evC, evS.eq_1, evS.eq_2, evS.eq_3, evS.eq_4, evS.eq_5, evS.eq_6, evS.eq_7, evS.eq_10, evS.eq_11, evS.eq_12, evS.eq_13, evS.eq_14, evS_for, evS_whl, evSs, rsv, runFd, start, bor, pur, purs, isVarB, smp, smps, b_ok, b_exc, o_some, h_val, h_tt, h_f, l_val, l_f, f_val, f_lst, f_tup, f_map, n_add, n_sub, lt_of_lt, c_le, c_gt, c_ge, eq_ii, ne_ii, t_bl, lstAt, modE, modC, setL, setF, endOf, outsOf, callC, ioPos, p_call, p_ios, p_glob, io0, io1, io2, io3, io4, io5, io6, io7, io8, io9, io10, io11, io12, io13, io14, io15, io16, io17, io18, io19, io20, io21, io22, io23, takeIo, putIo, hasBw, bindTg, binding, Tg.slots, wipeE, noexc, Bool.and_true, Bool.true_and, Bool.and_false, Bool.false_and, Bool.or_true, Bool.true_or, Bool.or_false, Bool.false_or, Bool.not_true, Bool.not_false, if_true, if_false, ite_true, ite_false, reduceIte, Bool.false_eq_true, List.length_cons, List.length_nil, List.map_cons, List.map_nil, List.replicate, List.append_nil, List.nil_append, List.cons_append, List.getElem?_cons_zero, List.getElem?_cons_succ, List.set_cons_zero, List.set_cons_succ, List.zip_cons_cons, List.zip_nil_left, List.foldl_cons, List.foldl_nil, Option.map_some, Option.bind_some, Option.map_none, Option.bind_none, Option.isSome_some, C.isVal, len_l, len_c, len_t, Nat.reduceAdd, Nat.reduceSub, Nat.reduceLeDiff, Nat.reduceEqDiff, Nat.zero_add, List.getElem?_nil, Option.isSome_none, it_seqc, it_seql, mkTup, allVal, slH_l]
/-! ### joined, met, others -/
theorem zip_map (f g : Nat → Bool) : ∀ xs : List Nat, zipD (xs.map fun x => D.bl (f x)) (xs.map fun x => D.bl (g x)) = xs.map fun x => .tup [.bl (f x), .bl (g x)]
  | [] => rfl
  | x :: r => by
    rw [List.map_cons, List.map_cons, List.map_cons, zipD, zip_map f g r]
theorem it_zipl (a b : List D) : itemsK .zip [.val (.lst a), .val (.lst b)] = some (zipD a b) := rfl
theorem FC_map (f : Nat → Bool) : (List.range 96).map (fun x => C.val (.bl (f x))) = (FD f).map .val := by rw [List.map_map]; rfl
theorem both_ok (P : Pr) (a b : Option C) (elt : ME) (w : Bool → Bool → Bool) (h : ∀ x y : Bool, ev P elt [a, b, some (.val (.bl x)), some (.val (.bl y))] = .ok (.val (.bl (w x y))) [a, b, some (.val (.bl x)), some (.val (.bl y))]) (f g : Nat → Bool) :
    compLoop (compB P elt (.tp [2, 3]) []) (zipD (FD f) (FD g)) [a, b, none, none] = .ok ((FD fun x => w (f x) (g x)).map .val) [a, b, none, none] := by
  rw [FD, FD, zip_map]
  have := compLoop_map (f := compB P elt (.tp [2, 3]) []) (fun d => match d with | .tup [.bl x, .bl y] => C.val (.bl (w x y)) | _ => .val .non) [a, b, none, none] ((List.range 96).map fun x => .tup [.bl (f x), .bl (g x)]) (fun d hd => by
    obtain ⟨x, _, rfl⟩ := List.mem_map.mp hd
    have := h (f x) (g x)
    simp only [compB, this, ev.eq_1, ev.eq_2, ev.eq_3, ev.eq_4, ev.eq_5, ev.eq_6, ev.eq_7, ev.eq_8, ev.eq_9, ev.eq_10, ev.eq_11, ev.eq_12, ev.eq_13, ev.eq_14, ev.eq_15, ev.eq_16, ev.eq_17, ev.eq_18, ev.eq_19, ev.eq_20, ev.eq_21, ev.eq_22, ev.eq_23, ev.eq_24, ev.eq_25, ev.eq_26, ev.eq_27, ev.eq_28, ev.eq_29, ev.eq_30, ev.eq_31, ev.eq_32, ev.eq_34, ev.eq_35, ev.eq_36, ev.eq_37, ev_cmp, evs, evP, evA, evAnd, evOr, evC, evS.eq_1, evS.eq_2, evS.eq_3, evS.eq_4, evS.eq_5, evS.eq_6, evS.eq_7, evS.eq_10, evS.eq_11, evS.eq_12, evS.eq_13, evS.eq_14, evS_for, evS_whl, evSs, rsv, runFd, start, bor, pur, purs, isVarB, smp, smps, b_ok, b_exc, o_some, h_val, h_tt, h_f, l_val, l_f, f_val, f_lst, f_tup, f_map, n_add, n_sub, lt_of_lt, c_le, c_gt, c_ge, eq_ii, ne_ii, t_bl, lstAt, modE, modC, setL, setF, endOf, outsOf, callC, ioPos, p_call, p_ios, p_glob, io0, io1, io2, io3, io4, io5, io6, io7, io8, io9, io10, io11, io12, io13, io14, io15, io16, io17, io18, io19, io20, io21, io22, io23, takeIo, putIo, hasBw, bindTg, binding, Tg.slots, wipeE, noexc, Bool.and_true, Bool.true_and, Bool.and_false, Bool.false_and, Bool.or_true, Bool.true_or, Bool.or_false, Bool.false_or, Bool.not_true, Bool.not_false, if_true, if_false, ite_true, ite_false, reduceIte, Bool.false_eq_true, List.length_cons, List.length_nil, List.map_cons, List.map_nil, List.replicate, List.append_nil, List.nil_append, List.cons_append, List.getElem?_cons_zero, List.getElem?_cons_succ, List.set_cons_zero, List.set_cons_succ, List.zip_cons_cons, List.zip_nil_left, List.foldl_cons, List.foldl_nil, Option.map_some, Option.bind_some, Option.map_none, Option.bind_none, Option.isSome_some, C.isVal, len_l, len_c, len_t, Nat.reduceAdd, Nat.reduceSub, Nat.reduceLeDiff, Nat.reduceEqDiff, Nat.zero_add, List.getElem?_nil, Option.isSome_none, it_seqc, it_seql, mkTup, allVal, slH_l])
  rw [this, List.map_map, ← FC_map]
  rfl
/-- a set of all of these, and of no other -/
def Is (f : Nat → Bool) (ps : Ps) : Prop := setOk 0 ps = true ∧ ∀ x, hasB x ps = upTo f 96 x
theorem Is.uniq {f : Nat → Bool} {ps qs : Ps} (h : Is f ps) (g : Is f qs) : ps = qs := canon ps qs 0 0 h.1 g.1 fun x => (h.2 x).trans (g.2 x).symm
theorem Is.ext {f g : Nat → Bool} {ps : Ps} (h : Is f ps) (e : ∀ x, x < 96 → f x = g x) : Is g ps := ⟨h.1, fun x => by
  rw [h.2 x, upTo, upTo]
  by_cases z : x < 96
  · rw [e x z]
  · rw [decide_eq_false z]; rfl⟩
theorem joined_ok (k : Nat) (ps qs : Ps) (h : setOk 0 ps = true) (g : setOk 0 qs = true) : ∃ rs, Is (fun x => hasB x ps || hasB x qs) rs ∧ run pg (k + 5) 9 [.val (kd ps), .val (kd qs)] = .ok (.val (kd rs)) [] := by
  obtain ⟨rs, r1, r2, r3⟩ := set_of_ok (k + 3) (fun x => hasB x ps || hasB x qs)
  refine ⟨rs, ⟨r1, r2⟩, ?_⟩
  have n1 := need_set_ok k ps h
  have n2 := need_set_ok k qs g
  have f1 := flags_of_ok (k + 3) ps h
  have f2 := flags_of_ok (k + 3) qs g
  have b := both_ok (pk (k + 4)) (some (.val (kd ps))) (some (.val (kd qs))) (.or [(.var 2), (.var 3)]) (fun x y => x || y) (fun x y => by cases x <;> cases y <;> rfl) (fun x => hasB x ps) (fun x => hasB x qs)
  have hl : (zipD (FD fun x => hasB x ps) (FD fun x => hasB x qs)).length ≤ line := by
    rw [FD, FD, zip_map, List.length_map, List.length_range]
    decide
  rw [r_joined]
  have e0 : evS (pk (k + 4)) fs_joined_0 [some (.val (kd ps)), some (.val (kd qs)), none, none] = .ok .nx [some (.val (kd ps)), some (.val (kd qs)), none, none] := by
    simp only [fs_joined_0, n1, ev.eq_1, ev.eq_2, ev.eq_3, ev.eq_4, ev.eq_5, ev.eq_6, ev.eq_7, ev.eq_8, ev.eq_9, ev.eq_10, ev.eq_11, ev.eq_12, ev.eq_13, ev.eq_14, ev.eq_15, ev.eq_16, ev.eq_17, ev.eq_18, ev.eq_19, ev.eq_20, ev.eq_21, ev.eq_22, ev.eq_23, ev.eq_24, ev.eq_25, ev.eq_26, ev.eq_27, ev.eq_28, ev.eq_29, ev.eq_30, ev.eq_31, ev.eq_32, ev.eq_34, ev.eq_35, ev.eq_36, ev.eq_37, ev_cmp, evs, evP, evA, evAnd, evOr, evC, evS.eq_1, evS.eq_2, evS.eq_3, evS.eq_4, evS.eq_5, evS.eq_6, evS.eq_7, evS.eq_10, evS.eq_11, evS.eq_12, evS.eq_13, evS.eq_14, evS_for, evS_whl, evSs, rsv, runFd, start, bor, pur, purs, isVarB, smp, smps, b_ok, b_exc, o_some, h_val, h_tt, h_f, l_val, l_f, f_val, f_lst, f_tup, f_map, n_add, n_sub, lt_of_lt, c_le, c_gt, c_ge, eq_ii, ne_ii, t_bl, lstAt, modE, modC, setL, setF, endOf, outsOf, callC, ioPos, p_call, p_ios, p_glob, io0, io1, io2, io3, io4, io5, io6, io7, io8, io9, io10, io11, io12, io13, io14, io15, io16, io17, io18, io19, io20, io21, io22, io23, takeIo, putIo, hasBw, bindTg, binding, Tg.slots, wipeE, noexc, Bool.and_true, Bool.true_and, Bool.and_false, Bool.false_and, Bool.or_true, Bool.true_or, Bool.or_false, Bool.false_or, Bool.not_true, Bool.not_false, if_true, if_false, ite_true, ite_false, reduceIte, Bool.false_eq_true, List.length_cons, List.length_nil, List.map_cons, List.map_nil, List.replicate, List.append_nil, List.nil_append, List.cons_append, List.getElem?_cons_zero, List.getElem?_cons_succ, List.set_cons_zero, List.set_cons_succ, List.zip_cons_cons, List.zip_nil_left, List.foldl_cons, List.foldl_nil, Option.map_some, Option.bind_some, Option.map_none, Option.bind_none, Option.isSome_some, C.isVal, len_l, len_c, len_t, Nat.reduceAdd, Nat.reduceSub, Nat.reduceLeDiff, Nat.reduceEqDiff, Nat.zero_add, List.getElem?_nil, Option.isSome_none, it_seqc, it_seql, mkTup, allVal, slH_l]
  have e1 : evS (pk (k + 4)) fs_joined_1 [some (.val (kd ps)), some (.val (kd qs)), none, none] = .ok .nx [some (.val (kd ps)), some (.val (kd qs)), none, none] := by
    simp only [fs_joined_1, n2, ev.eq_1, ev.eq_2, ev.eq_3, ev.eq_4, ev.eq_5, ev.eq_6, ev.eq_7, ev.eq_8, ev.eq_9, ev.eq_10, ev.eq_11, ev.eq_12, ev.eq_13, ev.eq_14, ev.eq_15, ev.eq_16, ev.eq_17, ev.eq_18, ev.eq_19, ev.eq_20, ev.eq_21, ev.eq_22, ev.eq_23, ev.eq_24, ev.eq_25, ev.eq_26, ev.eq_27, ev.eq_28, ev.eq_29, ev.eq_30, ev.eq_31, ev.eq_32, ev.eq_34, ev.eq_35, ev.eq_36, ev.eq_37, ev_cmp, evs, evP, evA, evAnd, evOr, evC, evS.eq_1, evS.eq_2, evS.eq_3, evS.eq_4, evS.eq_5, evS.eq_6, evS.eq_7, evS.eq_10, evS.eq_11, evS.eq_12, evS.eq_13, evS.eq_14, evS_for, evS_whl, evSs, rsv, runFd, start, bor, pur, purs, isVarB, smp, smps, b_ok, b_exc, o_some, h_val, h_tt, h_f, l_val, l_f, f_val, f_lst, f_tup, f_map, n_add, n_sub, lt_of_lt, c_le, c_gt, c_ge, eq_ii, ne_ii, t_bl, lstAt, modE, modC, setL, setF, endOf, outsOf, callC, ioPos, p_call, p_ios, p_glob, io0, io1, io2, io3, io4, io5, io6, io7, io8, io9, io10, io11, io12, io13, io14, io15, io16, io17, io18, io19, io20, io21, io22, io23, takeIo, putIo, hasBw, bindTg, binding, Tg.slots, wipeE, noexc, Bool.and_true, Bool.true_and, Bool.and_false, Bool.false_and, Bool.or_true, Bool.true_or, Bool.or_false, Bool.false_or, Bool.not_true, Bool.not_false, if_true, if_false, ite_true, ite_false, reduceIte, Bool.false_eq_true, List.length_cons, List.length_nil, List.map_cons, List.map_nil, List.replicate, List.append_nil, List.nil_append, List.cons_append, List.getElem?_cons_zero, List.getElem?_cons_succ, List.set_cons_zero, List.set_cons_succ, List.zip_cons_cons, List.zip_nil_left, List.foldl_cons, List.foldl_nil, Option.map_some, Option.bind_some, Option.map_none, Option.bind_none, Option.isSome_some, C.isVal, len_l, len_c, len_t, Nat.reduceAdd, Nat.reduceSub, Nat.reduceLeDiff, Nat.reduceEqDiff, Nat.zero_add, List.getElem?_nil, Option.isSome_none, it_seqc, it_seql, mkTup, allVal, slH_l]
  have e2 : evS (pk (k + 4)) fs_joined_2 [some (.val (kd ps)), some (.val (kd qs)), none, none] = .ok (.rt (.val (kd rs))) [some (.val (kd ps)), some (.val (kd qs)), none, none] := by
    simp only [fs_joined_2, f1, f2, FC, it_zipl, hl, b, r3, ev.eq_1, ev.eq_2, ev.eq_3, ev.eq_4, ev.eq_5, ev.eq_6, ev.eq_7, ev.eq_8, ev.eq_9, ev.eq_10, ev.eq_11, ev.eq_12, ev.eq_13, ev.eq_14, ev.eq_15, ev.eq_16, ev.eq_17, ev.eq_18, ev.eq_19, ev.eq_20, ev.eq_21, ev.eq_22, ev.eq_23, ev.eq_24, ev.eq_25, ev.eq_26, ev.eq_27, ev.eq_28, ev.eq_29, ev.eq_30, ev.eq_31, ev.eq_32, ev.eq_34, ev.eq_35, ev.eq_36, ev.eq_37, ev_cmp, evs, evP, evA, evAnd, evOr, evC, evS.eq_1, evS.eq_2, evS.eq_3, evS.eq_4, evS.eq_5, evS.eq_6, evS.eq_7, evS.eq_10, evS.eq_11, evS.eq_12, evS.eq_13, evS.eq_14, evS_for, evS_whl, evSs, rsv, runFd, start, bor, pur, purs, isVarB, smp, smps, b_ok, b_exc, o_some, h_val, h_tt, h_f, l_val, l_f, f_val, f_lst, f_tup, f_map, n_add, n_sub, lt_of_lt, c_le, c_gt, c_ge, eq_ii, ne_ii, t_bl, lstAt, modE, modC, setL, setF, endOf, outsOf, callC, ioPos, p_call, p_ios, p_glob, io0, io1, io2, io3, io4, io5, io6, io7, io8, io9, io10, io11, io12, io13, io14, io15, io16, io17, io18, io19, io20, io21, io22, io23, takeIo, putIo, hasBw, bindTg, binding, Tg.slots, wipeE, noexc, Bool.and_true, Bool.true_and, Bool.and_false, Bool.false_and, Bool.or_true, Bool.true_or, Bool.or_false, Bool.false_or, Bool.not_true, Bool.not_false, if_true, if_false, ite_true, ite_false, reduceIte, Bool.false_eq_true, List.length_cons, List.length_nil, List.map_cons, List.map_nil, List.replicate, List.append_nil, List.nil_append, List.cons_append, List.getElem?_cons_zero, List.getElem?_cons_succ, List.set_cons_zero, List.set_cons_succ, List.zip_cons_cons, List.zip_nil_left, List.foldl_cons, List.foldl_nil, Option.map_some, Option.bind_some, Option.map_none, Option.bind_none, Option.isSome_some, C.isVal, len_l, len_c, len_t, Nat.reduceAdd, Nat.reduceSub, Nat.reduceLeDiff, Nat.reduceEqDiff, Nat.zero_add, List.getElem?_nil, Option.isSome_none, it_seqc, it_seql, mkTup, allVal, slH_l]
  exact rt_ios rfl ((q_nx e0).trans <| (q_nx e1).trans <| q_rt e2) rfl
theorem met_ok (k : Nat) (ps qs : Ps) (h : setOk 0 ps = true) (g : setOk 0 qs = true) : ∃ rs, Is (fun x => hasB x ps && hasB x qs) rs ∧ run pg (k + 5) 10 [.val (kd ps), .val (kd qs)] = .ok (.val (kd rs)) [] := by
  obtain ⟨rs, r1, r2, r3⟩ := set_of_ok (k + 3) (fun x => hasB x ps && hasB x qs)
  refine ⟨rs, ⟨r1, r2⟩, ?_⟩
  have n1 := need_set_ok k ps h
  have n2 := need_set_ok k qs g
  have f1 := flags_of_ok (k + 3) ps h
  have f2 := flags_of_ok (k + 3) qs g
  have b := both_ok (pk (k + 4)) (some (.val (kd ps))) (some (.val (kd qs))) (.and [(.var 2), (.var 3)]) (fun x y => x && y) (fun x y => by cases x <;> cases y <;> rfl) (fun x => hasB x ps) (fun x => hasB x qs)
  have hl : (zipD (FD fun x => hasB x ps) (FD fun x => hasB x qs)).length ≤ line := by
    rw [FD, FD, zip_map, List.length_map, List.length_range]
    decide
  rw [r_met]
  have e0 : evS (pk (k + 4)) fs_met_0 [some (.val (kd ps)), some (.val (kd qs)), none, none] = .ok .nx [some (.val (kd ps)), some (.val (kd qs)), none, none] := by
    simp only [fs_met_0, n1, ev.eq_1, ev.eq_2, ev.eq_3, ev.eq_4, ev.eq_5, ev.eq_6, ev.eq_7, ev.eq_8, ev.eq_9, ev.eq_10, ev.eq_11, ev.eq_12, ev.eq_13, ev.eq_14, ev.eq_15, ev.eq_16, ev.eq_17, ev.eq_18, ev.eq_19, ev.eq_20, ev.eq_21, ev.eq_22, ev.eq_23, ev.eq_24, ev.eq_25, ev.eq_26, ev.eq_27, ev.eq_28, ev.eq_29, ev.eq_30, ev.eq_31, ev.eq_32, ev.eq_34, ev.eq_35, ev.eq_36, ev.eq_37, ev_cmp, evs, evP, evA, evAnd, evOr, evC, evS.eq_1, evS.eq_2, evS.eq_3, evS.eq_4, evS.eq_5, evS.eq_6, evS.eq_7, evS.eq_10, evS.eq_11, evS.eq_12, evS.eq_13, evS.eq_14, evS_for, evS_whl, evSs, rsv, runFd, start, bor, pur, purs, isVarB, smp, smps, b_ok, b_exc, o_some, h_val, h_tt, h_f, l_val, l_f, f_val, f_lst, f_tup, f_map, n_add, n_sub, lt_of_lt, c_le, c_gt, c_ge, eq_ii, ne_ii, t_bl, lstAt, modE, modC, setL, setF, endOf, outsOf, callC, ioPos, p_call, p_ios, p_glob, io0, io1, io2, io3, io4, io5, io6, io7, io8, io9, io10, io11, io12, io13, io14, io15, io16, io17, io18, io19, io20, io21, io22, io23, takeIo, putIo, hasBw, bindTg, binding, Tg.slots, wipeE, noexc, Bool.and_true, Bool.true_and, Bool.and_false, Bool.false_and, Bool.or_true, Bool.true_or, Bool.or_false, Bool.false_or, Bool.not_true, Bool.not_false, if_true, if_false, ite_true, ite_false, reduceIte, Bool.false_eq_true, List.length_cons, List.length_nil, List.map_cons, List.map_nil, List.replicate, List.append_nil, List.nil_append, List.cons_append, List.getElem?_cons_zero, List.getElem?_cons_succ, List.set_cons_zero, List.set_cons_succ, List.zip_cons_cons, List.zip_nil_left, List.foldl_cons, List.foldl_nil, Option.map_some, Option.bind_some, Option.map_none, Option.bind_none, Option.isSome_some, C.isVal, len_l, len_c, len_t, Nat.reduceAdd, Nat.reduceSub, Nat.reduceLeDiff, Nat.reduceEqDiff, Nat.zero_add, List.getElem?_nil, Option.isSome_none, it_seqc, it_seql, mkTup, allVal, slH_l]
  have e1 : evS (pk (k + 4)) fs_met_1 [some (.val (kd ps)), some (.val (kd qs)), none, none] = .ok .nx [some (.val (kd ps)), some (.val (kd qs)), none, none] := by
    simp only [fs_met_1, n2, ev.eq_1, ev.eq_2, ev.eq_3, ev.eq_4, ev.eq_5, ev.eq_6, ev.eq_7, ev.eq_8, ev.eq_9, ev.eq_10, ev.eq_11, ev.eq_12, ev.eq_13, ev.eq_14, ev.eq_15, ev.eq_16, ev.eq_17, ev.eq_18, ev.eq_19, ev.eq_20, ev.eq_21, ev.eq_22, ev.eq_23, ev.eq_24, ev.eq_25, ev.eq_26, ev.eq_27, ev.eq_28, ev.eq_29, ev.eq_30, ev.eq_31, ev.eq_32, ev.eq_34, ev.eq_35, ev.eq_36, ev.eq_37, ev_cmp, evs, evP, evA, evAnd, evOr, evC, evS.eq_1, evS.eq_2, evS.eq_3, evS.eq_4, evS.eq_5, evS.eq_6, evS.eq_7, evS.eq_10, evS.eq_11, evS.eq_12, evS.eq_13, evS.eq_14, evS_for, evS_whl, evSs, rsv, runFd, start, bor, pur, purs, isVarB, smp, smps, b_ok, b_exc, o_some, h_val, h_tt, h_f, l_val, l_f, f_val, f_lst, f_tup, f_map, n_add, n_sub, lt_of_lt, c_le, c_gt, c_ge, eq_ii, ne_ii, t_bl, lstAt, modE, modC, setL, setF, endOf, outsOf, callC, ioPos, p_call, p_ios, p_glob, io0, io1, io2, io3, io4, io5, io6, io7, io8, io9, io10, io11, io12, io13, io14, io15, io16, io17, io18, io19, io20, io21, io22, io23, takeIo, putIo, hasBw, bindTg, binding, Tg.slots, wipeE, noexc, Bool.and_true, Bool.true_and, Bool.and_false, Bool.false_and, Bool.or_true, Bool.true_or, Bool.or_false, Bool.false_or, Bool.not_true, Bool.not_false, if_true, if_false, ite_true, ite_false, reduceIte, Bool.false_eq_true, List.length_cons, List.length_nil, List.map_cons, List.map_nil, List.replicate, List.append_nil, List.nil_append, List.cons_append, List.getElem?_cons_zero, List.getElem?_cons_succ, List.set_cons_zero, List.set_cons_succ, List.zip_cons_cons, List.zip_nil_left, List.foldl_cons, List.foldl_nil, Option.map_some, Option.bind_some, Option.map_none, Option.bind_none, Option.isSome_some, C.isVal, len_l, len_c, len_t, Nat.reduceAdd, Nat.reduceSub, Nat.reduceLeDiff, Nat.reduceEqDiff, Nat.zero_add, List.getElem?_nil, Option.isSome_none, it_seqc, it_seql, mkTup, allVal, slH_l]
  have e2 : evS (pk (k + 4)) fs_met_2 [some (.val (kd ps)), some (.val (kd qs)), none, none] = .ok (.rt (.val (kd rs))) [some (.val (kd ps)), some (.val (kd qs)), none, none] := by
    simp only [fs_met_2, f1, f2, FC, it_zipl, hl, b, r3, ev.eq_1, ev.eq_2, ev.eq_3, ev.eq_4, ev.eq_5, ev.eq_6, ev.eq_7, ev.eq_8, ev.eq_9, ev.eq_10, ev.eq_11, ev.eq_12, ev.eq_13, ev.eq_14, ev.eq_15, ev.eq_16, ev.eq_17, ev.eq_18, ev.eq_19, ev.eq_20, ev.eq_21, ev.eq_22, ev.eq_23, ev.eq_24, ev.eq_25, ev.eq_26, ev.eq_27, ev.eq_28, ev.eq_29, ev.eq_30, ev.eq_31, ev.eq_32, ev.eq_34, ev.eq_35, ev.eq_36, ev.eq_37, ev_cmp, evs, evP, evA, evAnd, evOr, evC, evS.eq_1, evS.eq_2, evS.eq_3, evS.eq_4, evS.eq_5, evS.eq_6, evS.eq_7, evS.eq_10, evS.eq_11, evS.eq_12, evS.eq_13, evS.eq_14, evS_for, evS_whl, evSs, rsv, runFd, start, bor, pur, purs, isVarB, smp, smps, b_ok, b_exc, o_some, h_val, h_tt, h_f, l_val, l_f, f_val, f_lst, f_tup, f_map, n_add, n_sub, lt_of_lt, c_le, c_gt, c_ge, eq_ii, ne_ii, t_bl, lstAt, modE, modC, setL, setF, endOf, outsOf, callC, ioPos, p_call, p_ios, p_glob, io0, io1, io2, io3, io4, io5, io6, io7, io8, io9, io10, io11, io12, io13, io14, io15, io16, io17, io18, io19, io20, io21, io22, io23, takeIo, putIo, hasBw, bindTg, binding, Tg.slots, wipeE, noexc, Bool.and_true, Bool.true_and, Bool.and_false, Bool.false_and, Bool.or_true, Bool.true_or, Bool.or_false, Bool.false_or, Bool.not_true, Bool.not_false, if_true, if_false, ite_true, ite_false, reduceIte, Bool.false_eq_true, List.length_cons, List.length_nil, List.map_cons, List.map_nil, List.replicate, List.append_nil, List.nil_append, List.cons_append, List.getElem?_cons_zero, List.getElem?_cons_succ, List.set_cons_zero, List.set_cons_succ, List.zip_cons_cons, List.zip_nil_left, List.foldl_cons, List.foldl_nil, Option.map_some, Option.bind_some, Option.map_none, Option.bind_none, Option.isSome_some, C.isVal, len_l, len_c, len_t, Nat.reduceAdd, Nat.reduceSub, Nat.reduceLeDiff, Nat.reduceEqDiff, Nat.zero_add, List.getElem?_nil, Option.isSome_none, it_seqc, it_seql, mkTup, allVal, slH_l]
  exact rt_ios rfl ((q_nx e0).trans <| (q_nx e1).trans <| q_rt e2) rfl
theorem not_ok (P : Pr) (a : Option C) (f : Nat → Bool) : compLoop (compB P (.not (.var 1)) (.nm 1) []) (FD f) [a, none] = .ok ((FD fun x => !f x).map .val) [a, none] := by
  have := compLoop_map (f := compB P (.not (.var 1)) (.nm 1) []) (fun d => match d with | .bl x => C.val (.bl (!x)) | _ => .val .non) [a, none] (FD f) (fun d hd => by
    obtain ⟨x, _, rfl⟩ := List.mem_map.mp hd
    simp only [compB, ev.eq_1, ev.eq_2, ev.eq_3, ev.eq_4, ev.eq_5, ev.eq_6, ev.eq_7, ev.eq_8, ev.eq_9, ev.eq_10, ev.eq_11, ev.eq_12, ev.eq_13, ev.eq_14, ev.eq_15, ev.eq_16, ev.eq_17, ev.eq_18, ev.eq_19, ev.eq_20, ev.eq_21, ev.eq_22, ev.eq_23, ev.eq_24, ev.eq_25, ev.eq_26, ev.eq_27, ev.eq_28, ev.eq_29, ev.eq_30, ev.eq_31, ev.eq_32, ev.eq_34, ev.eq_35, ev.eq_36, ev.eq_37, ev_cmp, evs, evP, evA, evAnd, evOr, evC, evS.eq_1, evS.eq_2, evS.eq_3, evS.eq_4, evS.eq_5, evS.eq_6, evS.eq_7, evS.eq_10, evS.eq_11, evS.eq_12, evS.eq_13, evS.eq_14, evS_for, evS_whl, evSs, rsv, runFd, start, bor, pur, purs, isVarB, smp, smps, b_ok, b_exc, o_some, h_val, h_tt, h_f, l_val, l_f, f_val, f_lst, f_tup, f_map, n_add, n_sub, lt_of_lt, c_le, c_gt, c_ge, eq_ii, ne_ii, t_bl, lstAt, modE, modC, setL, setF, endOf, outsOf, callC, ioPos, p_call, p_ios, p_glob, io0, io1, io2, io3, io4, io5, io6, io7, io8, io9, io10, io11, io12, io13, io14, io15, io16, io17, io18, io19, io20, io21, io22, io23, takeIo, putIo, hasBw, bindTg, binding, Tg.slots, wipeE, noexc, Bool.and_true, Bool.true_and, Bool.and_false, Bool.false_and, Bool.or_true, Bool.true_or, Bool.or_false, Bool.false_or, Bool.not_true, Bool.not_false, if_true, if_false, ite_true, ite_false, reduceIte, Bool.false_eq_true, List.length_cons, List.length_nil, List.map_cons, List.map_nil, List.replicate, List.append_nil, List.nil_append, List.cons_append, List.getElem?_cons_zero, List.getElem?_cons_succ, List.set_cons_zero, List.set_cons_succ, List.zip_cons_cons, List.zip_nil_left, List.foldl_cons, List.foldl_nil, Option.map_some, Option.bind_some, Option.map_none, Option.bind_none, Option.isSome_some, C.isVal, len_l, len_c, len_t, Nat.reduceAdd, Nat.reduceSub, Nat.reduceLeDiff, Nat.reduceEqDiff, Nat.zero_add, List.getElem?_nil, Option.isSome_none, it_seqc, it_seql, mkTup, allVal, slH_l])
  rw [this, List.map_map, ← FC_map]
  rfl
theorem others_ok (k : Nat) (ps : Ps) (h : setOk 0 ps = true) : ∃ rs, Is (fun x => !hasB x ps) rs ∧ run pg (k + 5) 11 [.val (kd ps)] = .ok (.val (kd rs)) [] := by
  obtain ⟨rs, r1, r2, r3⟩ := set_of_ok (k + 3) (fun x => !hasB x ps)
  refine ⟨rs, ⟨r1, r2⟩, ?_⟩
  have n1 := need_set_ok k ps h
  have f1 := flags_of_ok (k + 3) ps h
  have b := not_ok (pk (k + 4)) (some (.val (kd ps))) (fun x => hasB x ps)
  have hl := FD_line (fun x => hasB x ps)
  simp only [r_others, fd_others, n1, f1, FC, hl, b, r3, ev.eq_1, ev.eq_2, ev.eq_3, ev.eq_4, ev.eq_5, ev.eq_6, ev.eq_7, ev.eq_8, ev.eq_9, ev.eq_10, ev.eq_11, ev.eq_12, ev.eq_13, ev.eq_14, ev.eq_15, ev.eq_16, ev.eq_17, ev.eq_18, ev.eq_19, ev.eq_20, ev.eq_21, ev.eq_22, ev.eq_23, ev.eq_24, ev.eq_25, ev.eq_26, ev.eq_27, ev.eq_28, ev.eq_29, ev.eq_30, ev.eq_31, ev.eq_32, ev.eq_34, ev.eq_35, ev.eq_36, ev.eq_37, ev_cmp, evs, evP, evA, evAnd, evOr, evC, evS.eq_1, evS.eq_2, evS.eq_3, evS.eq_4, evS.eq_5, evS.eq_6, evS.eq_7, evS.eq_10, evS.eq_11, evS.eq_12, evS.eq_13, evS.eq_14, evS_for, evS_whl, evSs, rsv, runFd, start, bor, pur, purs, isVarB, smp, smps, b_ok, b_exc, o_some, h_val, h_tt, h_f, l_val, l_f, f_val, f_lst, f_tup, f_map, n_add, n_sub, lt_of_lt, c_le, c_gt, c_ge, eq_ii, ne_ii, t_bl, lstAt, modE, modC, setL, setF, endOf, outsOf, callC, ioPos, p_call, p_ios, p_glob, io0, io1, io2, io3, io4, io5, io6, io7, io8, io9, io10, io11, io12, io13, io14, io15, io16, io17, io18, io19, io20, io21, io22, io23, takeIo, putIo, hasBw, bindTg, binding, Tg.slots, wipeE, noexc, Bool.and_true, Bool.true_and, Bool.and_false, Bool.false_and, Bool.or_true, Bool.true_or, Bool.or_false, Bool.false_or, Bool.not_true, Bool.not_false, if_true, if_false, ite_true, ite_false, reduceIte, Bool.false_eq_true, List.length_cons, List.length_nil, List.map_cons, List.map_nil, List.replicate, List.append_nil, List.nil_append, List.cons_append, List.getElem?_cons_zero, List.getElem?_cons_succ, List.set_cons_zero, List.set_cons_succ, List.zip_cons_cons, List.zip_nil_left, List.foldl_cons, List.foldl_nil, Option.map_some, Option.bind_some, Option.map_none, Option.bind_none, Option.isSome_some, C.isVal, len_l, len_c, len_t, Nat.reduceAdd, Nat.reduceSub, Nat.reduceLeDiff, Nat.reduceEqDiff, Nat.zero_add, List.getElem?_nil, Option.isSome_none, it_seqc, it_seql, mkTup, allVal, slH_l]
theorem first_no (k : Nat) {d : D} (h : NoS d) (x : D) : run pg (k + 5) 9 [.val d, .val x] = .exc 3 ∧ run pg (k + 5) 10 [.val d, .val x] = .exc 3 ∧ run pg (k + 5) 11 [.val d] = .exc 3 := by
  have := need_set_no k h
  refine ⟨?_, ?_, ?_⟩
  · simp only [r_joined, fd_joined, this, ev.eq_1, ev.eq_2, ev.eq_3, ev.eq_4, ev.eq_5, ev.eq_6, ev.eq_7, ev.eq_8, ev.eq_9, ev.eq_10, ev.eq_11, ev.eq_12, ev.eq_13, ev.eq_14, ev.eq_15, ev.eq_16, ev.eq_17, ev.eq_18, ev.eq_19, ev.eq_20, ev.eq_21, ev.eq_22, ev.eq_23, ev.eq_24, ev.eq_25, ev.eq_26, ev.eq_27, ev.eq_28, ev.eq_29, ev.eq_30, ev.eq_31, ev.eq_32, ev.eq_34, ev.eq_35, ev.eq_36, ev.eq_37, ev_cmp, evs, evP, evA, evAnd, evOr, evC, evS.eq_1, evS.eq_2, evS.eq_3, evS.eq_4, evS.eq_5, evS.eq_6, evS.eq_7, evS.eq_10, evS.eq_11, evS.eq_12, evS.eq_13, evS.eq_14, evS_for, evS_whl, evSs, rsv, runFd, start, bor, pur, purs, isVarB, smp, smps, b_ok, b_exc, o_some, h_val, h_tt, h_f, l_val, l_f, f_val, f_lst, f_tup, f_map, n_add, n_sub, lt_of_lt, c_le, c_gt, c_ge, eq_ii, ne_ii, t_bl, lstAt, modE, modC, setL, setF, endOf, outsOf, callC, ioPos, p_call, p_ios, p_glob, io0, io1, io2, io3, io4, io5, io6, io7, io8, io9, io10, io11, io12, io13, io14, io15, io16, io17, io18, io19, io20, io21, io22, io23, takeIo, putIo, hasBw, bindTg, binding, Tg.slots, wipeE, noexc, Bool.and_true, Bool.true_and, Bool.and_false, Bool.false_and, Bool.or_true, Bool.true_or, Bool.or_false, Bool.false_or, Bool.not_true, Bool.not_false, if_true, if_false, ite_true, ite_false, reduceIte, Bool.false_eq_true, List.length_cons, List.length_nil, List.map_cons, List.map_nil, List.replicate, List.append_nil, List.nil_append, List.cons_append, List.getElem?_cons_zero, List.getElem?_cons_succ, List.set_cons_zero, List.set_cons_succ, List.zip_cons_cons, List.zip_nil_left, List.foldl_cons, List.foldl_nil, Option.map_some, Option.bind_some, Option.map_none, Option.bind_none, Option.isSome_some, C.isVal, len_l, len_c, len_t, Nat.reduceAdd, Nat.reduceSub, Nat.reduceLeDiff, Nat.reduceEqDiff, Nat.zero_add, List.getElem?_nil, Option.isSome_none, it_seqc, it_seql, mkTup, allVal, slH_l]
  · simp only [r_met, fd_met, this, ev.eq_1, ev.eq_2, ev.eq_3, ev.eq_4, ev.eq_5, ev.eq_6, ev.eq_7, ev.eq_8, ev.eq_9, ev.eq_10, ev.eq_11, ev.eq_12, ev.eq_13, ev.eq_14, ev.eq_15, ev.eq_16, ev.eq_17, ev.eq_18, ev.eq_19, ev.eq_20, ev.eq_21, ev.eq_22, ev.eq_23, ev.eq_24, ev.eq_25, ev.eq_26, ev.eq_27, ev.eq_28, ev.eq_29, ev.eq_30, ev.eq_31, ev.eq_32, ev.eq_34, ev.eq_35, ev.eq_36, ev.eq_37, ev_cmp, evs, evP, evA, evAnd, evOr, evC, evS.eq_1, evS.eq_2, evS.eq_3, evS.eq_4, evS.eq_5, evS.eq_6, evS.eq_7, evS.eq_10, evS.eq_11, evS.eq_12, evS.eq_13, evS.eq_14, evS_for, evS_whl, evSs, rsv, runFd, start, bor, pur, purs, isVarB, smp, smps, b_ok, b_exc, o_some, h_val, h_tt, h_f, l_val, l_f, f_val, f_lst, f_tup, f_map, n_add, n_sub, lt_of_lt, c_le, c_gt, c_ge, eq_ii, ne_ii, t_bl, lstAt, modE, modC, setL, setF, endOf, outsOf, callC, ioPos, p_call, p_ios, p_glob, io0, io1, io2, io3, io4, io5, io6, io7, io8, io9, io10, io11, io12, io13, io14, io15, io16, io17, io18, io19, io20, io21, io22, io23, takeIo, putIo, hasBw, bindTg, binding, Tg.slots, wipeE, noexc, Bool.and_true, Bool.true_and, Bool.and_false, Bool.false_and, Bool.or_true, Bool.true_or, Bool.or_false, Bool.false_or, Bool.not_true, Bool.not_false, if_true, if_false, ite_true, ite_false, reduceIte, Bool.false_eq_true, List.length_cons, List.length_nil, List.map_cons, List.map_nil, List.replicate, List.append_nil, List.nil_append, List.cons_append, List.getElem?_cons_zero, List.getElem?_cons_succ, List.set_cons_zero, List.set_cons_succ, List.zip_cons_cons, List.zip_nil_left, List.foldl_cons, List.foldl_nil, Option.map_some, Option.bind_some, Option.map_none, Option.bind_none, Option.isSome_some, C.isVal, len_l, len_c, len_t, Nat.reduceAdd, Nat.reduceSub, Nat.reduceLeDiff, Nat.reduceEqDiff, Nat.zero_add, List.getElem?_nil, Option.isSome_none, it_seqc, it_seql, mkTup, allVal, slH_l]
  · simp only [r_others, fd_others, this, ev.eq_1, ev.eq_2, ev.eq_3, ev.eq_4, ev.eq_5, ev.eq_6, ev.eq_7, ev.eq_8, ev.eq_9, ev.eq_10, ev.eq_11, ev.eq_12, ev.eq_13, ev.eq_14, ev.eq_15, ev.eq_16, ev.eq_17, ev.eq_18, ev.eq_19, ev.eq_20, ev.eq_21, ev.eq_22, ev.eq_23, ev.eq_24, ev.eq_25, ev.eq_26, ev.eq_27, ev.eq_28, ev.eq_29, ev.eq_30, ev.eq_31, ev.eq_32, ev.eq_34, ev.eq_35, ev.eq_36, ev.eq_37, ev_cmp, evs, evP, evA, evAnd, evOr, evC, evS.eq_1, evS.eq_2, evS.eq_3, evS.eq_4, evS.eq_5, evS.eq_6, evS.eq_7, evS.eq_10, evS.eq_11, evS.eq_12, evS.eq_13, evS.eq_14, evS_for, evS_whl, evSs, rsv, runFd, start, bor, pur, purs, isVarB, smp, smps, b_ok, b_exc, o_some, h_val, h_tt, h_f, l_val, l_f, f_val, f_lst, f_tup, f_map, n_add, n_sub, lt_of_lt, c_le, c_gt, c_ge, eq_ii, ne_ii, t_bl, lstAt, modE, modC, setL, setF, endOf, outsOf, callC, ioPos, p_call, p_ios, p_glob, io0, io1, io2, io3, io4, io5, io6, io7, io8, io9, io10, io11, io12, io13, io14, io15, io16, io17, io18, io19, io20, io21, io22, io23, takeIo, putIo, hasBw, bindTg, binding, Tg.slots, wipeE, noexc, Bool.and_true, Bool.true_and, Bool.and_false, Bool.false_and, Bool.or_true, Bool.true_or, Bool.or_false, Bool.false_or, Bool.not_true, Bool.not_false, if_true, if_false, ite_true, ite_false, reduceIte, Bool.false_eq_true, List.length_cons, List.length_nil, List.map_cons, List.map_nil, List.replicate, List.append_nil, List.nil_append, List.cons_append, List.getElem?_cons_zero, List.getElem?_cons_succ, List.set_cons_zero, List.set_cons_succ, List.zip_cons_cons, List.zip_nil_left, List.foldl_cons, List.foldl_nil, Option.map_some, Option.bind_some, Option.map_none, Option.bind_none, Option.isSome_some, C.isVal, len_l, len_c, len_t, Nat.reduceAdd, Nat.reduceSub, Nat.reduceLeDiff, Nat.reduceEqDiff, Nat.zero_add, List.getElem?_nil, Option.isSome_none, it_seqc, it_seql, mkTup, allVal, slH_l]
theorem second_no (k : Nat) {d : D} (h : NoS d) (ps : Ps) (g : setOk 0 ps = true) : run pg (k + 5) 9 [.val (kd ps), .val d] = .exc 3 ∧ run pg (k + 5) 10 [.val (kd ps), .val d] = .exc 3 := by
  have := need_set_no k h
  have n1 := need_set_ok k ps g
  refine ⟨?_, ?_⟩
  · simp only [r_joined, fd_joined, n1, this, ev.eq_1, ev.eq_2, ev.eq_3, ev.eq_4, ev.eq_5, ev.eq_6, ev.eq_7, ev.eq_8, ev.eq_9, ev.eq_10, ev.eq_11, ev.eq_12, ev.eq_13, ev.eq_14, ev.eq_15, ev.eq_16, ev.eq_17, ev.eq_18, ev.eq_19, ev.eq_20, ev.eq_21, ev.eq_22, ev.eq_23, ev.eq_24, ev.eq_25, ev.eq_26, ev.eq_27, ev.eq_28, ev.eq_29, ev.eq_30, ev.eq_31, ev.eq_32, ev.eq_34, ev.eq_35, ev.eq_36, ev.eq_37, ev_cmp, evs, evP, evA, evAnd, evOr, evC, evS.eq_1, evS.eq_2, evS.eq_3, evS.eq_4, evS.eq_5, evS.eq_6, evS.eq_7, evS.eq_10, evS.eq_11, evS.eq_12, evS.eq_13, evS.eq_14, evS_for, evS_whl, evSs, rsv, runFd, start, bor, pur, purs, isVarB, smp, smps, b_ok, b_exc, o_some, h_val, h_tt, h_f, l_val, l_f, f_val, f_lst, f_tup, f_map, n_add, n_sub, lt_of_lt, c_le, c_gt, c_ge, eq_ii, ne_ii, t_bl, lstAt, modE, modC, setL, setF, endOf, outsOf, callC, ioPos, p_call, p_ios, p_glob, io0, io1, io2, io3, io4, io5, io6, io7, io8, io9, io10, io11, io12, io13, io14, io15, io16, io17, io18, io19, io20, io21, io22, io23, takeIo, putIo, hasBw, bindTg, binding, Tg.slots, wipeE, noexc, Bool.and_true, Bool.true_and, Bool.and_false, Bool.false_and, Bool.or_true, Bool.true_or, Bool.or_false, Bool.false_or, Bool.not_true, Bool.not_false, if_true, if_false, ite_true, ite_false, reduceIte, Bool.false_eq_true, List.length_cons, List.length_nil, List.map_cons, List.map_nil, List.replicate, List.append_nil, List.nil_append, List.cons_append, List.getElem?_cons_zero, List.getElem?_cons_succ, List.set_cons_zero, List.set_cons_succ, List.zip_cons_cons, List.zip_nil_left, List.foldl_cons, List.foldl_nil, Option.map_some, Option.bind_some, Option.map_none, Option.bind_none, Option.isSome_some, C.isVal, len_l, len_c, len_t, Nat.reduceAdd, Nat.reduceSub, Nat.reduceLeDiff, Nat.reduceEqDiff, Nat.zero_add, List.getElem?_nil, Option.isSome_none, it_seqc, it_seql, mkTup, allVal, slH_l]
  · simp only [r_met, fd_met, n1, this, ev.eq_1, ev.eq_2, ev.eq_3, ev.eq_4, ev.eq_5, ev.eq_6, ev.eq_7, ev.eq_8, ev.eq_9, ev.eq_10, ev.eq_11, ev.eq_12, ev.eq_13, ev.eq_14, ev.eq_15, ev.eq_16, ev.eq_17, ev.eq_18, ev.eq_19, ev.eq_20, ev.eq_21, ev.eq_22, ev.eq_23, ev.eq_24, ev.eq_25, ev.eq_26, ev.eq_27, ev.eq_28, ev.eq_29, ev.eq_30, ev.eq_31, ev.eq_32, ev.eq_34, ev.eq_35, ev.eq_36, ev.eq_37, ev_cmp, evs, evP, evA, evAnd, evOr, evC, evS.eq_1, evS.eq_2, evS.eq_3, evS.eq_4, evS.eq_5, evS.eq_6, evS.eq_7, evS.eq_10, evS.eq_11, evS.eq_12, evS.eq_13, evS.eq_14, evS_for, evS_whl, evSs, rsv, runFd, start, bor, pur, purs, isVarB, smp, smps, b_ok, b_exc, o_some, h_val, h_tt, h_f, l_val, l_f, f_val, f_lst, f_tup, f_map, n_add, n_sub, lt_of_lt, c_le, c_gt, c_ge, eq_ii, ne_ii, t_bl, lstAt, modE, modC, setL, setF, endOf, outsOf, callC, ioPos, p_call, p_ios, p_glob, io0, io1, io2, io3, io4, io5, io6, io7, io8, io9, io10, io11, io12, io13, io14, io15, io16, io17, io18, io19, io20, io21, io22, io23, takeIo, putIo, hasBw, bindTg, binding, Tg.slots, wipeE, noexc, Bool.and_true, Bool.true_and, Bool.and_false, Bool.false_and, Bool.or_true, Bool.true_or, Bool.or_false, Bool.false_or, Bool.not_true, Bool.not_false, if_true, if_false, ite_true, ite_false, reduceIte, Bool.false_eq_true, List.length_cons, List.length_nil, List.map_cons, List.map_nil, List.replicate, List.append_nil, List.nil_append, List.cons_append, List.getElem?_cons_zero, List.getElem?_cons_succ, List.set_cons_zero, List.set_cons_succ, List.zip_cons_cons, List.zip_nil_left, List.foldl_cons, List.foldl_nil, Option.map_some, Option.bind_some, Option.map_none, Option.bind_none, Option.isSome_some, C.isVal, len_l, len_c, len_t, Nat.reduceAdd, Nat.reduceSub, Nat.reduceLeDiff, Nat.reduceEqDiff, Nat.zero_add, List.getElem?_nil, Option.isSome_none, it_seqc, it_seql, mkTup, allVal, slH_l]
/-! ### the law's look -/
theorem is_ok (k : Nat) (f : Nat → Bool) (ps : Ps) (h : Is f ps) : run pg (k + 2) 21 [.val (kd ps), .val (.lst (FD f))] = .ok (.val (.bl true)) [] := by
  obtain ⟨qs, q1, q2, q3⟩ := law_set_ok k f
  have e := Is.uniq h ⟨q1, q2⟩
  subst e
  have hll : ps.length ≤ 48 := by have := set_len h.1 (by omega); omega
  have hc : compLoop (compB (pk (k + 1)) (.and [(.isi (.var 2) [.tuple]), (.not (.isi (.sub (.var 2) (.k (.int 0))) [.bool]))]) (.nm 2) []) (ps.map pr) [some (.val (kd ps)), some (.val (.lst (FD f))), none] = .ok ((ps.map pr).map fun _ => C.val (.bl true)) [some (.val (kd ps)), some (.val (.lst (FD f))), none] :=
    compLoop_map _ _ _ fun d hd => by
      obtain ⟨p, _, rfl⟩ := List.mem_map.mp hd
      simp only [compB, pr, isiT, C.top, tyD, ix0, ix0', ev.eq_1, ev.eq_2, ev.eq_3, ev.eq_4, ev.eq_5, ev.eq_6, ev.eq_7, ev.eq_8, ev.eq_9, ev.eq_10, ev.eq_11, ev.eq_12, ev.eq_13, ev.eq_14, ev.eq_15, ev.eq_16, ev.eq_17, ev.eq_18, ev.eq_19, ev.eq_20, ev.eq_21, ev.eq_22, ev.eq_23, ev.eq_24, ev.eq_25, ev.eq_26, ev.eq_27, ev.eq_28, ev.eq_29, ev.eq_30, ev.eq_31, ev.eq_32, ev.eq_34, ev.eq_35, ev.eq_36, ev.eq_37, ev_cmp, evs, evP, evA, evAnd, evOr, evC, evS.eq_1, evS.eq_2, evS.eq_3, evS.eq_4, evS.eq_5, evS.eq_6, evS.eq_7, evS.eq_10, evS.eq_11, evS.eq_12, evS.eq_13, evS.eq_14, evS_for, evS_whl, evSs, rsv, runFd, start, bor, pur, purs, isVarB, smp, smps, b_ok, b_exc, o_some, h_val, h_tt, h_f, l_val, l_f, f_val, f_lst, f_tup, f_map, n_add, n_sub, sub_l, sub_t, sub_c, lt_of_lt, c_le, c_gt, c_ge, eq_ii, ne_ii, t_bl, lstAt, modE, modC, setL, setF, endOf, outsOf, callC, ioPos, p_call, p_ios, p_glob, io0, io1, io2, io3, io4, io5, io6, io7, io8, io9, io10, io11, io12, io13, io14, io15, io16, io17, io18, io19, io20, io21, io22, io23, takeIo, putIo, hasBw, bindTg, binding, Tg.slots, wipeE, noexc, Bool.and_true, Bool.true_and, Bool.and_false, Bool.false_and, Bool.or_true, Bool.true_or, Bool.or_false, Bool.false_or, Bool.not_true, Bool.not_false, if_true, if_false, ite_true, ite_false, reduceIte, Bool.false_eq_true, List.length_cons, List.length_nil, List.map_cons, List.map_nil, List.replicate, List.append_nil, List.nil_append, List.cons_append, List.getElem?_cons_zero, List.getElem?_cons_succ, List.set_cons_zero, List.set_cons_succ, List.zip_cons_cons, List.zip_nil_left, List.foldl_cons, List.foldl_nil, Option.map_some, Option.bind_some, Option.map_none, Option.bind_none, Option.isSome_some, C.isVal, len_l, len_c, len_t, Nat.reduceAdd, Nat.reduceSub, Nat.reduceLeDiff, Nat.reduceEqDiff, Nat.zero_add, List.getElem?_nil, Option.isSome_none, it_seqc, it_seql, mkTup, allVal, slH_l]
  have hlm : (ps.map pr).length ≤ line := by rw [List.length_map]; show ps.length ≤ 16777216; omega
  have hne := ne_self (kd ps) (ps_plain ps) (Nat.succ_le_succ (deps_of 59 _ fun d m => by
    obtain ⟨p, _, rfl⟩ := List.mem_map.mp m
    show 1 ≤ 59
    decide))
  simp only [kd] at hc hne q3
  simp only [r_law_is, fd_law_is, isiT, C.top, tyD, kd, q3, hne, it_tup, hlm, hc, frz_mapf (fun _ : D => D.bl true), all_true, ev.eq_1, ev.eq_2, ev.eq_3, ev.eq_4, ev.eq_5, ev.eq_6, ev.eq_7, ev.eq_8, ev.eq_9, ev.eq_10, ev.eq_11, ev.eq_12, ev.eq_13, ev.eq_14, ev.eq_15, ev.eq_16, ev.eq_17, ev.eq_18, ev.eq_19, ev.eq_20, ev.eq_21, ev.eq_22, ev.eq_23, ev.eq_24, ev.eq_25, ev.eq_26, ev.eq_27, ev.eq_28, ev.eq_29, ev.eq_30, ev.eq_31, ev.eq_32, ev.eq_34, ev.eq_35, ev.eq_36, ev.eq_37, ev_cmp, evs, evP, evA, evAnd, evOr, evC, evS.eq_1, evS.eq_2, evS.eq_3, evS.eq_4, evS.eq_5, evS.eq_6, evS.eq_7, evS.eq_10, evS.eq_11, evS.eq_12, evS.eq_13, evS.eq_14, evS_for, evS_whl, evSs, rsv, runFd, start, bor, pur, purs, isVarB, smp, smps, b_ok, b_exc, o_some, h_val, h_tt, h_f, l_val, l_f, f_val, f_lst, f_tup, f_map, n_add, n_sub, lt_of_lt, c_le, c_gt, c_ge, eq_ii, ne_ii, t_bl, lstAt, modE, modC, setL, setF, endOf, outsOf, callC, ioPos, p_call, p_ios, p_glob, io0, io1, io2, io3, io4, io5, io6, io7, io8, io9, io10, io11, io12, io13, io14, io15, io16, io17, io18, io19, io20, io21, io22, io23, takeIo, putIo, hasBw, bindTg, binding, Tg.slots, wipeE, noexc, Bool.and_true, Bool.true_and, Bool.and_false, Bool.false_and, Bool.or_true, Bool.true_or, Bool.or_false, Bool.false_or, Bool.not_true, Bool.not_false, if_true, if_false, ite_true, ite_false, reduceIte, Bool.false_eq_true, List.length_cons, List.length_nil, List.map_cons, List.map_nil, List.replicate, List.append_nil, List.nil_append, List.cons_append, List.getElem?_cons_zero, List.getElem?_cons_succ, List.set_cons_zero, List.set_cons_succ, List.zip_cons_cons, List.zip_nil_left, List.foldl_cons, List.foldl_nil, Option.map_some, Option.bind_some, Option.map_none, Option.bind_none, Option.isSome_some, C.isVal, len_l, len_c, len_t, Nat.reduceAdd, Nat.reduceSub, Nat.reduceLeDiff, Nat.reduceEqDiff, Nat.zero_add, List.getElem?_nil, Option.isSome_none, it_seqc, it_seql, mkTup, allVal, slH_l]
theorem truth_ok (k : Nat) (a b : Bool) : run pg (k + 1) 19 [.val (.bl a), .val (.bl b)] = .ok (.val (.bl (a == b))) [] := by cases a <;> cases b <;> rfl
theorem cell_ok (k : Nat) (ns : List Int) (i : Nat) : run pg (k + 1) 12 [sc ns, .val (.int (i : Int))] = .ok (.val (.int (ns[i]?.getD 0))) [] := by
  by_cases h : i < ns.length
  · have d : decide ((i : Int) < (((ns.map D.int).length : Nat) : Int)) = true := decide_eq_true (by rw [List.length_map]; omega)
    have sb : subC (.val (.lst (ns.map D.int))) (.int (i : Int)) = some (.val (.int (ns[i]?.getD 0))) := by
      rw [sub_l, ix_nat _ _ (by rw [List.length_map]; exact h), Option.bind_some, List.getElem?_map, List.getElem?_eq_getElem h]
      rfl
    simp only [r_law_cell_at, fd_law_cell_at, d, sb, ev.eq_1, ev.eq_2, ev.eq_3, ev.eq_4, ev.eq_5, ev.eq_6, ev.eq_7, ev.eq_8, ev.eq_9, ev.eq_10, ev.eq_11, ev.eq_12, ev.eq_13, ev.eq_14, ev.eq_15, ev.eq_16, ev.eq_17, ev.eq_18, ev.eq_19, ev.eq_20, ev.eq_21, ev.eq_22, ev.eq_23, ev.eq_24, ev.eq_25, ev.eq_26, ev.eq_27, ev.eq_28, ev.eq_29, ev.eq_30, ev.eq_31, ev.eq_32, ev.eq_34, ev.eq_35, ev.eq_36, ev.eq_37, ev_cmp, evs, evP, evA, evAnd, evOr, evC, evS.eq_1, evS.eq_2, evS.eq_3, evS.eq_4, evS.eq_5, evS.eq_6, evS.eq_7, evS.eq_10, evS.eq_11, evS.eq_12, evS.eq_13, evS.eq_14, evS_for, evS_whl, evSs, rsv, runFd, start, bor, pur, purs, isVarB, smp, smps, b_ok, b_exc, o_some, h_val, h_tt, h_f, l_val, l_f, f_val, f_lst, f_tup, f_map, n_add, n_sub, lt_of_lt, c_le, c_gt, c_ge, eq_ii, ne_ii, t_bl, lstAt, modE, modC, setL, setF, endOf, outsOf, callC, ioPos, p_call, p_ios, p_glob, io0, io1, io2, io3, io4, io5, io6, io7, io8, io9, io10, io11, io12, io13, io14, io15, io16, io17, io18, io19, io20, io21, io22, io23, takeIo, putIo, hasBw, bindTg, binding, Tg.slots, wipeE, noexc, Bool.and_true, Bool.true_and, Bool.and_false, Bool.false_and, Bool.or_true, Bool.true_or, Bool.or_false, Bool.false_or, Bool.not_true, Bool.not_false, if_true, if_false, ite_true, ite_false, reduceIte, Bool.false_eq_true, List.length_cons, List.length_nil, List.map_cons, List.map_nil, List.replicate, List.append_nil, List.nil_append, List.cons_append, List.getElem?_cons_zero, List.getElem?_cons_succ, List.set_cons_zero, List.set_cons_succ, List.zip_cons_cons, List.zip_nil_left, List.foldl_cons, List.foldl_nil, Option.map_some, Option.bind_some, Option.map_none, Option.bind_none, Option.isSome_some, C.isVal, len_l, len_c, len_t, Nat.reduceAdd, Nat.reduceSub, Nat.reduceLeDiff, Nat.reduceEqDiff, Nat.zero_add, List.getElem?_nil, Option.isSome_none, it_seqc, it_seql, mkTup, allVal, slH_l]
  · have d : decide ((i : Int) < (((ns.map D.int).length : Nat) : Int)) = false := decide_eq_false (by rw [List.length_map]; omega)
    rw [List.getElem?_eq_none (by omega)]
    simp only [r_law_cell_at, fd_law_cell_at, d, ev.eq_1, ev.eq_2, ev.eq_3, ev.eq_4, ev.eq_5, ev.eq_6, ev.eq_7, ev.eq_8, ev.eq_9, ev.eq_10, ev.eq_11, ev.eq_12, ev.eq_13, ev.eq_14, ev.eq_15, ev.eq_16, ev.eq_17, ev.eq_18, ev.eq_19, ev.eq_20, ev.eq_21, ev.eq_22, ev.eq_23, ev.eq_24, ev.eq_25, ev.eq_26, ev.eq_27, ev.eq_28, ev.eq_29, ev.eq_30, ev.eq_31, ev.eq_32, ev.eq_34, ev.eq_35, ev.eq_36, ev.eq_37, ev_cmp, evs, evP, evA, evAnd, evOr, evC, evS.eq_1, evS.eq_2, evS.eq_3, evS.eq_4, evS.eq_5, evS.eq_6, evS.eq_7, evS.eq_10, evS.eq_11, evS.eq_12, evS.eq_13, evS.eq_14, evS_for, evS_whl, evSs, rsv, runFd, start, bor, pur, purs, isVarB, smp, smps, b_ok, b_exc, o_some, h_val, h_tt, h_f, l_val, l_f, f_val, f_lst, f_tup, f_map, n_add, n_sub, lt_of_lt, c_le, c_gt, c_ge, eq_ii, ne_ii, t_bl, lstAt, modE, modC, setL, setF, endOf, outsOf, callC, ioPos, p_call, p_ios, p_glob, io0, io1, io2, io3, io4, io5, io6, io7, io8, io9, io10, io11, io12, io13, io14, io15, io16, io17, io18, io19, io20, io21, io22, io23, takeIo, putIo, hasBw, bindTg, binding, Tg.slots, wipeE, noexc, Bool.and_true, Bool.true_and, Bool.and_false, Bool.false_and, Bool.or_true, Bool.true_or, Bool.or_false, Bool.false_or, Bool.not_true, Bool.not_false, if_true, if_false, ite_true, ite_false, reduceIte, Bool.false_eq_true, List.length_cons, List.length_nil, List.map_cons, List.map_nil, List.replicate, List.append_nil, List.nil_append, List.cons_append, List.getElem?_cons_zero, List.getElem?_cons_succ, List.set_cons_zero, List.set_cons_succ, List.zip_cons_cons, List.zip_nil_left, List.foldl_cons, List.foldl_nil, Option.map_some, Option.bind_some, Option.map_none, Option.bind_none, Option.isSome_some, C.isVal, len_l, len_c, len_t, Nat.reduceAdd, Nat.reduceSub, Nat.reduceLeDiff, Nat.reduceEqDiff, Nat.zero_add, List.getElem?_nil, Option.isSome_none, it_seqc, it_seql, mkTup, allVal, slH_l]
    rfl
theorem signs_ok (k : Nat) : run pg (k + 1) 13 [] = .ok (.val (.str SG)) [] := rfl
end K01
namespace K01
open Mi
/-! ### the law's flags -/
theorem min_ii (i j : Int) : biC .min [.val (.int i), .val (.int j)] = some (.val (.int (if j < i then j else i))) := rfl
theorem fill_ok (P : Pr) (a o3 o4 : Option C) (d : Int) (lo : Nat) (b : Bool) (hd : decide (d < 4) = b) : ∀ (n : Nat) (f : Nat → Bool) (o5 : Option C), lo + n ≤ 96 → ∃ f' o5', forLoop (forB P (.nm 5) lb_law_flags_1) (rangeD (lo : Int) n) [a, some (.val (.int d)), some (FC f), o3, o4, o5] = .ok .nx [a, some (.val (.int d)), some (FC f'), o3, o4, o5'] := by
  intro n
  induction n generalizing lo with
  | zero => intro f o5 _; exact ⟨f, o5, rfl⟩
  | succ n ih =>
    intro f o5 h
    obtain ⟨f', o5', g⟩ := ih (lo + 1) (upd f lo b) (some (.val (.int (lo : Int)))) (by omega)
    refine ⟨f', o5', ?_⟩
    rw [rangeD]
    have hx := FC_ix f lo (by omega)
    have hs := FD_set f lo b (by omega)
    refine (fl_nx (e' := [a, some (.val (.int d)), some (FC (upd f lo b)), o3, o4, some (.val (.int (lo : Int)))]) ?_).trans ?_
    · simp only [lb_law_flags_1, FC, hx, hd, hs, ev.eq_1, ev.eq_2, ev.eq_3, ev.eq_4, ev.eq_5, ev.eq_6, ev.eq_7, ev.eq_8, ev.eq_9, ev.eq_10, ev.eq_11, ev.eq_12, ev.eq_13, ev.eq_14, ev.eq_15, ev.eq_16, ev.eq_17, ev.eq_18, ev.eq_19, ev.eq_20, ev.eq_21, ev.eq_22, ev.eq_23, ev.eq_24, ev.eq_25, ev.eq_26, ev.eq_27, ev.eq_28, ev.eq_29, ev.eq_30, ev.eq_31, ev.eq_32, ev.eq_34, ev.eq_35, ev.eq_36, ev.eq_37, ev_cmp, evs, evP, evA, evAnd, evOr, evC, evS.eq_1, evS.eq_2, evS.eq_3, evS.eq_4, evS.eq_5, evS.eq_6, evS.eq_7, evS.eq_10, evS.eq_11, evS.eq_12, evS.eq_13, evS.eq_14, evS_for, evS_whl, evSs, rsv, runFd, start, bor, pur, purs, isVarB, smp, smps, b_ok, b_exc, o_some, h_val, h_tt, h_f, l_val, l_f, f_val, f_lst, f_tup, f_map, n_add, n_sub, lt_of_lt, c_le, c_gt, c_ge, eq_ii, ne_ii, t_bl, lstAt, modE, modC, setL, setF, endOf, outsOf, callC, ioPos, p_call, p_ios, p_glob, io0, io1, io2, io3, io4, io5, io6, io7, io8, io9, io10, io11, io12, io13, io14, io15, io16, io17, io18, io19, io20, io21, io22, io23, takeIo, putIo, hasBw, bindTg, binding, Tg.slots, wipeE, noexc, Bool.and_true, Bool.true_and, Bool.and_false, Bool.false_and, Bool.or_true, Bool.true_or, Bool.or_false, Bool.false_or, Bool.not_true, Bool.not_false, if_true, if_false, ite_true, ite_false, reduceIte, Bool.false_eq_true, List.length_cons, List.length_nil, List.map_cons, List.map_nil, List.replicate, List.append_nil, List.nil_append, List.cons_append, List.getElem?_cons_zero, List.getElem?_cons_succ, List.set_cons_zero, List.set_cons_succ, List.zip_cons_cons, List.zip_nil_left, List.foldl_cons, List.foldl_nil, Option.map_some, Option.bind_some, Option.map_none, Option.bind_none, Option.isSome_some, C.isVal, len_l, len_c, len_t, Nat.reduceAdd, Nat.reduceSub, Nat.reduceLeDiff, Nat.reduceEqDiff, Nat.zero_add, List.getElem?_nil, Option.isSome_none, it_seqc, it_seql, mkTup, allVal, slH_l]
    · rw [show (lo : Int) + 1 = ((lo + 1 : Nat) : Int) by omega]
      exact g
theorem cell_turn (P : Pr) (a : Option C) (kd' : Nat) (hk : kd' < 5) (f : Nat → Bool) (z : Int) (o4 o5 : Option C) : ∃ f' o4' o5', evSs P lb_law_flags_0 [a, some (.val (.int (kd' : Int))), some (FC f), some (.val (.int z)), o4, o5] = .ok .nx [a, some (.val (.int (kd' : Int))), some (FC f'), some (.val (.int z)), o4', o5'] := by
  have d4 := n_fdiv z 4 (by decide)
  have d16 := n_fdiv z 16 (by decide)
  have m96 := n_mod (z / 4) 96 (by decide)
  have m3 := n_mod (z / 4) 3 (by decide)
  have m4 := n_mod z 4 (by decide)
  obtain ⟨lo, hl, hs⟩ : ∃ lo : Nat, lo ≤ 95 ∧ subC (.val (.lst [.int (z / 4 % 96), .int (z / 4 % 96), .int 0, .int (95 - z / 4 % 3)])) (.int (z % 4)) = some (.val (.int (lo : Int))) := by
    have h1 := Int.emod_nonneg (z / 4) (show (96 : Int) ≠ 0 by decide)
    have h2 := Int.emod_lt_of_pos (z / 4) (show (0 : Int) < 96 by decide)
    have h3 := Int.emod_nonneg (z / 4) (show (3 : Int) ≠ 0 by decide)
    have h4 := Int.emod_lt_of_pos (z / 4) (show (0 : Int) < 3 by decide)
    generalize z / 4 % 96 = u at *
    generalize z / 4 % 3 = v at *
    have : z % 4 = 0 ∨ z % 4 = 1 ∨ z % 4 = 2 ∨ z % 4 = 3 := by omega
    rcases this with e | e | e | e <;> rw [e]
    · exact ⟨u.toNat, by omega, by rw [show ((u.toNat : Nat) : Int) = u by omega]; rfl⟩
    · exact ⟨u.toNat, by omega, by rw [show ((u.toNat : Nat) : Int) = u by omega]; rfl⟩
    · exact ⟨0, by omega, rfl⟩
    · exact ⟨(95 - v).toNat, by omega, by rw [show (((95 - v).toNat : Nat) : Int) = 95 - v by omega]; rfl⟩
  obtain ⟨m, hm, hms⟩ : ∃ m : Int, 0 < m ∧ subC (.val (.lst [.int 1, .int 3, .int 9, .int 40, .int 5])) (.int (kd' : Int)) = some (.val (.int m)) := by
    have : kd' = 0 ∨ kd' = 1 ∨ kd' = 2 ∨ kd' = 3 ∨ kd' = 4 := by omega
    rcases this with e | e | e | e | e <;> subst e
    · exact ⟨1, by decide, rfl⟩
    · exact ⟨3, by decide, rfl⟩
    · exact ⟨9, by decide, rfl⟩
    · exact ⟨40, by decide, rfl⟩
    · exact ⟨5, by decide, rfl⟩
  have mm := n_mod (z / 16) m hm
  have v0 := Int.emod_nonneg (z / 16) (show m ≠ 0 by omega)
  generalize z / 16 % m = v at *
  obtain ⟨n, hn, hb⟩ : ∃ n : Nat, (if (lo : Int) + 1 + v < 96 then (lo : Int) + 1 + v else 96) = ((lo + n : Nat) : Int) ∧ lo + n ≤ 96 := by
    by_cases h : (lo : Int) + 1 + v < 96
    · exact ⟨(1 + v).toNat, by rw [if_pos h]; omega, by omega⟩
    · exact ⟨96 - lo, by rw [if_neg h]; omega, by omega⟩
  obtain ⟨f', o5', g⟩ := fill_ok P a (some (.val (.int z))) (some (.val (.int (lo : Int)))) (kd' : Int) lo _ rfl n f o5 hb
  refine ⟨f', some (.val (.int (lo : Int))), o5', ?_⟩
  have e1 : evS P (.asg true (.nm 4) (.sub (.lst [(.bin .mod (.bin .fdiv (.var 3) (.k (.int 4))) (.k (.int 96))), (.bin .mod (.bin .fdiv (.var 3) (.k (.int 4))) (.k (.int 96))), (.k (.int 0)), (.bin .sub (.k (.int 95)) (.bin .mod (.bin .fdiv (.var 3) (.k (.int 4))) (.k (.int 3))))]) (.bin .mod (.var 3) (.k (.int 4))))) [a, some (.val (.int (kd' : Int))), some (FC f), some (.val (.int z)), o4, o5] = .ok .nx [a, some (.val (.int (kd' : Int))), some (FC f), some (.val (.int z)), some (.val (.int (lo : Int))), o5] := by
    simp only [C.frzs, d4, m96, m3, m4, hs, ev.eq_1, ev.eq_2, ev.eq_3, ev.eq_4, ev.eq_5, ev.eq_6, ev.eq_7, ev.eq_8, ev.eq_9, ev.eq_10, ev.eq_11, ev.eq_12, ev.eq_13, ev.eq_14, ev.eq_15, ev.eq_16, ev.eq_17, ev.eq_18, ev.eq_19, ev.eq_20, ev.eq_21, ev.eq_22, ev.eq_23, ev.eq_24, ev.eq_25, ev.eq_26, ev.eq_27, ev.eq_28, ev.eq_29, ev.eq_30, ev.eq_31, ev.eq_32, ev.eq_34, ev.eq_35, ev.eq_36, ev.eq_37, ev_cmp, evs, evP, evA, evAnd, evOr, evC, evS.eq_1, evS.eq_2, evS.eq_3, evS.eq_4, evS.eq_5, evS.eq_6, evS.eq_7, evS.eq_10, evS.eq_11, evS.eq_12, evS.eq_13, evS.eq_14, evS_for, evS_whl, evSs, rsv, runFd, start, bor, pur, purs, isVarB, smp, smps, b_ok, b_exc, o_some, h_val, h_tt, h_f, l_val, l_f, f_val, f_lst, f_tup, f_map, n_add, n_sub, lt_of_lt, c_le, c_gt, c_ge, eq_ii, ne_ii, t_bl, lstAt, modE, modC, setL, setF, endOf, outsOf, callC, ioPos, p_call, p_ios, p_glob, io0, io1, io2, io3, io4, io5, io6, io7, io8, io9, io10, io11, io12, io13, io14, io15, io16, io17, io18, io19, io20, io21, io22, io23, takeIo, putIo, hasBw, bindTg, binding, Tg.slots, wipeE, noexc, Bool.and_true, Bool.true_and, Bool.and_false, Bool.false_and, Bool.or_true, Bool.true_or, Bool.or_false, Bool.false_or, Bool.not_true, Bool.not_false, if_true, if_false, ite_true, ite_false, reduceIte, Bool.false_eq_true, List.length_cons, List.length_nil, List.map_cons, List.map_nil, List.replicate, List.append_nil, List.nil_append, List.cons_append, List.getElem?_cons_zero, List.getElem?_cons_succ, List.set_cons_zero, List.set_cons_succ, List.zip_cons_cons, List.zip_nil_left, List.foldl_cons, List.foldl_nil, Option.map_some, Option.bind_some, Option.map_none, Option.bind_none, Option.isSome_some, C.isVal, len_l, len_c, len_t, Nat.reduceAdd, Nat.reduceSub, Nat.reduceLeDiff, Nat.reduceEqDiff, Nat.zero_add, List.getElem?_nil, Option.isSome_none, it_seqc, it_seql, mkTup, allVal, slH_l]
  have he : evs P [(.var 4), (.bi .min [(.k (.int 96)), (.bin .add (.bin .add (.var 4) (.k (.int 1))) (.bin .mod (.bin .fdiv (.var 3) (.k (.int 16))) (.sub (.lst [(.k (.int 1)), (.k (.int 3)), (.k (.int 9)), (.k (.int 40)), (.k (.int 5))]) (.var 1))))])] [a, some (.val (.int (kd' : Int))), some (FC f), some (.val (.int z)), some (.val (.int (lo : Int))), o5] = .ok [.val (.int (lo : Int)), .val (.int ((lo + n : Nat) : Int))] [a, some (.val (.int (kd' : Int))), some (FC f), some (.val (.int z)), some (.val (.int (lo : Int))), o5] := by
    simp only [C.frzs, d16, hms, mm, min_ii, hn, ev.eq_1, ev.eq_2, ev.eq_3, ev.eq_4, ev.eq_5, ev.eq_6, ev.eq_7, ev.eq_8, ev.eq_9, ev.eq_10, ev.eq_11, ev.eq_12, ev.eq_13, ev.eq_14, ev.eq_15, ev.eq_16, ev.eq_17, ev.eq_18, ev.eq_19, ev.eq_20, ev.eq_21, ev.eq_22, ev.eq_23, ev.eq_24, ev.eq_25, ev.eq_26, ev.eq_27, ev.eq_28, ev.eq_29, ev.eq_30, ev.eq_31, ev.eq_32, ev.eq_34, ev.eq_35, ev.eq_36, ev.eq_37, ev_cmp, evs, evP, evA, evAnd, evOr, evC, evS.eq_1, evS.eq_2, evS.eq_3, evS.eq_4, evS.eq_5, evS.eq_6, evS.eq_7, evS.eq_10, evS.eq_11, evS.eq_12, evS.eq_13, evS.eq_14, evS_for, evS_whl, evSs, rsv, runFd, start, bor, pur, purs, isVarB, smp, smps, b_ok, b_exc, o_some, h_val, h_tt, h_f, l_val, l_f, f_val, f_lst, f_tup, f_map, n_add, n_sub, lt_of_lt, c_le, c_gt, c_ge, eq_ii, ne_ii, t_bl, lstAt, modE, modC, setL, setF, endOf, outsOf, callC, ioPos, p_call, p_ios, p_glob, io0, io1, io2, io3, io4, io5, io6, io7, io8, io9, io10, io11, io12, io13, io14, io15, io16, io17, io18, io19, io20, io21, io22, io23, takeIo, putIo, hasBw, bindTg, binding, Tg.slots, wipeE, noexc, Bool.and_true, Bool.true_and, Bool.and_false, Bool.false_and, Bool.or_true, Bool.true_or, Bool.or_false, Bool.false_or, Bool.not_true, Bool.not_false, if_true, if_false, ite_true, ite_false, reduceIte, Bool.false_eq_true, List.length_cons, List.length_nil, List.map_cons, List.map_nil, List.replicate, List.append_nil, List.nil_append, List.cons_append, List.getElem?_cons_zero, List.getElem?_cons_succ, List.set_cons_zero, List.set_cons_succ, List.zip_cons_cons, List.zip_nil_left, List.foldl_cons, List.foldl_nil, Option.map_some, Option.bind_some, Option.map_none, Option.bind_none, Option.isSome_some, C.isVal, len_l, len_c, len_t, Nat.reduceAdd, Nat.reduceSub, Nat.reduceLeDiff, Nat.reduceEqDiff, Nat.zero_add, List.getElem?_nil, Option.isSome_none, it_seqc, it_seql, mkTup, allVal, slH_l]
  have hr := it_rng2 (lo : Int) ((lo + n : Nat) : Int) ⟨by omega, by omega⟩ ⟨by omega, by omega⟩
  rw [show (((lo + n : Nat) : Int) - (lo : Int)).toNat = n by omega] at hr
  refine (q_nx e1).trans <| (q_nx (e' := [a, some (.val (.int (kd' : Int))), some (FC f'), some (.val (.int z)), some (.val (.int (lo : Int))), o5']) ?_).trans rfl
  rw [evS_for, he, b_ok, hr]
  exact g
theorem cell_turns (P : Pr) (a : Option C) (kd' : Nat) (hk : kd' < 5) : ∀ (zs : List Int) (f : Nat → Bool) (o3 o4 o5 : Option C), ∃ f' o3' o4' o5', forLoop (forB P (.nm 3) lb_law_flags_0) (zs.map .int) [a, some (.val (.int (kd' : Int))), some (FC f), o3, o4, o5] = .ok .nx [a, some (.val (.int (kd' : Int))), some (FC f'), o3', o4', o5']
  | [], f, o3, o4, o5 => ⟨f, o3, o4, o5, rfl⟩
  | z :: r, f, o3, o4, o5 => by
    obtain ⟨f1, p4, p5, h⟩ := cell_turn P a kd' hk f z o4 o5
    obtain ⟨f', o3', o4', o5', g⟩ := cell_turns P a kd' hk r f1 (some (.val (.int z))) p4 p5
    exact ⟨f', o3', o4', o5', (fl_nx h).trans g⟩
theorem flags_ok (k : Nat) (c : Int) (r : List Int) : ∃ f, run pg (k + 1) 14 [sc (c :: r)] = .ok (FC f) [] := by
  have m5 := n_mod c 5 (by decide)
  have h0 := Int.emod_nonneg c (show (5 : Int) ≠ 0 by decide)
  have h1 := Int.emod_lt_of_pos c (show (0 : Int) < 5 by decide)
  obtain ⟨kd', hk, hk5⟩ : ∃ n : Nat, c % 5 = (n : Int) ∧ n < 5 := ⟨(c % 5).toNat, by omega, by omega⟩
  rw [hk] at m5
  have d5 := n_fdiv c 5 (by decide)
  have m7 := n_mod (c / 5) 7 (by decide)
  have sb : subC (.val (.lst (D.int c :: r.map D.int))) (.int 0) = some (.val (.int c)) := by
    rw [sub_l, ix_of (by omega) (by rw [List.length_cons]; omega)]
    rfl
  have sl : sliceC (.val (.lst (D.int c :: r.map D.int))) (some (1 : Int)) (some (1 + c / 5 % 7)) = some (.lst (((cut (c :: r) (some (1 : Int)) (some (1 + c / 5 % 7))).map D.int).map .val)) := by
    rw [← cut_map, List.map_cons]
    rfl
  have mF := mul_FD ((kd' : Int) == 4)
  obtain ⟨f', o3', o4', o5', g⟩ := cell_turns (pk k) (some (sc (c :: r))) kd' hk5 (cut (c :: r) (some (1 : Int)) (some (1 + c / 5 % 7))) (fun _ => (kd' : Int) == 4) none none none
  refine ⟨f', ?_⟩
  rw [r_law_flags]
  have e0 : evS (pk k) fs_law_flags_0 [some (sc (c :: r)), none, none, none, none, none] = .ok .nx [some (sc (c :: r)), some (.val (.int (kd' : Int))), none, none, none, none] := by
    simp only [fs_law_flags_0, sc, List.map_cons, sb, m5, ev.eq_1, ev.eq_2, ev.eq_3, ev.eq_4, ev.eq_5, ev.eq_6, ev.eq_7, ev.eq_8, ev.eq_9, ev.eq_10, ev.eq_11, ev.eq_12, ev.eq_13, ev.eq_14, ev.eq_15, ev.eq_16, ev.eq_17, ev.eq_18, ev.eq_19, ev.eq_20, ev.eq_21, ev.eq_22, ev.eq_23, ev.eq_24, ev.eq_25, ev.eq_26, ev.eq_27, ev.eq_28, ev.eq_29, ev.eq_30, ev.eq_31, ev.eq_32, ev.eq_34, ev.eq_35, ev.eq_36, ev.eq_37, ev_cmp, evs, evP, evA, evAnd, evOr, evC, evS.eq_1, evS.eq_2, evS.eq_3, evS.eq_4, evS.eq_5, evS.eq_6, evS.eq_7, evS.eq_10, evS.eq_11, evS.eq_12, evS.eq_13, evS.eq_14, evS_for, evS_whl, evSs, rsv, runFd, start, bor, pur, purs, isVarB, smp, smps, b_ok, b_exc, o_some, h_val, h_tt, h_f, l_val, l_f, f_val, f_lst, f_tup, f_map, n_add, n_sub, lt_of_lt, c_le, c_gt, c_ge, eq_ii, ne_ii, t_bl, lstAt, modE, modC, setL, setF, endOf, outsOf, callC, ioPos, p_call, p_ios, p_glob, io0, io1, io2, io3, io4, io5, io6, io7, io8, io9, io10, io11, io12, io13, io14, io15, io16, io17, io18, io19, io20, io21, io22, io23, takeIo, putIo, hasBw, bindTg, binding, Tg.slots, wipeE, noexc, Bool.and_true, Bool.true_and, Bool.and_false, Bool.false_and, Bool.or_true, Bool.true_or, Bool.or_false, Bool.false_or, Bool.not_true, Bool.not_false, if_true, if_false, ite_true, ite_false, reduceIte, Bool.false_eq_true, List.length_cons, List.length_nil, List.map_cons, List.map_nil, List.replicate, List.append_nil, List.nil_append, List.cons_append, List.getElem?_cons_zero, List.getElem?_cons_succ, List.set_cons_zero, List.set_cons_succ, List.zip_cons_cons, List.zip_nil_left, List.foldl_cons, List.foldl_nil, Option.map_some, Option.bind_some, Option.map_none, Option.bind_none, Option.isSome_some, C.isVal, len_l, len_c, len_t, Nat.reduceAdd, Nat.reduceSub, Nat.reduceLeDiff, Nat.reduceEqDiff, Nat.zero_add, List.getElem?_nil, Option.isSome_none, it_seqc, it_seql, mkTup, allVal, slH_l]
  have e1 : evS (pk k) fs_law_flags_1 [some (sc (c :: r)), some (.val (.int (kd' : Int))), none, none, none, none] = .ok .nx [some (sc (c :: r)), some (.val (.int (kd' : Int))), some (FC fun _ => (kd' : Int) == 4), none, none, none] := by
    simp only [fs_law_flags_1, C.frzs, mF, ev.eq_1, ev.eq_2, ev.eq_3, ev.eq_4, ev.eq_5, ev.eq_6, ev.eq_7, ev.eq_8, ev.eq_9, ev.eq_10, ev.eq_11, ev.eq_12, ev.eq_13, ev.eq_14, ev.eq_15, ev.eq_16, ev.eq_17, ev.eq_18, ev.eq_19, ev.eq_20, ev.eq_21, ev.eq_22, ev.eq_23, ev.eq_24, ev.eq_25, ev.eq_26, ev.eq_27, ev.eq_28, ev.eq_29, ev.eq_30, ev.eq_31, ev.eq_32, ev.eq_34, ev.eq_35, ev.eq_36, ev.eq_37, ev_cmp, evs, evP, evA, evAnd, evOr, evC, evS.eq_1, evS.eq_2, evS.eq_3, evS.eq_4, evS.eq_5, evS.eq_6, evS.eq_7, evS.eq_10, evS.eq_11, evS.eq_12, evS.eq_13, evS.eq_14, evS_for, evS_whl, evSs, rsv, runFd, start, bor, pur, purs, isVarB, smp, smps, b_ok, b_exc, o_some, h_val, h_tt, h_f, l_val, l_f, f_val, f_lst, f_tup, f_map, n_add, n_sub, lt_of_lt, c_le, c_gt, c_ge, eq_ii, ne_ii, t_bl, lstAt, modE, modC, setL, setF, endOf, outsOf, callC, ioPos, p_call, p_ios, p_glob, io0, io1, io2, io3, io4, io5, io6, io7, io8, io9, io10, io11, io12, io13, io14, io15, io16, io17, io18, io19, io20, io21, io22, io23, takeIo, putIo, hasBw, bindTg, binding, Tg.slots, wipeE, noexc, Bool.and_true, Bool.true_and, Bool.and_false, Bool.false_and, Bool.or_true, Bool.true_or, Bool.or_false, Bool.false_or, Bool.not_true, Bool.not_false, if_true, if_false, ite_true, ite_false, reduceIte, Bool.false_eq_true, List.length_cons, List.length_nil, List.map_cons, List.map_nil, List.replicate, List.append_nil, List.nil_append, List.cons_append, List.getElem?_cons_zero, List.getElem?_cons_succ, List.set_cons_zero, List.set_cons_succ, List.zip_cons_cons, List.zip_nil_left, List.foldl_cons, List.foldl_nil, Option.map_some, Option.bind_some, Option.map_none, Option.bind_none, Option.isSome_some, C.isVal, len_l, len_c, len_t, Nat.reduceAdd, Nat.reduceSub, Nat.reduceLeDiff, Nat.reduceEqDiff, Nat.zero_add, List.getElem?_nil, Option.isSome_none, it_seqc, it_seql, mkTup, allVal, slH_l]
  have e2 : evS (pk k) fs_law_flags_2 [some (sc (c :: r)), some (.val (.int (kd' : Int))), some (FC fun _ => (kd' : Int) == 4), none, none, none] = .ok .nx [some (sc (c :: r)), some (.val (.int (kd' : Int))), some (FC f'), o3', o4', o5'] := by
    have he : evs (pk k) [(.slB (.var 0) (.k (.int 1)) (.bin .add (.k (.int 1)) (.bin .mod (.bin .fdiv (.sub (.var 0) (.k (.int 0))) (.k (.int 5))) (.k (.int 7)))))] [some (sc (c :: r)), some (.val (.int (kd' : Int))), some (FC fun _ => (kd' : Int) == 4), none, none, none] = .ok [.lst (((cut (c :: r) (some (1 : Int)) (some (1 + c / 5 % 7))).map D.int).map .val)] [some (sc (c :: r)), some (.val (.int (kd' : Int))), some (FC fun _ => (kd' : Int) == 4), none, none, none] := by
      simp only [sc, List.map_cons, sb, d5, m7, sl, ev.eq_1, ev.eq_2, ev.eq_3, ev.eq_4, ev.eq_5, ev.eq_6, ev.eq_7, ev.eq_8, ev.eq_9, ev.eq_10, ev.eq_11, ev.eq_12, ev.eq_13, ev.eq_14, ev.eq_15, ev.eq_16, ev.eq_17, ev.eq_18, ev.eq_19, ev.eq_20, ev.eq_21, ev.eq_22, ev.eq_23, ev.eq_24, ev.eq_25, ev.eq_26, ev.eq_27, ev.eq_28, ev.eq_29, ev.eq_30, ev.eq_31, ev.eq_32, ev.eq_34, ev.eq_35, ev.eq_36, ev.eq_37, ev_cmp, evs, evP, evA, evAnd, evOr, evC, evS.eq_1, evS.eq_2, evS.eq_3, evS.eq_4, evS.eq_5, evS.eq_6, evS.eq_7, evS.eq_10, evS.eq_11, evS.eq_12, evS.eq_13, evS.eq_14, evS_for, evS_whl, evSs, rsv, runFd, start, bor, pur, purs, isVarB, smp, smps, b_ok, b_exc, o_some, h_val, h_tt, h_f, l_val, l_f, f_val, f_lst, f_tup, f_map, n_add, n_sub, lt_of_lt, c_le, c_gt, c_ge, eq_ii, ne_ii, t_bl, lstAt, modE, modC, setL, setF, endOf, outsOf, callC, ioPos, p_call, p_ios, p_glob, io0, io1, io2, io3, io4, io5, io6, io7, io8, io9, io10, io11, io12, io13, io14, io15, io16, io17, io18, io19, io20, io21, io22, io23, takeIo, putIo, hasBw, bindTg, binding, Tg.slots, wipeE, noexc, Bool.and_true, Bool.true_and, Bool.and_false, Bool.false_and, Bool.or_true, Bool.true_or, Bool.or_false, Bool.false_or, Bool.not_true, Bool.not_false, if_true, if_false, ite_true, ite_false, reduceIte, Bool.false_eq_true, List.length_cons, List.length_nil, List.map_cons, List.map_nil, List.replicate, List.append_nil, List.nil_append, List.cons_append, List.getElem?_cons_zero, List.getElem?_cons_succ, List.set_cons_zero, List.set_cons_succ, List.zip_cons_cons, List.zip_nil_left, List.foldl_cons, List.foldl_nil, Option.map_some, Option.bind_some, Option.map_none, Option.bind_none, Option.isSome_some, C.isVal, len_l, len_c, len_t, Nat.reduceAdd, Nat.reduceSub, Nat.reduceLeDiff, Nat.reduceEqDiff, Nat.zero_add, List.getElem?_nil, Option.isSome_none, it_seqc, it_seql, mkTup, allVal, slH_l]
    rw [fs_law_flags_2, evS_for, he, b_ok, it_seqc]
    exact g
  have e3 : evS (pk k) fs_law_flags_3 [some (sc (c :: r)), some (.val (.int (kd' : Int))), some (FC f'), o3', o4', o5'] = .ok (.rt (FC f')) [some (sc (c :: r)), some (.val (.int (kd' : Int))), none, o3', o4', o5'] := by
    simp only [fs_law_flags_3, FC, leak, ev.eq_1, ev.eq_2, ev.eq_3, ev.eq_4, ev.eq_5, ev.eq_6, ev.eq_7, ev.eq_8, ev.eq_9, ev.eq_10, ev.eq_11, ev.eq_12, ev.eq_13, ev.eq_14, ev.eq_15, ev.eq_16, ev.eq_17, ev.eq_18, ev.eq_19, ev.eq_20, ev.eq_21, ev.eq_22, ev.eq_23, ev.eq_24, ev.eq_25, ev.eq_26, ev.eq_27, ev.eq_28, ev.eq_29, ev.eq_30, ev.eq_31, ev.eq_32, ev.eq_34, ev.eq_35, ev.eq_36, ev.eq_37, ev_cmp, evs, evP, evA, evAnd, evOr, evC, evS.eq_1, evS.eq_2, evS.eq_3, evS.eq_4, evS.eq_5, evS.eq_6, evS.eq_7, evS.eq_10, evS.eq_11, evS.eq_12, evS.eq_13, evS.eq_14, evS_for, evS_whl, evSs, rsv, runFd, start, bor, pur, purs, isVarB, smp, smps, b_ok, b_exc, o_some, h_val, h_tt, h_f, l_val, l_f, f_val, f_lst, f_tup, f_map, n_add, n_sub, lt_of_lt, c_le, c_gt, c_ge, eq_ii, ne_ii, t_bl, lstAt, modE, modC, setL, setF, endOf, outsOf, callC, ioPos, p_call, p_ios, p_glob, io0, io1, io2, io3, io4, io5, io6, io7, io8, io9, io10, io11, io12, io13, io14, io15, io16, io17, io18, io19, io20, io21, io22, io23, takeIo, putIo, hasBw, bindTg, binding, Tg.slots, wipeE, noexc, Bool.and_true, Bool.true_and, Bool.and_false, Bool.false_and, Bool.or_true, Bool.true_or, Bool.or_false, Bool.false_or, Bool.not_true, Bool.not_false, if_true, if_false, ite_true, ite_false, reduceIte, Bool.false_eq_true, List.length_cons, List.length_nil, List.map_cons, List.map_nil, List.replicate, List.append_nil, List.nil_append, List.cons_append, List.getElem?_cons_zero, List.getElem?_cons_succ, List.set_cons_zero, List.set_cons_succ, List.zip_cons_cons, List.zip_nil_left, List.foldl_cons, List.foldl_nil, Option.map_some, Option.bind_some, Option.map_none, Option.bind_none, Option.isSome_some, C.isVal, len_l, len_c, len_t, Nat.reduceAdd, Nat.reduceSub, Nat.reduceLeDiff, Nat.reduceEqDiff, Nat.zero_add, List.getElem?_nil, Option.isSome_none, it_seqc, it_seql, mkTup, allVal, slH_l]
  exact rt_ios rfl ((q_nx e0).trans <| (q_nx e1).trans <| (q_nx e2).trans <| q_rt e3) rfl
/-! ### refusals -/
theorem mul1 (s : List Nat) (h : s.length ≤ 100) : binC .mul (.val (.str s)) (.val (.int 1)) = some (.val (.str s)) := by
  have : binC .mul (.val (.str s)) (.val (.int 1)) = if (smallI 1 && decide (s.length * 1 ≤ line)) = true then some (.val (.str (rep s 1))) else none := rfl
  rw [this, if_pos (by rw [decide_eq_true (by show _ ≤ 16777216; omega)]; rfl)]
  show some (C.val (D.str (s ++ []))) = _
  rw [List.append_nil]
theorem kind_set (k : Nat) : run pg (k + 1) 16 [.val (.exc 3)] = .ok (.val (.str wSet)) [] := rfl
theorem kind_sign (k : Nat) : run pg (k + 1) 16 [.val (.exc 2)] = .ok (.val (.str wSign)) [] := rfl
end K01
namespace K01
open Mi
theorem b10 : ((1 : Int) == 0) = false := rfl
theorem b20 : ((2 : Int) == 0) = false := rfl
theorem b21 : ((2 : Int) == 1) = false := rfl
theorem b30 : ((3 : Int) == 0) = false := rfl
theorem b31 : ((3 : Int) == 1) = false := rfl
theorem b32 : ((3 : Int) == 2) = false := rfl
theorem b40 : ((4 : Int) == 0) = false := rfl
theorem b41 : ((4 : Int) == 1) = false := rfl
theorem b42 : ((4 : Int) == 2) = false := rfl
theorem b43 : ((4 : Int) == 3) = false := rfl
theorem b50 : ((5 : Int) == 0) = false := rfl
theorem b51 : ((5 : Int) == 1) = false := rfl
theorem b52 : ((5 : Int) == 2) = false := rfl
theorem b53 : ((5 : Int) == 3) = false := rfl
theorem b54 : ((5 : Int) == 4) = false := rfl
theorem b60 : ((6 : Int) == 0) = false := rfl
theorem b61 : ((6 : Int) == 1) = false := rfl
theorem b62 : ((6 : Int) == 2) = false := rfl
theorem b63 : ((6 : Int) == 3) = false := rfl
theorem b64 : ((6 : Int) == 4) = false := rfl
theorem b65 : ((6 : Int) == 5) = false := rfl
theorem refused_set (k : Nat) {d : D} (h : NoS d) (ps : Ps) (g : setOk 0 ps = true) (w : Int) (h1 : 1 ≤ w) (h2 : w ≤ 6) : run pg (k + 6) 17 [.val (.int w), .val d, .val (kd ps)] = .ok (.val (.str wSet)) [] := by
  have hs : sub 3 1 = true := rfl
  have hk := kind_set (k + 4)
  have n0 := has_no k h (.int 5)
  obtain ⟨n1, n2, n3⟩ := first_no k h (kd ps)
  obtain ⟨n4, n5⟩ := second_no k h ps g
  have : w = 1 ∨ w = 2 ∨ w = 3 ∨ w = 4 ∨ w = 5 ∨ w = 6 := by omega
  rcases this with rfl | rfl | rfl | rfl | rfl | rfl <;> simp only [r_law_refused, fd_law_refused, n0, n1, n2, n3, n4, n5, b10, b20, b21, b30, b31, b32, b40, b41, b42, b43, b50, b51, b52, b53, b54, b60, b61, b62, b63, b64, b65, beq_t, p_sub, hs, hk, gone, C.nox, D.nox, C.frz, ev.eq_1, ev.eq_2, ev.eq_3, ev.eq_4, ev.eq_5, ev.eq_6, ev.eq_7, ev.eq_8, ev.eq_9, ev.eq_10, ev.eq_11, ev.eq_12, ev.eq_13, ev.eq_14, ev.eq_15, ev.eq_16, ev.eq_17, ev.eq_18, ev.eq_19, ev.eq_20, ev.eq_21, ev.eq_22, ev.eq_23, ev.eq_24, ev.eq_25, ev.eq_26, ev.eq_27, ev.eq_28, ev.eq_29, ev.eq_30, ev.eq_31, ev.eq_32, ev.eq_34, ev.eq_35, ev.eq_36, ev.eq_37, ev_cmp, evs, evP, evA, evAnd, evOr, evC, evS.eq_1, evS.eq_2, evS.eq_3, evS.eq_4, evS.eq_5, evS.eq_6, evS.eq_7, evS.eq_10, evS.eq_11, evS.eq_12, evS.eq_13, evS.eq_14, evS_for, evS_whl, evSs, rsv, runFd, start, bor, pur, purs, isVarB, smp, smps, b_ok, b_exc, o_some, h_val, h_tt, h_f, l_val, l_f, f_val, f_lst, f_tup, f_map, n_add, n_sub, lt_of_lt, c_le, c_gt, c_ge, eq_ii, ne_ii, t_bl, lstAt, modE, modC, setL, setF, endOf, outsOf, callC, ioPos, p_call, p_ios, p_glob, io0, io1, io2, io3, io4, io5, io6, io7, io8, io9, io10, io11, io12, io13, io14, io15, io16, io17, io18, io19, io20, io21, io22, io23, takeIo, putIo, hasBw, bindTg, binding, Tg.slots, wipeE, noexc, Bool.and_true, Bool.true_and, Bool.and_false, Bool.false_and, Bool.or_true, Bool.true_or, Bool.or_false, Bool.false_or, Bool.not_true, Bool.not_false, if_true, if_false, ite_true, ite_false, reduceIte, Bool.false_eq_true, List.length_cons, List.length_nil, List.map_cons, List.map_nil, List.replicate, List.append_nil, List.nil_append, List.cons_append, List.getElem?_cons_zero, List.getElem?_cons_succ, List.set_cons_zero, List.set_cons_succ, List.zip_cons_cons, List.zip_nil_left, List.foldl_cons, List.foldl_nil, Option.map_some, Option.bind_some, Option.map_none, Option.bind_none, Option.isSome_some, C.isVal, len_l, len_c, len_t, Nat.reduceAdd, Nat.reduceSub, Nat.reduceLeDiff, Nat.reduceEqDiff, Nat.zero_add, List.getElem?_nil, Option.isSome_none, it_seqc, it_seql, mkTup, allVal, slH_l]
theorem refused_sign (k : Nat) {d : D} (h : run pg (k + 2) 2 [.val d] = .exc 2) : run pg (k + 3) 17 [.val (.int 0), .val d, .val (.tup [])] = .ok (.val (.str wSign)) [] := by
  have hs : sub 2 1 = true := rfl
  have hk := kind_sign (k + 1)
  simp only [r_law_refused, fd_law_refused, h, beq_t, p_sub, hs, hk, gone, C.nox, D.nox, C.frz, ev.eq_1, ev.eq_2, ev.eq_3, ev.eq_4, ev.eq_5, ev.eq_6, ev.eq_7, ev.eq_8, ev.eq_9, ev.eq_10, ev.eq_11, ev.eq_12, ev.eq_13, ev.eq_14, ev.eq_15, ev.eq_16, ev.eq_17, ev.eq_18, ev.eq_19, ev.eq_20, ev.eq_21, ev.eq_22, ev.eq_23, ev.eq_24, ev.eq_25, ev.eq_26, ev.eq_27, ev.eq_28, ev.eq_29, ev.eq_30, ev.eq_31, ev.eq_32, ev.eq_34, ev.eq_35, ev.eq_36, ev.eq_37, ev_cmp, evs, evP, evA, evAnd, evOr, evC, evS.eq_1, evS.eq_2, evS.eq_3, evS.eq_4, evS.eq_5, evS.eq_6, evS.eq_7, evS.eq_10, evS.eq_11, evS.eq_12, evS.eq_13, evS.eq_14, evS_for, evS_whl, evSs, rsv, runFd, start, bor, pur, purs, isVarB, smp, smps, b_ok, b_exc, o_some, h_val, h_tt, h_f, l_val, l_f, f_val, f_lst, f_tup, f_map, n_add, n_sub, lt_of_lt, c_le, c_gt, c_ge, eq_ii, ne_ii, t_bl, lstAt, modE, modC, setL, setF, endOf, outsOf, callC, ioPos, p_call, p_ios, p_glob, io0, io1, io2, io3, io4, io5, io6, io7, io8, io9, io10, io11, io12, io13, io14, io15, io16, io17, io18, io19, io20, io21, io22, io23, takeIo, putIo, hasBw, bindTg, binding, Tg.slots, wipeE, noexc, Bool.and_true, Bool.true_and, Bool.and_false, Bool.false_and, Bool.or_true, Bool.true_or, Bool.or_false, Bool.false_or, Bool.not_true, Bool.not_false, if_true, if_false, ite_true, ite_false, reduceIte, Bool.false_eq_true, List.length_cons, List.length_nil, List.map_cons, List.map_nil, List.replicate, List.append_nil, List.nil_append, List.cons_append, List.getElem?_cons_zero, List.getElem?_cons_succ, List.set_cons_zero, List.set_cons_succ, List.zip_cons_cons, List.zip_nil_left, List.foldl_cons, List.foldl_nil, Option.map_some, Option.bind_some, Option.map_none, Option.bind_none, Option.isSome_some, C.isVal, len_l, len_c, len_t, Nat.reduceAdd, Nat.reduceSub, Nat.reduceLeDiff, Nat.reduceEqDiff, Nat.zero_add, List.getElem?_nil, Option.isSome_none, it_seqc, it_seql, mkTup, allVal, slH_l]
/-! ### texts -/
theorem is_text_s (k : Nat) (s : List Nat) (h : s.length ≤ line) : run pg (k + 1) 1 [sv s] = .ok (.val (.bl (s.all SG.contains))) [] := by
  have hc : compLoop (compB (pk k) (.cmp .isin (.var 1) (.g 0)) (.nm 1) []) (chars s) [some (sv s), none] = .ok ((chars s).map fun d => match d with | .str [c] => C.val (.bl (SG.contains c)) | _ => .val .non) [some (sv s), none] :=
    compLoop_map _ _ _ fun d hd => by
      obtain ⟨c, _, rfl⟩ := List.mem_map.mp hd
      simp only [compB, gl0, in_s, ev.eq_1, ev.eq_2, ev.eq_3, ev.eq_4, ev.eq_5, ev.eq_6, ev.eq_7, ev.eq_8, ev.eq_9, ev.eq_10, ev.eq_11, ev.eq_12, ev.eq_13, ev.eq_14, ev.eq_15, ev.eq_16, ev.eq_17, ev.eq_18, ev.eq_19, ev.eq_20, ev.eq_21, ev.eq_22, ev.eq_23, ev.eq_24, ev.eq_25, ev.eq_26, ev.eq_27, ev.eq_28, ev.eq_29, ev.eq_30, ev.eq_31, ev.eq_32, ev.eq_34, ev.eq_35, ev.eq_36, ev.eq_37, ev_cmp, evs, evP, evA, evAnd, evOr, evC, evS.eq_1, evS.eq_2, evS.eq_3, evS.eq_4, evS.eq_5, evS.eq_6, evS.eq_7, evS.eq_10, evS.eq_11, evS.eq_12, evS.eq_13, evS.eq_14, evS_for, evS_whl, evSs, rsv, runFd, start, bor, pur, purs, isVarB, smp, smps, b_ok, b_exc, o_some, h_val, h_tt, h_f, l_val, l_f, f_val, f_lst, f_tup, f_map, n_add, n_sub, lt_of_lt, c_le, c_gt, c_ge, eq_ii, ne_ii, t_bl, lstAt, modE, modC, setL, setF, endOf, outsOf, callC, ioPos, p_call, p_ios, p_glob, io0, io1, io2, io3, io4, io5, io6, io7, io8, io9, io10, io11, io12, io13, io14, io15, io16, io17, io18, io19, io20, io21, io22, io23, takeIo, putIo, hasBw, bindTg, binding, Tg.slots, wipeE, noexc, Bool.and_true, Bool.true_and, Bool.and_false, Bool.false_and, Bool.or_true, Bool.true_or, Bool.or_false, Bool.false_or, Bool.not_true, Bool.not_false, if_true, if_false, ite_true, ite_false, reduceIte, Bool.false_eq_true, List.length_cons, List.length_nil, List.map_cons, List.map_nil, List.replicate, List.append_nil, List.nil_append, List.cons_append, List.getElem?_cons_zero, List.getElem?_cons_succ, List.set_cons_zero, List.set_cons_succ, List.zip_cons_cons, List.zip_nil_left, List.foldl_cons, List.foldl_nil, Option.map_some, Option.bind_some, Option.map_none, Option.bind_none, Option.isSome_some, C.isVal, len_l, len_c, len_t, Nat.reduceAdd, Nat.reduceSub, Nat.reduceLeDiff, Nat.reduceEqDiff, Nat.zero_add, List.getElem?_nil, Option.isSome_none, it_seqc, it_seql, mkTup, allVal, slH_l]
  have hl : (chars s).length ≤ line := by rw [chars, List.length_map]; exact h
  have he : (chars s).map (fun d => match d with | .str [c] => C.val (.bl (SG.contains c)) | _ => .val .non) = s.map fun c => C.val (.bl (SG.contains c)) := by rw [chars, List.map_map]; rfl
  rw [he] at hc
  simp only [r_is_text, fd_is_text, isiT, C.top, tyD, it_str, hl, ev.eq_1, ev.eq_2, ev.eq_3, ev.eq_4, ev.eq_5, ev.eq_6, ev.eq_7, ev.eq_8, ev.eq_9, ev.eq_10, ev.eq_11, ev.eq_12, ev.eq_13, ev.eq_14, ev.eq_15, ev.eq_16, ev.eq_17, ev.eq_18, ev.eq_19, ev.eq_20, ev.eq_21, ev.eq_22, ev.eq_23, ev.eq_24, ev.eq_25, ev.eq_26, ev.eq_27, ev.eq_28, ev.eq_29, ev.eq_30, ev.eq_31, ev.eq_32, ev.eq_34, ev.eq_35, ev.eq_36, ev.eq_37, ev_cmp, evs, evP, evA, evAnd, evOr, evC, evS.eq_1, evS.eq_2, evS.eq_3, evS.eq_4, evS.eq_5, evS.eq_6, evS.eq_7, evS.eq_10, evS.eq_11, evS.eq_12, evS.eq_13, evS.eq_14, evS_for, evS_whl, evSs, rsv, runFd, start, bor, pur, purs, isVarB, smp, smps, b_ok, b_exc, o_some, h_val, h_tt, h_f, l_val, l_f, f_val, f_lst, f_tup, f_map, n_add, n_sub, lt_of_lt, c_le, c_gt, c_ge, eq_ii, ne_ii, t_bl, lstAt, modE, modC, setL, setF, endOf, outsOf, callC, ioPos, p_call, p_ios, p_glob, io0, io1, io2, io3, io4, io5, io6, io7, io8, io9, io10, io11, io12, io13, io14, io15, io16, io17, io18, io19, io20, io21, io22, io23, takeIo, putIo, hasBw, bindTg, binding, Tg.slots, wipeE, noexc, Bool.and_true, Bool.true_and, Bool.and_false, Bool.false_and, Bool.or_true, Bool.true_or, Bool.or_false, Bool.false_or, Bool.not_true, Bool.not_false, if_true, if_false, ite_true, ite_false, reduceIte, Bool.false_eq_true, List.length_cons, List.length_nil, List.map_cons, List.map_nil, List.replicate, List.append_nil, List.nil_append, List.cons_append, List.getElem?_cons_zero, List.getElem?_cons_succ, List.set_cons_zero, List.set_cons_succ, List.zip_cons_cons, List.zip_nil_left, List.foldl_cons, List.foldl_nil, Option.map_some, Option.bind_some, Option.map_none, Option.bind_none, Option.isSome_some, C.isVal, len_l, len_c, len_t, Nat.reduceAdd, Nat.reduceSub, Nat.reduceLeDiff, Nat.reduceEqDiff, Nat.zero_add, List.getElem?_nil, Option.isSome_none, it_seqc, it_seql, mkTup, allVal, slH_l]
  rw [hc]
  simp only [frz_mapf (fun c => D.bl (SG.contains c)), all_map, ev.eq_1, ev.eq_2, ev.eq_3, ev.eq_4, ev.eq_5, ev.eq_6, ev.eq_7, ev.eq_8, ev.eq_9, ev.eq_10, ev.eq_11, ev.eq_12, ev.eq_13, ev.eq_14, ev.eq_15, ev.eq_16, ev.eq_17, ev.eq_18, ev.eq_19, ev.eq_20, ev.eq_21, ev.eq_22, ev.eq_23, ev.eq_24, ev.eq_25, ev.eq_26, ev.eq_27, ev.eq_28, ev.eq_29, ev.eq_30, ev.eq_31, ev.eq_32, ev.eq_34, ev.eq_35, ev.eq_36, ev.eq_37, ev_cmp, evs, evP, evA, evAnd, evOr, evC, evS.eq_1, evS.eq_2, evS.eq_3, evS.eq_4, evS.eq_5, evS.eq_6, evS.eq_7, evS.eq_10, evS.eq_11, evS.eq_12, evS.eq_13, evS.eq_14, evS_for, evS_whl, evSs, rsv, runFd, start, bor, pur, purs, isVarB, smp, smps, b_ok, b_exc, o_some, h_val, h_tt, h_f, l_val, l_f, f_val, f_lst, f_tup, f_map, n_add, n_sub, lt_of_lt, c_le, c_gt, c_ge, eq_ii, ne_ii, t_bl, lstAt, modE, modC, setL, setF, endOf, outsOf, callC, ioPos, p_call, p_ios, p_glob, io0, io1, io2, io3, io4, io5, io6, io7, io8, io9, io10, io11, io12, io13, io14, io15, io16, io17, io18, io19, io20, io21, io22, io23, takeIo, putIo, hasBw, bindTg, binding, Tg.slots, wipeE, noexc, Bool.and_true, Bool.true_and, Bool.and_false, Bool.false_and, Bool.or_true, Bool.true_or, Bool.or_false, Bool.false_or, Bool.not_true, Bool.not_false, if_true, if_false, ite_true, ite_false, reduceIte, Bool.false_eq_true, List.length_cons, List.length_nil, List.map_cons, List.map_nil, List.replicate, List.append_nil, List.nil_append, List.cons_append, List.getElem?_cons_zero, List.getElem?_cons_succ, List.set_cons_zero, List.set_cons_succ, List.zip_cons_cons, List.zip_nil_left, List.foldl_cons, List.foldl_nil, Option.map_some, Option.bind_some, Option.map_none, Option.bind_none, Option.isSome_some, C.isVal, len_l, len_c, len_t, Nat.reduceAdd, Nat.reduceSub, Nat.reduceLeDiff, Nat.reduceEqDiff, Nat.zero_add, List.getElem?_nil, Option.isSome_none, it_seqc, it_seql, mkTup, allVal, slH_l]
theorem is_text_t (k : Nat) {n : Nat} {s : List Nat} (h : Txt n s) (hn : n ≤ 1000) : run pg (k + 1) 1 [.val (.str s)] = .ok (.val (.bl true)) [] := by
  have := is_text_s k s (by have := h.1; show _ ≤ 16777216; omega)
  rw [txt_all h] at this
  exact this
theorem is_text_n (k : Nat) (d : D) (h : isiT .str d = true) (g : tyD sub d .str = false) : run pg (k + 1) 1 [.val d] = .ok (.val (.bl false)) [] := by
  have ht : (C.val d).top = d := rfl
  have g : tyD (pk k).sub d .str = false := g
  simp only [r_is_text, fd_is_text, ht, h, g, ev.eq_1, ev.eq_2, ev.eq_3, ev.eq_4, ev.eq_5, ev.eq_6, ev.eq_7, ev.eq_8, ev.eq_9, ev.eq_10, ev.eq_11, ev.eq_12, ev.eq_13, ev.eq_14, ev.eq_15, ev.eq_16, ev.eq_17, ev.eq_18, ev.eq_19, ev.eq_20, ev.eq_21, ev.eq_22, ev.eq_23, ev.eq_24, ev.eq_25, ev.eq_26, ev.eq_27, ev.eq_28, ev.eq_29, ev.eq_30, ev.eq_31, ev.eq_32, ev.eq_34, ev.eq_35, ev.eq_36, ev.eq_37, ev_cmp, evs, evP, evA, evAnd, evOr, evC, evS.eq_1, evS.eq_2, evS.eq_3, evS.eq_4, evS.eq_5, evS.eq_6, evS.eq_7, evS.eq_10, evS.eq_11, evS.eq_12, evS.eq_13, evS.eq_14, evS_for, evS_whl, evSs, rsv, runFd, start, bor, pur, purs, isVarB, smp, smps, b_ok, b_exc, o_some, h_val, h_tt, h_f, l_val, l_f, f_val, f_lst, f_tup, f_map, n_add, n_sub, lt_of_lt, c_le, c_gt, c_ge, eq_ii, ne_ii, t_bl, lstAt, modE, modC, setL, setF, endOf, outsOf, callC, ioPos, p_call, p_ios, p_glob, io0, io1, io2, io3, io4, io5, io6, io7, io8, io9, io10, io11, io12, io13, io14, io15, io16, io17, io18, io19, io20, io21, io22, io23, takeIo, putIo, hasBw, bindTg, binding, Tg.slots, wipeE, noexc, Bool.and_true, Bool.true_and, Bool.and_false, Bool.false_and, Bool.or_true, Bool.true_or, Bool.or_false, Bool.false_or, Bool.not_true, Bool.not_false, if_true, if_false, ite_true, ite_false, reduceIte, Bool.false_eq_true, List.length_cons, List.length_nil, List.map_cons, List.map_nil, List.replicate, List.append_nil, List.nil_append, List.cons_append, List.getElem?_cons_zero, List.getElem?_cons_succ, List.set_cons_zero, List.set_cons_succ, List.zip_cons_cons, List.zip_nil_left, List.foldl_cons, List.foldl_nil, Option.map_some, Option.bind_some, Option.map_none, Option.bind_none, Option.isSome_some, C.isVal, len_l, len_c, len_t, Nat.reduceAdd, Nat.reduceSub, Nat.reduceLeDiff, Nat.reduceEqDiff, Nat.zero_add, List.getElem?_nil, Option.isSome_none, it_seqc, it_seql, mkTup, allVal, slH_l]
theorem number_no (k : Nat) {d : D} (h : run pg (k + 1) 1 [.val d] = .ok (.val (.bl false)) []) : run pg (k + 2) 2 [.val d] = .exc 2 := by
  simp only [r_number_of, fd_number_of, h, ev.eq_1, ev.eq_2, ev.eq_3, ev.eq_4, ev.eq_5, ev.eq_6, ev.eq_7, ev.eq_8, ev.eq_9, ev.eq_10, ev.eq_11, ev.eq_12, ev.eq_13, ev.eq_14, ev.eq_15, ev.eq_16, ev.eq_17, ev.eq_18, ev.eq_19, ev.eq_20, ev.eq_21, ev.eq_22, ev.eq_23, ev.eq_24, ev.eq_25, ev.eq_26, ev.eq_27, ev.eq_28, ev.eq_29, ev.eq_30, ev.eq_31, ev.eq_32, ev.eq_34, ev.eq_35, ev.eq_36, ev.eq_37, ev_cmp, evs, evP, evA, evAnd, evOr, evC, evS.eq_1, evS.eq_2, evS.eq_3, evS.eq_4, evS.eq_5, evS.eq_6, evS.eq_7, evS.eq_10, evS.eq_11, evS.eq_12, evS.eq_13, evS.eq_14, evS_for, evS_whl, evSs, rsv, runFd, start, bor, pur, purs, isVarB, smp, smps, b_ok, b_exc, o_some, h_val, h_tt, h_f, l_val, l_f, f_val, f_lst, f_tup, f_map, n_add, n_sub, lt_of_lt, c_le, c_gt, c_ge, eq_ii, ne_ii, t_bl, lstAt, modE, modC, setL, setF, endOf, outsOf, callC, ioPos, p_call, p_ios, p_glob, io0, io1, io2, io3, io4, io5, io6, io7, io8, io9, io10, io11, io12, io13, io14, io15, io16, io17, io18, io19, io20, io21, io22, io23, takeIo, putIo, hasBw, bindTg, binding, Tg.slots, wipeE, noexc, Bool.and_true, Bool.true_and, Bool.and_false, Bool.false_and, Bool.or_true, Bool.true_or, Bool.or_false, Bool.false_or, Bool.not_true, Bool.not_false, if_true, if_false, ite_true, ite_false, reduceIte, Bool.false_eq_true, List.length_cons, List.length_nil, List.map_cons, List.map_nil, List.replicate, List.append_nil, List.nil_append, List.cons_append, List.getElem?_cons_zero, List.getElem?_cons_succ, List.set_cons_zero, List.set_cons_succ, List.zip_cons_cons, List.zip_nil_left, List.foldl_cons, List.foldl_nil, Option.map_some, Option.bind_some, Option.map_none, Option.bind_none, Option.isSome_some, C.isVal, len_l, len_c, len_t, Nat.reduceAdd, Nat.reduceSub, Nat.reduceLeDiff, Nat.reduceEqDiff, Nat.zero_add, List.getElem?_nil, Option.isSome_none, it_seqc, it_seql, mkTup, allVal, slH_l]
theorem number_len (k : Nat) {n : Nat} {s : List Nat} (h : Txt n s) (hn : n ≤ 1000) (h1 : s.length ≠ 1) : run pg (k + 2) 2 [.val (.str s)] = .exc 2 := by
  have ht := is_text_t k h hn
  have hl := len_s s (by have := h.1; show _ ≤ 16777216; omega)
  have hb : ((s.length : Int) == 1) = false := beq_f (by omega)
  simp only [r_number_of, fd_number_of, ht, hl, hb, ev.eq_1, ev.eq_2, ev.eq_3, ev.eq_4, ev.eq_5, ev.eq_6, ev.eq_7, ev.eq_8, ev.eq_9, ev.eq_10, ev.eq_11, ev.eq_12, ev.eq_13, ev.eq_14, ev.eq_15, ev.eq_16, ev.eq_17, ev.eq_18, ev.eq_19, ev.eq_20, ev.eq_21, ev.eq_22, ev.eq_23, ev.eq_24, ev.eq_25, ev.eq_26, ev.eq_27, ev.eq_28, ev.eq_29, ev.eq_30, ev.eq_31, ev.eq_32, ev.eq_34, ev.eq_35, ev.eq_36, ev.eq_37, ev_cmp, evs, evP, evA, evAnd, evOr, evC, evS.eq_1, evS.eq_2, evS.eq_3, evS.eq_4, evS.eq_5, evS.eq_6, evS.eq_7, evS.eq_10, evS.eq_11, evS.eq_12, evS.eq_13, evS.eq_14, evS_for, evS_whl, evSs, rsv, runFd, start, bor, pur, purs, isVarB, smp, smps, b_ok, b_exc, o_some, h_val, h_tt, h_f, l_val, l_f, f_val, f_lst, f_tup, f_map, n_add, n_sub, lt_of_lt, c_le, c_gt, c_ge, eq_ii, ne_ii, t_bl, lstAt, modE, modC, setL, setF, endOf, outsOf, callC, ioPos, p_call, p_ios, p_glob, io0, io1, io2, io3, io4, io5, io6, io7, io8, io9, io10, io11, io12, io13, io14, io15, io16, io17, io18, io19, io20, io21, io22, io23, takeIo, putIo, hasBw, bindTg, binding, Tg.slots, wipeE, noexc, Bool.and_true, Bool.true_and, Bool.and_false, Bool.false_and, Bool.or_true, Bool.true_or, Bool.or_false, Bool.false_or, Bool.not_true, Bool.not_false, if_true, if_false, ite_true, ite_false, reduceIte, Bool.false_eq_true, List.length_cons, List.length_nil, List.map_cons, List.map_nil, List.replicate, List.append_nil, List.nil_append, List.cons_append, List.getElem?_cons_zero, List.getElem?_cons_succ, List.set_cons_zero, List.set_cons_succ, List.zip_cons_cons, List.zip_nil_left, List.foldl_cons, List.foldl_nil, Option.map_some, Option.bind_some, Option.map_none, Option.bind_none, Option.isSome_some, C.isVal, len_l, len_c, len_t, Nat.reduceAdd, Nat.reduceSub, Nat.reduceLeDiff, Nat.reduceEqDiff, Nat.zero_add, List.getElem?_nil, Option.isSome_none, it_seqc, it_seql, mkTup, allVal, slH_l]
theorem number_of_ok (k c : Nat) (h : c ∈ SG) : run pg (k + 2) 2 [.val (.str [c])] = .ok (.val (.int (posS c : Nat))) [] := by
  have ht := is_text_t k (txt1 h) (by decide)
  have hl := len_s [c] (by show 1 ≤ 16777216; decide)
  have hl : biC .len [.val (.str [c])] = some (.val (.int 1)) := hl
  have hi := mt_idx h
  have hr : recvOk .index (.val (.str SG)) = true := rfl
  simp only [r_number_of, fd_number_of, ht, hl, gl0, hr, hi, beq_t, ev.eq_1, ev.eq_2, ev.eq_3, ev.eq_4, ev.eq_5, ev.eq_6, ev.eq_7, ev.eq_8, ev.eq_9, ev.eq_10, ev.eq_11, ev.eq_12, ev.eq_13, ev.eq_14, ev.eq_15, ev.eq_16, ev.eq_17, ev.eq_18, ev.eq_19, ev.eq_20, ev.eq_21, ev.eq_22, ev.eq_23, ev.eq_24, ev.eq_25, ev.eq_26, ev.eq_27, ev.eq_28, ev.eq_29, ev.eq_30, ev.eq_31, ev.eq_32, ev.eq_34, ev.eq_35, ev.eq_36, ev.eq_37, ev_cmp, evs, evP, evA, evAnd, evOr, evC, evS.eq_1, evS.eq_2, evS.eq_3, evS.eq_4, evS.eq_5, evS.eq_6, evS.eq_7, evS.eq_10, evS.eq_11, evS.eq_12, evS.eq_13, evS.eq_14, evS_for, evS_whl, evSs, rsv, runFd, start, bor, pur, purs, isVarB, smp, smps, b_ok, b_exc, o_some, h_val, h_tt, h_f, l_val, l_f, f_val, f_lst, f_tup, f_map, n_add, n_sub, lt_of_lt, c_le, c_gt, c_ge, eq_ii, ne_ii, t_bl, lstAt, modE, modC, setL, setF, endOf, outsOf, callC, ioPos, p_call, p_ios, p_glob, io0, io1, io2, io3, io4, io5, io6, io7, io8, io9, io10, io11, io12, io13, io14, io15, io16, io17, io18, io19, io20, io21, io22, io23, takeIo, putIo, hasBw, bindTg, binding, Tg.slots, wipeE, noexc, Bool.and_true, Bool.true_and, Bool.and_false, Bool.false_and, Bool.or_true, Bool.true_or, Bool.or_false, Bool.false_or, Bool.not_true, Bool.not_false, if_true, if_false, ite_true, ite_false, reduceIte, Bool.false_eq_true, List.length_cons, List.length_nil, List.map_cons, List.map_nil, List.replicate, List.append_nil, List.nil_append, List.cons_append, List.getElem?_cons_zero, List.getElem?_cons_succ, List.set_cons_zero, List.set_cons_succ, List.zip_cons_cons, List.zip_nil_left, List.foldl_cons, List.foldl_nil, Option.map_some, Option.bind_some, Option.map_none, Option.bind_none, Option.isSome_some, C.isVal, len_l, len_c, len_t, Nat.reduceAdd, Nat.reduceSub, Nat.reduceLeDiff, Nat.reduceEqDiff, Nat.zero_add, List.getElem?_nil, Option.isSome_none, it_seqc, it_seql, mkTup, allVal, slH_l]
/-- the sign at a place -/
def sgAt (i : Nat) : Nat := SG[i]?.getD 0
theorem sgAt_pos : ∀ i, i < 96 → posS (sgAt i) = i := by decide
theorem sgAt_in : ∀ i, i < 96 → sgAt i ∈ SG := by decide
theorem sgAt_sub (i : Int) (h0 : 0 ≤ i) (h1 : i < 96) : subC (.val (.str SG)) (.int i) = some (.val (.str [sgAt i.toNat])) := by
  rw [sub_s _ _ (by rw [SG_len]; decide), ix_of h0 (by rw [SG_len]; exact h1), Option.bind_some]
  unfold sgAt
  rw [List.getElem?_eq_getElem (by rw [SG_len]; omega)]
  rfl
/-- one thing is looked at -/
theorem text_turn (k : Nat) (a b c o4 o5 o6 : Option C) (d : D) (t : Bool) (h1 : run pg (k + 1 + 2) 1 [.val d] = .ok (.val (.bl t)) []) (h2 : isiT .str d = true) (h3 : tyD sub d .str = t) (h4 : run pg (k + 3) 17 [.val (.int 0), .val d, .val (.tup [])] = .ok (.val (.str wSign)) []) :
    evSs (pk (k + 3)) lb_law_texts_0 [a, b, c, some (.val d), o4, o5, o6] = .ok .nx [a, b, c, some (.val d), o4, o5, o6] := by
  have ht : (C.val d).top = d := rfl
  have h3 : tyD (pk (k + 3)).sub d .str = t := h3
  have h1 : run pg (k + 3) 1 [.val d] = .ok (.val (.bl t)) [] := h1
  have hr := truth_ok (k + 2) t t
  rw [beq_self_eq_true] at hr
  have hr : run pg (k + 3) 19 [.val (.bl t), .val (.bl t)] = _ := hr
  have hn : cmpC .ne (.val (.str wSign)) (.val (.str wSign)) = some false := rfl
  simp only [lb_law_texts_0, h1, ht, h2, h3, hr, h4, hn, ev.eq_1, ev.eq_2, ev.eq_3, ev.eq_4, ev.eq_5, ev.eq_6, ev.eq_7, ev.eq_8, ev.eq_9, ev.eq_10, ev.eq_11, ev.eq_12, ev.eq_13, ev.eq_14, ev.eq_15, ev.eq_16, ev.eq_17, ev.eq_18, ev.eq_19, ev.eq_20, ev.eq_21, ev.eq_22, ev.eq_23, ev.eq_24, ev.eq_25, ev.eq_26, ev.eq_27, ev.eq_28, ev.eq_29, ev.eq_30, ev.eq_31, ev.eq_32, ev.eq_34, ev.eq_35, ev.eq_36, ev.eq_37, ev_cmp, evs, evP, evA, evAnd, evOr, evC, evS.eq_1, evS.eq_2, evS.eq_3, evS.eq_4, evS.eq_5, evS.eq_6, evS.eq_7, evS.eq_10, evS.eq_11, evS.eq_12, evS.eq_13, evS.eq_14, evS_for, evS_whl, evSs, rsv, runFd, start, bor, pur, purs, isVarB, smp, smps, b_ok, b_exc, o_some, h_val, h_tt, h_f, l_val, l_f, f_val, f_lst, f_tup, f_map, n_add, n_sub, lt_of_lt, c_le, c_gt, c_ge, eq_ii, ne_ii, t_bl, lstAt, modE, modC, setL, setF, endOf, outsOf, callC, ioPos, p_call, p_ios, p_glob, io0, io1, io2, io3, io4, io5, io6, io7, io8, io9, io10, io11, io12, io13, io14, io15, io16, io17, io18, io19, io20, io21, io22, io23, takeIo, putIo, hasBw, bindTg, binding, Tg.slots, wipeE, noexc, Bool.and_true, Bool.true_and, Bool.and_false, Bool.false_and, Bool.or_true, Bool.true_or, Bool.or_false, Bool.false_or, Bool.not_true, Bool.not_false, if_true, if_false, ite_true, ite_false, reduceIte, Bool.false_eq_true, List.length_cons, List.length_nil, List.map_cons, List.map_nil, List.replicate, List.append_nil, List.nil_append, List.cons_append, List.getElem?_cons_zero, List.getElem?_cons_succ, List.set_cons_zero, List.set_cons_succ, List.zip_cons_cons, List.zip_nil_left, List.foldl_cons, List.foldl_nil, Option.map_some, Option.bind_some, Option.map_none, Option.bind_none, Option.isSome_some, C.isVal, len_l, len_c, len_t, Nat.reduceAdd, Nat.reduceSub, Nat.reduceLeDiff, Nat.reduceEqDiff, Nat.zero_add, List.getElem?_nil, Option.isSome_none, it_seqc, it_seql, mkTup, allVal, slH_l]
theorem sx (k : Nat) {n : Nat} {s : List Nat} (h : Txt n s) (hn : n ≤ 1000) (h1 : s.length ≠ 1) (a b c o4 o5 o6 : Option C) : evSs (pk (k + 3)) lb_law_texts_0 [a, b, c, some (.val (.str s)), o4, o5, o6] = .ok .nx [a, b, c, some (.val (.str s)), o4, o5, o6] :=
  text_turn k a b c o4 o5 o6 _ true (is_text_t (k + 2) h hn) rfl rfl (refused_sign k (number_len k h hn h1))
theorem nx' (k : Nat) {d : D} (h : isiT .str d = true) (g : tyD sub d .str = false) (a b c o4 o5 o6 : Option C) : evSs (pk (k + 3)) lb_law_texts_0 [a, b, c, some (.val d), o4, o5, o6] = .ok .nx [a, b, c, some (.val d), o4, o5, o6] :=
  text_turn k a b c o4 o5 o6 _ false (is_text_n (k + 2) d h g) h g (refused_sign k (number_no k (is_text_n k d h g)))
theorem texts_ok (k : Nat) (ns : List Int) (hns : ns.length ≤ 63) : run pg (k + 4) 20 [sc ns] = .ok (.val (.bl true)) [] := by
  let ys : List Int := cut ns (some (2 : Int)) (some (2 + ns[1]?.getD 0 % 10))
  have yl : ys.length ≤ 63 := by
    show ((ns.drop _).take _).length ≤ 63
    rw [List.length_take, List.length_drop]
    omega
  let t : List Nat := ys.map fun z => sgAt (z % 96).toNat
  have tl : t.length ≤ 63 := by
    show (ys.map _).length ≤ 63
    rw [List.length_map]
    exact yl
  have tT : Txt 63 t := ⟨tl, fun x m => by
    obtain ⟨z, _, rfl⟩ := List.mem_map.mp m
    have h0 := Int.emod_nonneg z (show (96 : Int) ≠ 0 by decide)
    have h1 := Int.emod_lt_of_pos z (show (0 : Int) < 96 by decide)
    exact sgAt_in _ (by omega)⟩
  have g0 := signs_ok (k + 2)
  have c1 := cell_ok (k + 2) ns 1
  have c0 := cell_ok (k + 2) ns 0
  have m10 := n_mod (ns[1]?.getD 0) 10 (by decide)
  have m96 := n_mod (ns[0]?.getD 0) 96 (by decide)
  have h0 := Int.emod_nonneg (ns[0]?.getD 0) (show (96 : Int) ≠ 0 by decide)
  have h1 := Int.emod_lt_of_pos (ns[0]?.getD 0) (show (0 : Int) < 96 by decide)
  obtain ⟨u, hu, hu2⟩ : ∃ u : Nat, ns[0]?.getD 0 % 96 = (u : Int) ∧ u < 96 := ⟨(ns[0]?.getD 0 % 96).toNat, by omega, by omega⟩
  rw [hu] at m96
  have sl : sliceC (sc ns) (some (2 : Int)) (some (2 + ns[1]?.getD 0 % 10)) = some (.lst ((ys.map D.int).map .val)) := by
    show _ = some (C.lst (((cut ns (some (2 : Int)) (some (2 + ns[1]?.getD 0 % 10))).map D.int).map C.val))
    rw [← cut_map]
    rfl
  have e0 : evS (pk (k + 3)) fs_law_texts_0 [some (sc ns), none, none, none, none, none, none] = .ok .nx [some (sc ns), some (.val (.str SG)), none, none, none, none, none] := by
    simp only [fs_law_texts_0, g0, ev.eq_1, ev.eq_2, ev.eq_3, ev.eq_4, ev.eq_5, ev.eq_6, ev.eq_7, ev.eq_8, ev.eq_9, ev.eq_10, ev.eq_11, ev.eq_12, ev.eq_13, ev.eq_14, ev.eq_15, ev.eq_16, ev.eq_17, ev.eq_18, ev.eq_19, ev.eq_20, ev.eq_21, ev.eq_22, ev.eq_23, ev.eq_24, ev.eq_25, ev.eq_26, ev.eq_27, ev.eq_28, ev.eq_29, ev.eq_30, ev.eq_31, ev.eq_32, ev.eq_34, ev.eq_35, ev.eq_36, ev.eq_37, ev_cmp, evs, evP, evA, evAnd, evOr, evC, evS.eq_1, evS.eq_2, evS.eq_3, evS.eq_4, evS.eq_5, evS.eq_6, evS.eq_7, evS.eq_10, evS.eq_11, evS.eq_12, evS.eq_13, evS.eq_14, evS_for, evS_whl, evSs, rsv, runFd, start, bor, pur, purs, isVarB, smp, smps, b_ok, b_exc, o_some, h_val, h_tt, h_f, l_val, l_f, f_val, f_lst, f_tup, f_map, n_add, n_sub, lt_of_lt, c_le, c_gt, c_ge, eq_ii, ne_ii, t_bl, lstAt, modE, modC, setL, setF, endOf, outsOf, callC, ioPos, p_call, p_ios, p_glob, io0, io1, io2, io3, io4, io5, io6, io7, io8, io9, io10, io11, io12, io13, io14, io15, io16, io17, io18, io19, io20, io21, io22, io23, takeIo, putIo, hasBw, bindTg, binding, Tg.slots, wipeE, noexc, Bool.and_true, Bool.true_and, Bool.and_false, Bool.false_and, Bool.or_true, Bool.true_or, Bool.or_false, Bool.false_or, Bool.not_true, Bool.not_false, if_true, if_false, ite_true, ite_false, reduceIte, Bool.false_eq_true, List.length_cons, List.length_nil, List.map_cons, List.map_nil, List.replicate, List.append_nil, List.nil_append, List.cons_append, List.getElem?_cons_zero, List.getElem?_cons_succ, List.set_cons_zero, List.set_cons_succ, List.zip_cons_cons, List.zip_nil_left, List.foldl_cons, List.foldl_nil, Option.map_some, Option.bind_some, Option.map_none, Option.bind_none, Option.isSome_some, C.isVal, len_l, len_c, len_t, Nat.reduceAdd, Nat.reduceSub, Nat.reduceLeDiff, Nat.reduceEqDiff, Nat.zero_add, List.getElem?_nil, Option.isSome_none, it_seqc, it_seql, mkTup, allVal, slH_l]
  have cl : compLoop (compB (pk (k + 3)) (.sub (.var 1) (.bin .mod (.var 6) (.k (.int 96)))) (.nm 6) []) (ys.map D.int) [some (sc ns), some (.val (.str SG)), none, none, none, none, none] = .ok (t.map fun x => C.val (.str [x])) [some (sc ns), some (.val (.str SG)), none, none, none, none, none] := by
    have := compLoop_map (f := compB (pk (k + 3)) (.sub (.var 1) (.bin .mod (.var 6) (.k (.int 96)))) (.nm 6) []) (fun d => match d with | .int z => C.val (.str [sgAt (z % 96).toNat]) | _ => .val .non) [some (sc ns), some (.val (.str SG)), none, none, none, none, none] (ys.map D.int) (fun d hd => by
      obtain ⟨z, _, rfl⟩ := List.mem_map.mp hd
      have m := n_mod z 96 (by decide)
      have s := sgAt_sub (z % 96) (Int.emod_nonneg z (by decide)) (Int.emod_lt_of_pos z (by decide))
      simp only [compB, m, s, ev.eq_1, ev.eq_2, ev.eq_3, ev.eq_4, ev.eq_5, ev.eq_6, ev.eq_7, ev.eq_8, ev.eq_9, ev.eq_10, ev.eq_11, ev.eq_12, ev.eq_13, ev.eq_14, ev.eq_15, ev.eq_16, ev.eq_17, ev.eq_18, ev.eq_19, ev.eq_20, ev.eq_21, ev.eq_22, ev.eq_23, ev.eq_24, ev.eq_25, ev.eq_26, ev.eq_27, ev.eq_28, ev.eq_29, ev.eq_30, ev.eq_31, ev.eq_32, ev.eq_34, ev.eq_35, ev.eq_36, ev.eq_37, ev_cmp, evs, evP, evA, evAnd, evOr, evC, evS.eq_1, evS.eq_2, evS.eq_3, evS.eq_4, evS.eq_5, evS.eq_6, evS.eq_7, evS.eq_10, evS.eq_11, evS.eq_12, evS.eq_13, evS.eq_14, evS_for, evS_whl, evSs, rsv, runFd, start, bor, pur, purs, isVarB, smp, smps, b_ok, b_exc, o_some, h_val, h_tt, h_f, l_val, l_f, f_val, f_lst, f_tup, f_map, n_add, n_sub, lt_of_lt, c_le, c_gt, c_ge, eq_ii, ne_ii, t_bl, lstAt, modE, modC, setL, setF, endOf, outsOf, callC, ioPos, p_call, p_ios, p_glob, io0, io1, io2, io3, io4, io5, io6, io7, io8, io9, io10, io11, io12, io13, io14, io15, io16, io17, io18, io19, io20, io21, io22, io23, takeIo, putIo, hasBw, bindTg, binding, Tg.slots, wipeE, noexc, Bool.and_true, Bool.true_and, Bool.and_false, Bool.false_and, Bool.or_true, Bool.true_or, Bool.or_false, Bool.false_or, Bool.not_true, Bool.not_false, if_true, if_false, ite_true, ite_false, reduceIte, Bool.false_eq_true, List.length_cons, List.length_nil, List.map_cons, List.map_nil, List.replicate, List.append_nil, List.nil_append, List.cons_append, List.getElem?_cons_zero, List.getElem?_cons_succ, List.set_cons_zero, List.set_cons_succ, List.zip_cons_cons, List.zip_nil_left, List.foldl_cons, List.foldl_nil, Option.map_some, Option.bind_some, Option.map_none, Option.bind_none, Option.isSome_some, C.isVal, len_l, len_c, len_t, Nat.reduceAdd, Nat.reduceSub, Nat.reduceLeDiff, Nat.reduceEqDiff, Nat.zero_add, List.getElem?_nil, Option.isSome_none, it_seqc, it_seql, mkTup, allVal, slH_l])
    rw [this, List.map_map]
    show _ = Res.ok ((ys.map fun z => sgAt (z % 96).toNat).map _) _
    rw [List.map_map]
    rfl
  have yl' : (ys.map D.int).length ≤ line := by rw [List.length_map]; show _ ≤ 16777216; omega
  have jn := mt_join1 t (by show _ ≤ 16777216; omega)
  have fz := frz_str1 t
  have rv : recvOk .join (.val (.str [])) = true := rfl
  have e1 : evS (pk (k + 3)) fs_law_texts_1 [some (sc ns), some (.val (.str SG)), none, none, none, none, none] = .ok .nx [some (sc ns), some (.val (.str SG)), some (.val (.str t)), none, none, none, none] := by
    have c1 : run pg (k + 3) 12 [sc ns, .val (.int 1)] = _ := c1
    simp only [fs_law_texts_1, c1, m10, sl, yl', cl, fz, jn, rv, ev.eq_1, ev.eq_2, ev.eq_3, ev.eq_4, ev.eq_5, ev.eq_6, ev.eq_7, ev.eq_8, ev.eq_9, ev.eq_10, ev.eq_11, ev.eq_12, ev.eq_13, ev.eq_14, ev.eq_15, ev.eq_16, ev.eq_17, ev.eq_18, ev.eq_19, ev.eq_20, ev.eq_21, ev.eq_22, ev.eq_23, ev.eq_24, ev.eq_25, ev.eq_26, ev.eq_27, ev.eq_28, ev.eq_29, ev.eq_30, ev.eq_31, ev.eq_32, ev.eq_34, ev.eq_35, ev.eq_36, ev.eq_37, ev_cmp, evs, evP, evA, evAnd, evOr, evC, evS.eq_1, evS.eq_2, evS.eq_3, evS.eq_4, evS.eq_5, evS.eq_6, evS.eq_7, evS.eq_10, evS.eq_11, evS.eq_12, evS.eq_13, evS.eq_14, evS_for, evS_whl, evSs, rsv, runFd, start, bor, pur, purs, isVarB, smp, smps, b_ok, b_exc, o_some, h_val, h_tt, h_f, l_val, l_f, f_val, f_lst, f_tup, f_map, n_add, n_sub, lt_of_lt, c_le, c_gt, c_ge, eq_ii, ne_ii, t_bl, lstAt, modE, modC, setL, setF, endOf, outsOf, callC, ioPos, p_call, p_ios, p_glob, io0, io1, io2, io3, io4, io5, io6, io7, io8, io9, io10, io11, io12, io13, io14, io15, io16, io17, io18, io19, io20, io21, io22, io23, takeIo, putIo, hasBw, bindTg, binding, Tg.slots, wipeE, noexc, Bool.and_true, Bool.true_and, Bool.and_false, Bool.false_and, Bool.or_true, Bool.true_or, Bool.or_false, Bool.false_or, Bool.not_true, Bool.not_false, if_true, if_false, ite_true, ite_false, reduceIte, Bool.false_eq_true, List.length_cons, List.length_nil, List.map_cons, List.map_nil, List.replicate, List.append_nil, List.nil_append, List.cons_append, List.getElem?_cons_zero, List.getElem?_cons_succ, List.set_cons_zero, List.set_cons_succ, List.zip_cons_cons, List.zip_nil_left, List.foldl_cons, List.foldl_nil, Option.map_some, Option.bind_some, Option.map_none, Option.bind_none, Option.isSome_some, C.isVal, len_l, len_c, len_t, Nat.reduceAdd, Nat.reduceSub, Nat.reduceLeDiff, Nat.reduceEqDiff, Nat.zero_add, List.getElem?_nil, Option.isSome_none, it_seqc, it_seql, mkTup, allVal, slH_l]
  have it := is_text_t (k + 2) tT (by decide)
  have ii : cmpC .isnot (.val (.bl true)) (.val (.bl true)) = some false := rfl
  have e2 : evS (pk (k + 3)) fs_law_texts_2 [some (sc ns), some (.val (.str SG)), some (.val (.str t)), none, none, none, none] = .ok .nx [some (sc ns), some (.val (.str SG)), some (.val (.str t)), none, none, none, none] := by
    simp only [fs_law_texts_2, it, ii, ev.eq_1, ev.eq_2, ev.eq_3, ev.eq_4, ev.eq_5, ev.eq_6, ev.eq_7, ev.eq_8, ev.eq_9, ev.eq_10, ev.eq_11, ev.eq_12, ev.eq_13, ev.eq_14, ev.eq_15, ev.eq_16, ev.eq_17, ev.eq_18, ev.eq_19, ev.eq_20, ev.eq_21, ev.eq_22, ev.eq_23, ev.eq_24, ev.eq_25, ev.eq_26, ev.eq_27, ev.eq_28, ev.eq_29, ev.eq_30, ev.eq_31, ev.eq_32, ev.eq_34, ev.eq_35, ev.eq_36, ev.eq_37, ev_cmp, evs, evP, evA, evAnd, evOr, evC, evS.eq_1, evS.eq_2, evS.eq_3, evS.eq_4, evS.eq_5, evS.eq_6, evS.eq_7, evS.eq_10, evS.eq_11, evS.eq_12, evS.eq_13, evS.eq_14, evS_for, evS_whl, evSs, rsv, runFd, start, bor, pur, purs, isVarB, smp, smps, b_ok, b_exc, o_some, h_val, h_tt, h_f, l_val, l_f, f_val, f_lst, f_tup, f_map, n_add, n_sub, lt_of_lt, c_le, c_gt, c_ge, eq_ii, ne_ii, t_bl, lstAt, modE, modC, setL, setF, endOf, outsOf, callC, ioPos, p_call, p_ios, p_glob, io0, io1, io2, io3, io4, io5, io6, io7, io8, io9, io10, io11, io12, io13, io14, io15, io16, io17, io18, io19, io20, io21, io22, io23, takeIo, putIo, hasBw, bindTg, binding, Tg.slots, wipeE, noexc, Bool.and_true, Bool.true_and, Bool.and_false, Bool.false_and, Bool.or_true, Bool.true_or, Bool.or_false, Bool.false_or, Bool.not_true, Bool.not_false, if_true, if_false, ite_true, ite_false, reduceIte, Bool.false_eq_true, List.length_cons, List.length_nil, List.map_cons, List.map_nil, List.replicate, List.append_nil, List.nil_append, List.cons_append, List.getElem?_cons_zero, List.getElem?_cons_succ, List.set_cons_zero, List.set_cons_succ, List.zip_cons_cons, List.zip_nil_left, List.foldl_cons, List.foldl_nil, Option.map_some, Option.bind_some, Option.map_none, Option.bind_none, Option.isSome_some, C.isVal, len_l, len_c, len_t, Nat.reduceAdd, Nat.reduceSub, Nat.reduceLeDiff, Nat.reduceEqDiff, Nat.zero_add, List.getElem?_nil, Option.isSome_none, it_seqc, it_seql, mkTup, allVal, slH_l]
  have ad := s_add t [97, 126] (by show _ + 2 ≤ 16777216; omega)
  have txt2 : ∀ a b : Nat, a ∈ SG → b ∈ SG → Txt 2 [a, b] := fun a b ha hb => (txt1 ha).app (txt1 hb)
  have e3 : evS (pk (k + 3)) fs_law_texts_3 [some (sc ns), some (.val (.str SG)), some (.val (.str t)), none, none, none, none] = .ok .nx [some (sc ns), some (.val (.str SG)), some (.val (.str t)), some (.val (.dct [] [])), none, none, none] := by
    have he : evs (pk (k + 3)) [(.frz (.lst [(.k (.str [])), (.k (.str [97, 98])), (.bin .add (.var 2) (.k (.str [97, 126]))), (.k .non), (.k (.int 5)), (.k (.bl true)), (.lst [(.k (.str [97]))]), (.tup [(.k (.str [97]))]), (.k (.str [10, 9])), (.dct false [] [])]))] [some (sc ns), some (.val (.str SG)), some (.val (.str t)), none, none, none, none] = .ok [.val (.lst [.str [], .str [97, 98], .str (t ++ [97, 126]), .non, .int 5, .bl true, .lst [.str [97]], .tup [.str [97]], .str [10, 9], .dct [] []])] [some (sc ns), some (.val (.str SG)), some (.val (.str t)), none, none, none, none] := by
      simp only [ad, C.frzs, C.frz, constKeys, mkDct, ev.eq_1, ev.eq_2, ev.eq_3, ev.eq_4, ev.eq_5, ev.eq_6, ev.eq_7, ev.eq_8, ev.eq_9, ev.eq_10, ev.eq_11, ev.eq_12, ev.eq_13, ev.eq_14, ev.eq_15, ev.eq_16, ev.eq_17, ev.eq_18, ev.eq_19, ev.eq_20, ev.eq_21, ev.eq_22, ev.eq_23, ev.eq_24, ev.eq_25, ev.eq_26, ev.eq_27, ev.eq_28, ev.eq_29, ev.eq_30, ev.eq_31, ev.eq_32, ev.eq_34, ev.eq_35, ev.eq_36, ev.eq_37, ev_cmp, evs, evP, evA, evAnd, evOr, evC, evS.eq_1, evS.eq_2, evS.eq_3, evS.eq_4, evS.eq_5, evS.eq_6, evS.eq_7, evS.eq_10, evS.eq_11, evS.eq_12, evS.eq_13, evS.eq_14, evS_for, evS_whl, evSs, rsv, runFd, start, bor, pur, purs, isVarB, smp, smps, b_ok, b_exc, o_some, h_val, h_tt, h_f, l_val, l_f, f_val, f_lst, f_tup, f_map, n_add, n_sub, lt_of_lt, c_le, c_gt, c_ge, eq_ii, ne_ii, t_bl, lstAt, modE, modC, setL, setF, endOf, outsOf, callC, ioPos, p_call, p_ios, p_glob, io0, io1, io2, io3, io4, io5, io6, io7, io8, io9, io10, io11, io12, io13, io14, io15, io16, io17, io18, io19, io20, io21, io22, io23, takeIo, putIo, hasBw, bindTg, binding, Tg.slots, wipeE, noexc, Bool.and_true, Bool.true_and, Bool.and_false, Bool.false_and, Bool.or_true, Bool.true_or, Bool.or_false, Bool.false_or, Bool.not_true, Bool.not_false, if_true, if_false, ite_true, ite_false, reduceIte, Bool.false_eq_true, List.length_cons, List.length_nil, List.map_cons, List.map_nil, List.replicate, List.append_nil, List.nil_append, List.cons_append, List.getElem?_cons_zero, List.getElem?_cons_succ, List.set_cons_zero, List.set_cons_succ, List.zip_cons_cons, List.zip_nil_left, List.foldl_cons, List.foldl_nil, Option.map_some, Option.bind_some, Option.map_none, Option.bind_none, Option.isSome_some, C.isVal, len_l, len_c, len_t, Nat.reduceAdd, Nat.reduceSub, Nat.reduceLeDiff, Nat.reduceEqDiff, Nat.zero_add, List.getElem?_nil, Option.isSome_none, it_seqc, it_seql, mkTup, allVal, slH_l]
    rw [fs_law_texts_3, evS_for, he, b_ok, it_seql]
    refine (fl_nx (sx k (n := 0) ⟨Nat.le_refl _, by simp⟩ (by decide) (by decide) _ _ _ _ _ _)).trans ?_
    refine (fl_nx (sx k (txt2 97 98 (by decide) (by decide)) (by decide) (by decide) _ _ _ _ _ _)).trans ?_
    refine (fl_nx (sx k (tT.app (txt2 97 126 (by decide) (by decide))) (by decide) (by rw [List.length_append]; show t.length + 2 ≠ 1; omega) _ _ _ _ _ _)).trans ?_
    refine (fl_nx (nx' k rfl rfl _ _ _ _ _ _)).trans ?_
    refine (fl_nx (nx' k rfl rfl _ _ _ _ _ _)).trans ?_
    refine (fl_nx (nx' k rfl rfl _ _ _ _ _ _)).trans ?_
    refine (fl_nx (nx' k rfl rfl _ _ _ _ _ _)).trans ?_
    refine (fl_nx (nx' k rfl rfl _ _ _ _ _ _)).trans ?_
    refine (fl_nx (sx k (txt2 10 9 (by decide) (by decide)) (by decide) (by decide) _ _ _ _ _ _)).trans ?_
    refine (fl_nx (nx' k rfl rfl _ _ _ _ _ _)).trans rfl
  have e4 : evS (pk (k + 3)) fs_law_texts_4 [some (sc ns), some (.val (.str SG)), some (.val (.str t)), some (.val (.dct [] [])), none, none, none] = .ok .nx [some (sc ns), some (.val (.str SG)), some (.val (.str t)), some (.val (.dct [] [])), some (.val (.int (u : Int))), none, none] := by
    have c0 : run pg (k + 3) 12 [sc ns, .val (.int 0)] = _ := c0
    simp only [fs_law_texts_4, c0, m96, ev.eq_1, ev.eq_2, ev.eq_3, ev.eq_4, ev.eq_5, ev.eq_6, ev.eq_7, ev.eq_8, ev.eq_9, ev.eq_10, ev.eq_11, ev.eq_12, ev.eq_13, ev.eq_14, ev.eq_15, ev.eq_16, ev.eq_17, ev.eq_18, ev.eq_19, ev.eq_20, ev.eq_21, ev.eq_22, ev.eq_23, ev.eq_24, ev.eq_25, ev.eq_26, ev.eq_27, ev.eq_28, ev.eq_29, ev.eq_30, ev.eq_31, ev.eq_32, ev.eq_34, ev.eq_35, ev.eq_36, ev.eq_37, ev_cmp, evs, evP, evA, evAnd, evOr, evC, evS.eq_1, evS.eq_2, evS.eq_3, evS.eq_4, evS.eq_5, evS.eq_6, evS.eq_7, evS.eq_10, evS.eq_11, evS.eq_12, evS.eq_13, evS.eq_14, evS_for, evS_whl, evSs, rsv, runFd, start, bor, pur, purs, isVarB, smp, smps, b_ok, b_exc, o_some, h_val, h_tt, h_f, l_val, l_f, f_val, f_lst, f_tup, f_map, n_add, n_sub, lt_of_lt, c_le, c_gt, c_ge, eq_ii, ne_ii, t_bl, lstAt, modE, modC, setL, setF, endOf, outsOf, callC, ioPos, p_call, p_ios, p_glob, io0, io1, io2, io3, io4, io5, io6, io7, io8, io9, io10, io11, io12, io13, io14, io15, io16, io17, io18, io19, io20, io21, io22, io23, takeIo, putIo, hasBw, bindTg, binding, Tg.slots, wipeE, noexc, Bool.and_true, Bool.true_and, Bool.and_false, Bool.false_and, Bool.or_true, Bool.true_or, Bool.or_false, Bool.false_or, Bool.not_true, Bool.not_false, if_true, if_false, ite_true, ite_false, reduceIte, Bool.false_eq_true, List.length_cons, List.length_nil, List.map_cons, List.map_nil, List.replicate, List.append_nil, List.nil_append, List.cons_append, List.getElem?_cons_zero, List.getElem?_cons_succ, List.set_cons_zero, List.set_cons_succ, List.zip_cons_cons, List.zip_nil_left, List.foldl_cons, List.foldl_nil, Option.map_some, Option.bind_some, Option.map_none, Option.bind_none, Option.isSome_some, C.isVal, len_l, len_c, len_t, Nat.reduceAdd, Nat.reduceSub, Nat.reduceLeDiff, Nat.reduceEqDiff, Nat.zero_add, List.getElem?_nil, Option.isSome_none, it_seqc, it_seql, mkTup, allVal, slH_l]
  have su := sgAt_sub (u : Int) (by omega) (by omega)
  rw [Int.toNat_natCast] at su
  have nu := number_of_ok (k + 1) (sgAt u) (sgAt_in u hu2)
  rw [sgAt_pos u hu2] at nu
  have e5 : evS (pk (k + 3)) fs_law_texts_5 [some (sc ns), some (.val (.str SG)), some (.val (.str t)), some (.val (.dct [] [])), some (.val (.int (u : Int))), none, none] = .ok .nx [some (sc ns), some (.val (.str SG)), some (.val (.str t)), some (.val (.dct [] [])), some (.val (.int (u : Int))), some (.val (.int (u : Int))), none] := by
    simp only [fs_law_texts_5, su, nu, ev.eq_1, ev.eq_2, ev.eq_3, ev.eq_4, ev.eq_5, ev.eq_6, ev.eq_7, ev.eq_8, ev.eq_9, ev.eq_10, ev.eq_11, ev.eq_12, ev.eq_13, ev.eq_14, ev.eq_15, ev.eq_16, ev.eq_17, ev.eq_18, ev.eq_19, ev.eq_20, ev.eq_21, ev.eq_22, ev.eq_23, ev.eq_24, ev.eq_25, ev.eq_26, ev.eq_27, ev.eq_28, ev.eq_29, ev.eq_30, ev.eq_31, ev.eq_32, ev.eq_34, ev.eq_35, ev.eq_36, ev.eq_37, ev_cmp, evs, evP, evA, evAnd, evOr, evC, evS.eq_1, evS.eq_2, evS.eq_3, evS.eq_4, evS.eq_5, evS.eq_6, evS.eq_7, evS.eq_10, evS.eq_11, evS.eq_12, evS.eq_13, evS.eq_14, evS_for, evS_whl, evSs, rsv, runFd, start, bor, pur, purs, isVarB, smp, smps, b_ok, b_exc, o_some, h_val, h_tt, h_f, l_val, l_f, f_val, f_lst, f_tup, f_map, n_add, n_sub, lt_of_lt, c_le, c_gt, c_ge, eq_ii, ne_ii, t_bl, lstAt, modE, modC, setL, setF, endOf, outsOf, callC, ioPos, p_call, p_ios, p_glob, io0, io1, io2, io3, io4, io5, io6, io7, io8, io9, io10, io11, io12, io13, io14, io15, io16, io17, io18, io19, io20, io21, io22, io23, takeIo, putIo, hasBw, bindTg, binding, Tg.slots, wipeE, noexc, Bool.and_true, Bool.true_and, Bool.and_false, Bool.false_and, Bool.or_true, Bool.true_or, Bool.or_false, Bool.false_or, Bool.not_true, Bool.not_false, if_true, if_false, ite_true, ite_false, reduceIte, Bool.false_eq_true, List.length_cons, List.length_nil, List.map_cons, List.map_nil, List.replicate, List.append_nil, List.nil_append, List.cons_append, List.getElem?_cons_zero, List.getElem?_cons_succ, List.set_cons_zero, List.set_cons_succ, List.zip_cons_cons, List.zip_nil_left, List.foldl_cons, List.foldl_nil, Option.map_some, Option.bind_some, Option.map_none, Option.bind_none, Option.isSome_some, C.isVal, len_l, len_c, len_t, Nat.reduceAdd, Nat.reduceSub, Nat.reduceLeDiff, Nat.reduceEqDiff, Nat.zero_add, List.getElem?_nil, Option.isSome_none, it_seqc, it_seql, mkTup, allVal, slH_l]
  have es : cmpC .eq (.val (.str SG)) (.val (.str SG)) = some true := rfl
  have e6 : evS (pk (k + 3)) fs_law_texts_6 [some (sc ns), some (.val (.str SG)), some (.val (.str t)), some (.val (.dct [] [])), some (.val (.int (u : Int))), some (.val (.int (u : Int))), none] = .ok (.rt (.val (.bl true))) [some (sc ns), some (.val (.str SG)), some (.val (.str t)), some (.val (.dct [] [])), some (.val (.int (u : Int))), some (.val (.int (u : Int))), none] := by
    simp only [fs_law_texts_6, isiT, C.top, tyD, gl0, beq_t, es, ev.eq_1, ev.eq_2, ev.eq_3, ev.eq_4, ev.eq_5, ev.eq_6, ev.eq_7, ev.eq_8, ev.eq_9, ev.eq_10, ev.eq_11, ev.eq_12, ev.eq_13, ev.eq_14, ev.eq_15, ev.eq_16, ev.eq_17, ev.eq_18, ev.eq_19, ev.eq_20, ev.eq_21, ev.eq_22, ev.eq_23, ev.eq_24, ev.eq_25, ev.eq_26, ev.eq_27, ev.eq_28, ev.eq_29, ev.eq_30, ev.eq_31, ev.eq_32, ev.eq_34, ev.eq_35, ev.eq_36, ev.eq_37, ev_cmp, evs, evP, evA, evAnd, evOr, evC, evS.eq_1, evS.eq_2, evS.eq_3, evS.eq_4, evS.eq_5, evS.eq_6, evS.eq_7, evS.eq_10, evS.eq_11, evS.eq_12, evS.eq_13, evS.eq_14, evS_for, evS_whl, evSs, rsv, runFd, start, bor, pur, purs, isVarB, smp, smps, b_ok, b_exc, o_some, h_val, h_tt, h_f, l_val, l_f, f_val, f_lst, f_tup, f_map, n_add, n_sub, lt_of_lt, c_le, c_gt, c_ge, eq_ii, ne_ii, t_bl, lstAt, modE, modC, setL, setF, endOf, outsOf, callC, ioPos, p_call, p_ios, p_glob, io0, io1, io2, io3, io4, io5, io6, io7, io8, io9, io10, io11, io12, io13, io14, io15, io16, io17, io18, io19, io20, io21, io22, io23, takeIo, putIo, hasBw, bindTg, binding, Tg.slots, wipeE, noexc, Bool.and_true, Bool.true_and, Bool.and_false, Bool.false_and, Bool.or_true, Bool.true_or, Bool.or_false, Bool.false_or, Bool.not_true, Bool.not_false, if_true, if_false, ite_true, ite_false, reduceIte, Bool.false_eq_true, List.length_cons, List.length_nil, List.map_cons, List.map_nil, List.replicate, List.append_nil, List.nil_append, List.cons_append, List.getElem?_cons_zero, List.getElem?_cons_succ, List.set_cons_zero, List.set_cons_succ, List.zip_cons_cons, List.zip_nil_left, List.foldl_cons, List.foldl_nil, Option.map_some, Option.bind_some, Option.map_none, Option.bind_none, Option.isSome_some, C.isVal, len_l, len_c, len_t, Nat.reduceAdd, Nat.reduceSub, Nat.reduceLeDiff, Nat.reduceEqDiff, Nat.zero_add, List.getElem?_nil, Option.isSome_none, it_seqc, it_seql, mkTup, allVal, slH_l]
  rw [r_law_texts]
  exact rt_ios rfl ((q_nx e0).trans <| (q_nx e1).trans <| (q_nx e2).trans <| (q_nx e3).trans <| (q_nx e4).trans <| (q_nx e5).trans <| q_rt e6) rfl
end K01
namespace K01
open Mi
theorem rng_range : ∀ (n : Nat), rangeD 0 n = (List.range n).map fun x : Nat => .int (x : Int) := fun n => by
  apply List.ext_getElem?
  intro i
  rw [List.getElem?_map]
  by_cases h : i < n
  · rw [List.getElem?_range h]
    have hl : i < (rangeD 0 n).length := by rw [rng_len]; exact h
    have := rng_get n 0 i _ (List.getElem?_eq_getElem hl)
    rw [List.getElem?_eq_getElem hl, this.1]
    show some (D.int (0 + (i : Int))) = some (.int (i : Int))
    rw [Int.zero_add]
  · rw [List.getElem?_eq_none (by rw [rng_len]; omega), List.getElem?_eq_none (by rw [List.length_range]; omega)]
    rfl
theorem is_ff : cmpC .isnot (.val (.bl false)) (.val (.bl false)) = some false := rfl
theorem is_tt : cmpC .isnot (.val (.bl true)) (.val (.bl true)) = some false := rfl
theorem is_f : cmpC .is (.val (.bl false)) (.val (.bl false)) = some true := rfl
theorem eq_set : cmpC .eq (.val (.str wSet)) (.val (.str wSet)) = some true := rfl
theorem rng17 : itemsK .rng [.val (.int 1), .val (.int 7)] = some (rangeD 1 6) := rfl
theorem len17 : (rangeD 1 6).length ≤ line := by rw [rng_len]; decide
theorem far_turn (k : Nat) {d : D} (h : NoS d) (ps : Ps) (g : setOk 0 ps = true) (o1 o2 : Option C) : evSs (pk (k + 6)) lb_law_far_right_1 [some (.val (kd ps)), o1, o2, some (.val d), none] = .ok .nx [some (.val (kd ps)), o1, o2, some (.val d), none] := by
  have h0 : run pg (k + 6) 4 [.val d] = .ok (.val (.bl false)) [] := h (k + 3)
  have cl : compLoop (compB (pk (k + 6)) (.cmp .eq (.call 17 [(.var 4), (.var 3), (.var 0)]) (.k (.str [115, 101, 116]))) (.nm 4) []) (rangeD 1 6) [some (.val (kd ps)), o1, o2, some (.val d), none] = .ok ((rangeD 1 6).map fun _ => C.val (.bl true)) [some (.val (kd ps)), o1, o2, some (.val d), none] :=
    compLoop_map _ _ _ fun x hx => by
      obtain ⟨i, hi⟩ := List.mem_iff_getElem?.mp hx
      obtain ⟨rfl, hi⟩ := rng_get _ _ _ _ hi
      have := refused_set k h ps g (1 + (i : Int)) (by omega) (by omega)
      simp only [compB, this, eq_set, ev.eq_1, ev.eq_2, ev.eq_3, ev.eq_4, ev.eq_5, ev.eq_6, ev.eq_7, ev.eq_8, ev.eq_9, ev.eq_10, ev.eq_11, ev.eq_12, ev.eq_13, ev.eq_14, ev.eq_15, ev.eq_16, ev.eq_17, ev.eq_18, ev.eq_19, ev.eq_20, ev.eq_21, ev.eq_22, ev.eq_23, ev.eq_24, ev.eq_25, ev.eq_26, ev.eq_27, ev.eq_28, ev.eq_29, ev.eq_30, ev.eq_31, ev.eq_32, ev.eq_34, ev.eq_35, ev.eq_36, ev.eq_37, ev_cmp, evs, evP, evA, evAnd, evOr, evC, evS.eq_1, evS.eq_2, evS.eq_3, evS.eq_4, evS.eq_5, evS.eq_6, evS.eq_7, evS.eq_10, evS.eq_11, evS.eq_12, evS.eq_13, evS.eq_14, evS_for, evS_whl, evSs, rsv, runFd, start, bor, pur, purs, isVarB, smp, smps, b_ok, b_exc, o_some, h_val, h_tt, h_f, l_val, l_f, f_val, f_lst, f_tup, f_map, n_add, n_sub, lt_of_lt, c_le, c_gt, c_ge, eq_ii, ne_ii, t_bl, lstAt, modE, modC, setL, setF, endOf, outsOf, callC, ioPos, p_call, p_ios, p_glob, io0, io1, io2, io3, io4, io5, io6, io7, io8, io9, io10, io11, io12, io13, io14, io15, io16, io17, io18, io19, io20, io21, io22, io23, takeIo, putIo, hasBw, bindTg, binding, Tg.slots, wipeE, noexc, Bool.and_true, Bool.true_and, Bool.and_false, Bool.false_and, Bool.or_true, Bool.true_or, Bool.or_false, Bool.false_or, Bool.not_true, Bool.not_false, if_true, if_false, ite_true, ite_false, reduceIte, Bool.false_eq_true, List.length_cons, List.length_nil, List.map_cons, List.map_nil, List.replicate, List.append_nil, List.nil_append, List.cons_append, List.getElem?_cons_zero, List.getElem?_cons_succ, List.set_cons_zero, List.set_cons_succ, List.zip_cons_cons, List.zip_nil_left, List.foldl_cons, List.foldl_nil, Option.map_some, Option.bind_some, Option.map_none, Option.bind_none, Option.isSome_some, C.isVal, len_l, len_c, len_t, Nat.reduceAdd, Nat.reduceSub, Nat.reduceLeDiff, Nat.reduceEqDiff, Nat.zero_add, List.getElem?_nil, Option.isSome_none, it_seqc, it_seql, mkTup, allVal, slH_l]
  simp only [lb_law_far_right_1, h0, is_ff, rng17, len17, cl, frz_mapf (fun _ : D => D.bl true), all_true, ev.eq_1, ev.eq_2, ev.eq_3, ev.eq_4, ev.eq_5, ev.eq_6, ev.eq_7, ev.eq_8, ev.eq_9, ev.eq_10, ev.eq_11, ev.eq_12, ev.eq_13, ev.eq_14, ev.eq_15, ev.eq_16, ev.eq_17, ev.eq_18, ev.eq_19, ev.eq_20, ev.eq_21, ev.eq_22, ev.eq_23, ev.eq_24, ev.eq_25, ev.eq_26, ev.eq_27, ev.eq_28, ev.eq_29, ev.eq_30, ev.eq_31, ev.eq_32, ev.eq_34, ev.eq_35, ev.eq_36, ev.eq_37, ev_cmp, evs, evP, evA, evAnd, evOr, evC, evS.eq_1, evS.eq_2, evS.eq_3, evS.eq_4, evS.eq_5, evS.eq_6, evS.eq_7, evS.eq_10, evS.eq_11, evS.eq_12, evS.eq_13, evS.eq_14, evS_for, evS_whl, evSs, rsv, runFd, start, bor, pur, purs, isVarB, smp, smps, b_ok, b_exc, o_some, h_val, h_tt, h_f, l_val, l_f, f_val, f_lst, f_tup, f_map, n_add, n_sub, lt_of_lt, c_le, c_gt, c_ge, eq_ii, ne_ii, t_bl, lstAt, modE, modC, setL, setF, endOf, outsOf, callC, ioPos, p_call, p_ios, p_glob, io0, io1, io2, io3, io4, io5, io6, io7, io8, io9, io10, io11, io12, io13, io14, io15, io16, io17, io18, io19, io20, io21, io22, io23, takeIo, putIo, hasBw, bindTg, binding, Tg.slots, wipeE, noexc, Bool.and_true, Bool.true_and, Bool.and_false, Bool.false_and, Bool.or_true, Bool.true_or, Bool.or_false, Bool.false_or, Bool.not_true, Bool.not_false, if_true, if_false, ite_true, ite_false, reduceIte, Bool.false_eq_true, List.length_cons, List.length_nil, List.map_cons, List.map_nil, List.replicate, List.append_nil, List.nil_append, List.cons_append, List.getElem?_cons_zero, List.getElem?_cons_succ, List.set_cons_zero, List.set_cons_succ, List.zip_cons_cons, List.zip_nil_left, List.foldl_cons, List.foldl_nil, Option.map_some, Option.bind_some, Option.map_none, Option.bind_none, Option.isSome_some, C.isVal, len_l, len_c, len_t, Nat.reduceAdd, Nat.reduceSub, Nat.reduceLeDiff, Nat.reduceEqDiff, Nat.zero_add, List.getElem?_nil, Option.isSome_none, it_seqc, it_seql, mkTup, allVal, slH_l]
theorem NoS.of (ds : List D) (h : D.plains ds = true) (g : setB 0 ds = false) : NoS (.tup ds) := fun k => by
  have := set_any k ds h
  rw [g] at this
  exact this
theorem far_ok (k : Nat) (ps : Ps) (g : setOk 0 ps = true) : run pg (k + 7) 22 [.val (kd ps)] = .ok (.val (.bl true)) [] := by
  obtain ⟨e', h1, z, o2, hz, he⟩ := forLoop_inv0 (f := forB (pk (k + 6)) (.nm 2) lb_law_far_right_0) (fun i e => ∃ (z : Int) (o2 : Option C), (i : Int) + 1 ≤ z ∧ e = [some (.val (kd ps)), some (.val (.int z)), o2, none, none]) (rangeD 0 3000) [some (.val (kd ps)), some (.val (.int 1)), none, none, none] (fun i d e hd ⟨z, o2, hz, he⟩ => by
    subst he
    have m := n_mulr z 50 (by decide)
    refine ⟨[some (.val (kd ps)), some (.val (.int (z * 50))), some (.val d), none, none], .inl ?_, z * 50, some (.val d), by omega, rfl⟩
    rw [forB_nm]
    simp only [lb_law_far_right_0, m, ev.eq_1, ev.eq_2, ev.eq_3, ev.eq_4, ev.eq_5, ev.eq_6, ev.eq_7, ev.eq_8, ev.eq_9, ev.eq_10, ev.eq_11, ev.eq_12, ev.eq_13, ev.eq_14, ev.eq_15, ev.eq_16, ev.eq_17, ev.eq_18, ev.eq_19, ev.eq_20, ev.eq_21, ev.eq_22, ev.eq_23, ev.eq_24, ev.eq_25, ev.eq_26, ev.eq_27, ev.eq_28, ev.eq_29, ev.eq_30, ev.eq_31, ev.eq_32, ev.eq_34, ev.eq_35, ev.eq_36, ev.eq_37, ev_cmp, evs, evP, evA, evAnd, evOr, evC, evS.eq_1, evS.eq_2, evS.eq_3, evS.eq_4, evS.eq_5, evS.eq_6, evS.eq_7, evS.eq_10, evS.eq_11, evS.eq_12, evS.eq_13, evS.eq_14, evS_for, evS_whl, evSs, rsv, runFd, start, bor, pur, purs, isVarB, smp, smps, b_ok, b_exc, o_some, h_val, h_tt, h_f, l_val, l_f, f_val, f_lst, f_tup, f_map, n_add, n_sub, lt_of_lt, c_le, c_gt, c_ge, eq_ii, ne_ii, t_bl, lstAt, modE, modC, setL, setF, endOf, outsOf, callC, ioPos, p_call, p_ios, p_glob, io0, io1, io2, io3, io4, io5, io6, io7, io8, io9, io10, io11, io12, io13, io14, io15, io16, io17, io18, io19, io20, io21, io22, io23, takeIo, putIo, hasBw, bindTg, binding, Tg.slots, wipeE, noexc, Bool.and_true, Bool.true_and, Bool.and_false, Bool.false_and, Bool.or_true, Bool.true_or, Bool.or_false, Bool.false_or, Bool.not_true, Bool.not_false, if_true, if_false, ite_true, ite_false, reduceIte, Bool.false_eq_true, List.length_cons, List.length_nil, List.map_cons, List.map_nil, List.replicate, List.append_nil, List.nil_append, List.cons_append, List.getElem?_cons_zero, List.getElem?_cons_succ, List.set_cons_zero, List.set_cons_succ, List.zip_cons_cons, List.zip_nil_left, List.foldl_cons, List.foldl_nil, Option.map_some, Option.bind_some, Option.map_none, Option.bind_none, Option.isSome_some, C.isVal, len_l, len_c, len_t, Nat.reduceAdd, Nat.reduceSub, Nat.reduceLeDiff, Nat.reduceEqDiff, Nat.zero_add, List.getElem?_nil, Option.isSome_none, it_seqc, it_seql, mkTup, allVal, slH_l]) ⟨1, none, by omega, rfl⟩
  rw [rng_len] at hz
  subst he
  have hrg : itemsK .rng [.val (.int 3000)] = some (rangeD 0 3000) := it_rng 3000 ⟨by decide, by decide⟩
  have e0 : evS (pk (k + 6)) fs_law_far_right_0 [some (.val (kd ps)), none, none, none, none] = .ok .nx [some (.val (kd ps)), some (.val (.int 1)), none, none, none] := rfl
  have e1 : evS (pk (k + 6)) fs_law_far_right_1 [some (.val (kd ps)), some (.val (.int 1)), none, none, none] = .ok .nx [some (.val (kd ps)), some (.val (.int z)), o2, none, none] := by
    have he : evs (pk (k + 6)) [.k (.int 3000)] [some (.val (kd ps)), some (.val (.int 1)), none, none, none] = .ok [.val (.int 3000)] [some (.val (kd ps)), some (.val (.int 1)), none, none, none] := rfl
    rw [fs_law_far_right_1, evS_for, he, b_ok, hrg]
    exact h1
  have zn : decide (z < 96) = false := decide_eq_false (by omega)
  have zm : decide ((0 : Int) ≤ 0 - z) = false := decide_eq_false (by omega)
  have e2 : evS (pk (k + 6)) fs_law_far_right_2 [some (.val (kd ps)), some (.val (.int z)), o2, none, none] = .ok .nx [some (.val (kd ps)), some (.val (.int z)), o2, some (.val (.int z)), none] := by
    have he : evs (pk (k + 6)) [(.tup [(.tup [(.tup [(.k (.int 0)), (.var 1)])]), (.tup [(.tup [(.bin .sub (.k (.int 0)) (.var 1)), (.k (.int 5))])]), (.tup [(.tup [(.var 1), (.var 1)])]), (.tup [(.tup [(.k (.int 0)), (.k (.int 3))]), (.tup [(.k (.int 5)), (.var 1)])]), (.var 1)])] [some (.val (kd ps)), some (.val (.int z)), o2, none, none] = .ok [.val (.tup [.tup [.tup [.int 0, .int z]], .tup [.tup [.int (0 - z), .int 5]], .tup [.tup [.int z, .int z]], .tup [.tup [.int 0, .int 3], .tup [.int 5, .int z]], .int z])] [some (.val (kd ps)), some (.val (.int z)), o2, none, none] := by
      simp only [ev.eq_1, ev.eq_2, ev.eq_3, ev.eq_4, ev.eq_5, ev.eq_6, ev.eq_7, ev.eq_8, ev.eq_9, ev.eq_10, ev.eq_11, ev.eq_12, ev.eq_13, ev.eq_14, ev.eq_15, ev.eq_16, ev.eq_17, ev.eq_18, ev.eq_19, ev.eq_20, ev.eq_21, ev.eq_22, ev.eq_23, ev.eq_24, ev.eq_25, ev.eq_26, ev.eq_27, ev.eq_28, ev.eq_29, ev.eq_30, ev.eq_31, ev.eq_32, ev.eq_34, ev.eq_35, ev.eq_36, ev.eq_37, ev_cmp, evs, evP, evA, evAnd, evOr, evC, evS.eq_1, evS.eq_2, evS.eq_3, evS.eq_4, evS.eq_5, evS.eq_6, evS.eq_7, evS.eq_10, evS.eq_11, evS.eq_12, evS.eq_13, evS.eq_14, evS_for, evS_whl, evSs, rsv, runFd, start, bor, pur, purs, isVarB, smp, smps, b_ok, b_exc, o_some, h_val, h_tt, h_f, l_val, l_f, f_val, f_lst, f_tup, f_map, n_add, n_sub, lt_of_lt, c_le, c_gt, c_ge, eq_ii, ne_ii, t_bl, lstAt, modE, modC, setL, setF, endOf, outsOf, callC, ioPos, p_call, p_ios, p_glob, io0, io1, io2, io3, io4, io5, io6, io7, io8, io9, io10, io11, io12, io13, io14, io15, io16, io17, io18, io19, io20, io21, io22, io23, takeIo, putIo, hasBw, bindTg, binding, Tg.slots, wipeE, noexc, Bool.and_true, Bool.true_and, Bool.and_false, Bool.false_and, Bool.or_true, Bool.true_or, Bool.or_false, Bool.false_or, Bool.not_true, Bool.not_false, if_true, if_false, ite_true, ite_false, reduceIte, Bool.false_eq_true, List.length_cons, List.length_nil, List.map_cons, List.map_nil, List.replicate, List.append_nil, List.nil_append, List.cons_append, List.getElem?_cons_zero, List.getElem?_cons_succ, List.set_cons_zero, List.set_cons_succ, List.zip_cons_cons, List.zip_nil_left, List.foldl_cons, List.foldl_nil, Option.map_some, Option.bind_some, Option.map_none, Option.bind_none, Option.isSome_some, C.isVal, len_l, len_c, len_t, Nat.reduceAdd, Nat.reduceSub, Nat.reduceLeDiff, Nat.reduceEqDiff, Nat.zero_add, List.getElem?_nil, Option.isSome_none, it_seqc, it_seql, mkTup, allVal, slH_l]
    have n1 : NoS (.tup [.tup [.int 0, .int z]]) := .of _ rfl (by simp [setB, pairB, numB, zn])
    have n2 : NoS (.tup [.tup [.int (0 - z), .int 5]]) := .of _ rfl (by simp only [setB, pairB, numB, zm, Bool.false_and])
    have n3 : NoS (.tup [.tup [.int z, .int z]]) := .of _ rfl (by simp [setB, pairB, numB, zn])
    have n4 : NoS (.tup [.tup [.int 0, .int 3], .tup [.int 5, .int z]]) := .of _ rfl (by simp [setB, pairB, numB, zn])
    have n5 : NoS (.int z) := fun k => set_nt k _ rfl rfl
    rw [fs_law_far_right_2, evS_for, he, b_ok, it_tup]
    exact (fl_nx (far_turn k n1 ps g _ _)).trans <| (fl_nx (far_turn k n2 ps g _ _)).trans <| (fl_nx (far_turn k n3 ps g _ _)).trans <| (fl_nx (far_turn k n4 ps g _ _)).trans <| (fl_nx (far_turn k n5 ps g _ _)).trans rfl
  rw [r_law_far_right]
  exact rt_ios rfl ((q_nx e0).trans <| (q_nx e1).trans <| (q_nx e2).trans <| q_rt rfl) rfl
/-! ### the things that are none -/
def thA (u : Int) : List D := [.tup [.tup [.int (u + 3), .int (u + 1)]], .tup [.tup [.int u, .int (u + 2)], .tup [.int (u + 3), .int (u + 4)]], .tup [.tup [.int u, .int (u + 3)], .tup [.int (u + 2), .int (u + 5)]]]
def thB (u : Int) : List D := [.tup [.tup [.int (u + 4), .int (u + 5)], .tup [.int u, .int (u + 1)]], .tup [.tup [.int (-1), .int u]], .tup [.tup [.int u, .int 96]], .tup [.tup [.int u, .int u, .int u]], .tup [.tup [.int u]]]
def thC (u : Int) : List D := [.tup [.lst [.int u, .int u]], .lst [.tup [.int u, .int u]], .tup [.tup [.bl true, .int 4]], .tup [.tup [.int 0, .bl true]], .tup [.tup [.int u, .str [57]]], .tup [.tup [.str [97], .str [98]]], .tup [.int u, .int u]]
def thD (u : Int) : List D := [.non, .int 7, .str [97, 98], .dct [] [], .tup [.non], .tup [.tup [.int u, .non]], .tup [.tup []], .tup [.lst []], .tup [.tup [.int u, .int u], .tup [.int u, .int u]]]
def thE : List D := [.tup [.tup [.bl false, .int 4]], .tup [.tup [.int 0, .bl false]]]
def thO : List D := [.tup [.int 2, .int 96], .tup [.int 2, .bl true], .tup [.int 2, .str [57]], .tup [.int 2, .int 3, .int 4], .tup [.int 2], .non, .lst [.int 2, .int 3], .tup [.int 2, .non], .tup []]
def thF : List D := thO.map fun d => .tup [.tup [.int 0, .int 0], d]
def things (u : Int) : List D := thA u ++ thB u ++ thC u ++ thD u ++ thE ++ thF
def noSB : D → Bool
  | .tup ds => D.plains ds && !setB 0 ds
  | .obj _ _ _ => false
  | .exc _ => false
  | _ => true
theorem noSB_ok {d : D} (h : noSB d = true) : NoS d := by
  cases d with
  | tup ds =>
    rw [noSB, Bool.and_eq_true] at h
    exact .of ds h.1 (by have := h.2; cases hb : setB 0 ds <;> simp_all)
  | obj a b c => cases h
  | exc a => cases h
  | _ => exact fun k => set_nt k _ rfl rfl
theorem things_no (n : Nat) (h : n < 90) : ∀ d ∈ things (n : Int), NoS d := by
  have a : ((List.range 90).all fun n : Nat => (things (n : Int)).all noSB) = true := by decide +kernel
  intro d hd
  exact noSB_ok (List.all_eq_true.mp (List.all_eq_true.mp a n (List.mem_range.mpr h)) d hd)
theorem bin_ok {P : Pr} {o : Bop} {a b : ME} {e : Env} {x x' y y' : C} (h1 : ev P a e = .ok x e) (h2 : hold (bor a) (pur b) x e = .ok x' e) (h3 : ev P b e = .ok y e) (h4 : hold (bor b) true y e = .ok y' e) : ev P (.bin o a b) e = ofOpt (binC o x' y') e := by
  rw [ev, h1, b_ok, h2, b_ok, h3, b_ok, h4, b_ok]
theorem no_sets_ok (k : Nat) (c : Int) : run pg (k + 1) 18 [.val (.int c)] = .ok (.lst ((things (c % 90)).map .val)) [] := by
  have m := n_mod c 90 (by decide)
  have e0 : evS (pk k) fs_law_no_sets_0 [some (.val (.int c)), none, none, none, none] = .ok .nx [some (.val (.int c)), some (.val (.int (c % 90))), none, none, none] := by
    simp only [fs_law_no_sets_0, m, ev.eq_1, ev.eq_2, ev.eq_3, ev.eq_4, ev.eq_5, ev.eq_6, ev.eq_7, ev.eq_8, ev.eq_9, ev.eq_10, ev.eq_11, ev.eq_12, ev.eq_13, ev.eq_14, ev.eq_15, ev.eq_16, ev.eq_17, ev.eq_18, ev.eq_19, ev.eq_20, ev.eq_21, ev.eq_22, ev.eq_23, ev.eq_24, ev.eq_25, ev.eq_26, ev.eq_27, ev.eq_28, ev.eq_29, ev.eq_30, ev.eq_31, ev.eq_32, ev.eq_34, ev.eq_35, ev.eq_36, ev.eq_37, ev_cmp, evs, evP, evA, evAnd, evOr, evC, evS.eq_1, evS.eq_2, evS.eq_3, evS.eq_4, evS.eq_5, evS.eq_6, evS.eq_7, evS.eq_10, evS.eq_11, evS.eq_12, evS.eq_13, evS.eq_14, evS_for, evS_whl, evSs, rsv, runFd, start, bor, pur, purs, isVarB, smp, smps, b_ok, b_exc, o_some, h_val, h_tt, h_f, l_val, l_f, f_val, f_lst, f_tup, f_map, n_add, n_sub, lt_of_lt, c_le, c_gt, c_ge, eq_ii, ne_ii, t_bl, lstAt, modE, modC, setL, setF, endOf, outsOf, callC, ioPos, p_call, p_ios, p_glob, io0, io1, io2, io3, io4, io5, io6, io7, io8, io9, io10, io11, io12, io13, io14, io15, io16, io17, io18, io19, io20, io21, io22, io23, takeIo, putIo, hasBw, bindTg, binding, Tg.slots, wipeE, noexc, Bool.and_true, Bool.true_and, Bool.and_false, Bool.false_and, Bool.or_true, Bool.true_or, Bool.or_false, Bool.false_or, Bool.not_true, Bool.not_false, if_true, if_false, ite_true, ite_false, reduceIte, Bool.false_eq_true, List.length_cons, List.length_nil, List.map_cons, List.map_nil, List.replicate, List.append_nil, List.nil_append, List.cons_append, List.getElem?_cons_zero, List.getElem?_cons_succ, List.set_cons_zero, List.set_cons_succ, List.zip_cons_cons, List.zip_nil_left, List.foldl_cons, List.foldl_nil, Option.map_some, Option.bind_some, Option.map_none, Option.bind_none, Option.isSome_some, C.isVal, len_l, len_c, len_t, Nat.reduceAdd, Nat.reduceSub, Nat.reduceLeDiff, Nat.reduceEqDiff, Nat.zero_add, List.getElem?_nil, Option.isSome_none, it_seqc, it_seql, mkTup, allVal, slH_l]
  generalize c % 90 = u at *
  have e1 : evS (pk k) fs_law_no_sets_1 [some (.val (.int c)), some (.val (.int u)), none, none, none] = .ok .nx [some (.val (.int c)), some (.val (.int u)), some (.val (.lst (thA u))), none, none] := rfl
  have step : ∀ (s : MS) (a : ME) (X Y : List D) (o3 : Option C) (x : C), s = .asg true (.nm 2) (.bin .add (.var 2) a) → ev (pk k) a [some (.val (.int c)), some (.val (.int u)), some (.val (.lst X)), o3, none] = .ok x [some (.val (.int c)), some (.val (.int u)), some (.val (.lst X)), o3, none] → x.frz = .lst Y → bor a = false → X.length + Y.length ≤ line → evS (pk k) s [some (.val (.int c)), some (.val (.int u)), some (.val (.lst X)), o3, none] = .ok .nx [some (.val (.int c)), some (.val (.int u)), some (.val (.lst (X ++ Y))), o3, none] := by
    intro s a X Y o3 x hs ha hx hb hl
    subst hs
    have ad := l_add X Y hl
    have hp : bor (.bin .add (.var 2) a) = false := rfl
    simp only [ha, hb, hx, ad, ev.eq_1, ev.eq_2, ev.eq_3, ev.eq_4, ev.eq_5, ev.eq_6, ev.eq_7, ev.eq_8, ev.eq_9, ev.eq_10, ev.eq_11, ev.eq_12, ev.eq_13, ev.eq_14, ev.eq_15, ev.eq_16, ev.eq_17, ev.eq_18, ev.eq_19, ev.eq_20, ev.eq_21, ev.eq_22, ev.eq_23, ev.eq_24, ev.eq_25, ev.eq_26, ev.eq_27, ev.eq_28, ev.eq_29, ev.eq_30, ev.eq_31, ev.eq_32, ev.eq_34, ev.eq_35, ev.eq_36, ev.eq_37, ev_cmp, evs, evP, evA, evAnd, evOr, evC, evS.eq_1, evS.eq_2, evS.eq_3, evS.eq_4, evS.eq_5, evS.eq_6, evS.eq_7, evS.eq_10, evS.eq_11, evS.eq_12, evS.eq_13, evS.eq_14, evS_for, evS_whl, evSs, rsv, runFd, start, bor, pur, purs, isVarB, smp, smps, b_ok, b_exc, o_some, h_val, h_tt, h_f, l_val, l_f, f_val, f_lst, f_tup, f_map, n_add, n_sub, lt_of_lt, c_le, c_gt, c_ge, eq_ii, ne_ii, t_bl, lstAt, modE, modC, setL, setF, endOf, outsOf, callC, ioPos, p_call, p_ios, p_glob, io0, io1, io2, io3, io4, io5, io6, io7, io8, io9, io10, io11, io12, io13, io14, io15, io16, io17, io18, io19, io20, io21, io22, io23, takeIo, putIo, hasBw, bindTg, binding, Tg.slots, wipeE, noexc, Bool.and_true, Bool.true_and, Bool.and_false, Bool.false_and, Bool.or_true, Bool.true_or, Bool.or_false, Bool.false_or, Bool.not_true, Bool.not_false, if_true, if_false, ite_true, ite_false, reduceIte, Bool.false_eq_true, List.length_cons, List.length_nil, List.map_cons, List.map_nil, List.replicate, List.append_nil, List.nil_append, List.cons_append, List.getElem?_cons_zero, List.getElem?_cons_succ, List.set_cons_zero, List.set_cons_succ, List.zip_cons_cons, List.zip_nil_left, List.foldl_cons, List.foldl_nil, Option.map_some, Option.bind_some, Option.map_none, Option.bind_none, Option.isSome_some, C.isVal, len_l, len_c, len_t, Nat.reduceAdd, Nat.reduceSub, Nat.reduceLeDiff, Nat.reduceEqDiff, Nat.zero_add, List.getElem?_nil, Option.isSome_none, it_seqc, it_seql, mkTup, allVal, slH_l]
  have e2 : evS (pk k) fs_law_no_sets_2 [some (.val (.int c)), some (.val (.int u)), some (.val (.lst (thA u))), none, none] = _ := step _ _ (thA u) (thB u) none _ rfl rfl rfl rfl (by show 3 + 5 ≤ 16777216; decide)
  have e3 : evS (pk k) fs_law_no_sets_3 [some (.val (.int c)), some (.val (.int u)), some (.val (.lst (thA u ++ thB u))), none, none] = _ := step _ _ (thA u ++ thB u) (thC u) none (.lst _) rfl rfl rfl rfl (by rw [List.length_append]; show 3 + 5 + 7 ≤ 16777216; decide)
  have e4 : evS (pk k) fs_law_no_sets_4 [some (.val (.int c)), some (.val (.int u)), some (.val (.lst (thA u ++ thB u ++ thC u))), none, none] = _ := step _ _ (thA u ++ thB u ++ thC u) (thD u) none (.lst _) rfl rfl rfl rfl (by rw [List.length_append, List.length_append]; show 3 + 5 + 7 + 9 ≤ 16777216; decide)
  have e5 : evS (pk k) fs_law_no_sets_5 [some (.val (.int c)), some (.val (.int u)), some (.val (.lst (thA u ++ thB u ++ thC u ++ thD u))), none, none] = _ := step _ _ (thA u ++ thB u ++ thC u ++ thD u) thE none (.lst _) rfl rfl rfl rfl (by rw [List.length_append, List.length_append, List.length_append]; show 3 + 5 + 7 + 9 + 2 ≤ 16777216; decide)
  have e6 : evS (pk k) fs_law_no_sets_6 [some (.val (.int c)), some (.val (.int u)), some (.val (.lst (thA u ++ thB u ++ thC u ++ thD u ++ thE))), none, none] = .ok .nx [some (.val (.int c)), some (.val (.int u)), some (.val (.lst (thA u ++ thB u ++ thC u ++ thD u ++ thE))), some (.val (.lst thO)), none] := rfl
  have cl : compLoop (compB (pk k) (.tup [(.tup [(.k (.int 0)), (.k (.int 0))]), (.var 4)]) (.nm 4) []) thO [some (.val (.int c)), some (.val (.int u)), some (.val (.lst (thA u ++ thB u ++ thC u ++ thD u ++ thE))), some (.val (.lst thO)), none] = .ok (thO.map fun d => C.val (.tup [.tup [.int 0, .int 0], d])) [some (.val (.int c)), some (.val (.int u)), some (.val (.lst (thA u ++ thB u ++ thC u ++ thD u ++ thE))), some (.val (.lst thO)), none] :=
    compLoop_map _ _ _ fun d hd => by simp only [compB, ev.eq_1, ev.eq_2, ev.eq_3, ev.eq_4, ev.eq_5, ev.eq_6, ev.eq_7, ev.eq_8, ev.eq_9, ev.eq_10, ev.eq_11, ev.eq_12, ev.eq_13, ev.eq_14, ev.eq_15, ev.eq_16, ev.eq_17, ev.eq_18, ev.eq_19, ev.eq_20, ev.eq_21, ev.eq_22, ev.eq_23, ev.eq_24, ev.eq_25, ev.eq_26, ev.eq_27, ev.eq_28, ev.eq_29, ev.eq_30, ev.eq_31, ev.eq_32, ev.eq_34, ev.eq_35, ev.eq_36, ev.eq_37, ev_cmp, evs, evP, evA, evAnd, evOr, evC, evS.eq_1, evS.eq_2, evS.eq_3, evS.eq_4, evS.eq_5, evS.eq_6, evS.eq_7, evS.eq_10, evS.eq_11, evS.eq_12, evS.eq_13, evS.eq_14, evS_for, evS_whl, evSs, rsv, runFd, start, bor, pur, purs, isVarB, smp, smps, b_ok, b_exc, o_some, h_val, h_tt, h_f, l_val, l_f, f_val, f_lst, f_tup, f_map, n_add, n_sub, lt_of_lt, c_le, c_gt, c_ge, eq_ii, ne_ii, t_bl, lstAt, modE, modC, setL, setF, endOf, outsOf, callC, ioPos, p_call, p_ios, p_glob, io0, io1, io2, io3, io4, io5, io6, io7, io8, io9, io10, io11, io12, io13, io14, io15, io16, io17, io18, io19, io20, io21, io22, io23, takeIo, putIo, hasBw, bindTg, binding, Tg.slots, wipeE, noexc, Bool.and_true, Bool.true_and, Bool.and_false, Bool.false_and, Bool.or_true, Bool.true_or, Bool.or_false, Bool.false_or, Bool.not_true, Bool.not_false, if_true, if_false, ite_true, ite_false, reduceIte, Bool.false_eq_true, List.length_cons, List.length_nil, List.map_cons, List.map_nil, List.replicate, List.append_nil, List.nil_append, List.cons_append, List.getElem?_cons_zero, List.getElem?_cons_succ, List.set_cons_zero, List.set_cons_succ, List.zip_cons_cons, List.zip_nil_left, List.foldl_cons, List.foldl_nil, Option.map_some, Option.bind_some, Option.map_none, Option.bind_none, Option.isSome_some, C.isVal, len_l, len_c, len_t, Nat.reduceAdd, Nat.reduceSub, Nat.reduceLeDiff, Nat.reduceEqDiff, Nat.zero_add, List.getElem?_nil, Option.isSome_none, it_seqc, it_seql, mkTup, allVal, slH_l]
  have lo : thO.length ≤ line := by decide
  have ce : ev (pk k) (.comp (.tup [(.tup [(.k (.int 0)), (.k (.int 0))]), (.var 4)]) (.nm 4) .seq [(.var 3)] []) [some (.val (.int c)), some (.val (.int u)), some (.val (.lst (thA u ++ thB u ++ thC u ++ thD u ++ thE))), some (.val (.lst thO)), none] = .ok (.lst (thF.map .val)) [some (.val (.int c)), some (.val (.int u)), some (.val (.lst (thA u ++ thB u ++ thC u ++ thD u ++ thE))), some (.val (.lst thO)), none] := by
    simp only [lo, cl, thF, List.map_map, ev.eq_1, ev.eq_2, ev.eq_3, ev.eq_4, ev.eq_5, ev.eq_6, ev.eq_7, ev.eq_8, ev.eq_9, ev.eq_10, ev.eq_11, ev.eq_12, ev.eq_13, ev.eq_14, ev.eq_15, ev.eq_16, ev.eq_17, ev.eq_18, ev.eq_19, ev.eq_20, ev.eq_21, ev.eq_22, ev.eq_23, ev.eq_24, ev.eq_25, ev.eq_26, ev.eq_27, ev.eq_28, ev.eq_29, ev.eq_30, ev.eq_31, ev.eq_32, ev.eq_34, ev.eq_35, ev.eq_36, ev.eq_37, ev_cmp, evs, evP, evA, evAnd, evOr, evC, evS.eq_1, evS.eq_2, evS.eq_3, evS.eq_4, evS.eq_5, evS.eq_6, evS.eq_7, evS.eq_10, evS.eq_11, evS.eq_12, evS.eq_13, evS.eq_14, evS_for, evS_whl, evSs, rsv, runFd, start, bor, pur, purs, isVarB, smp, smps, b_ok, b_exc, o_some, h_val, h_tt, h_f, l_val, l_f, f_val, f_lst, f_tup, f_map, n_add, n_sub, lt_of_lt, c_le, c_gt, c_ge, eq_ii, ne_ii, t_bl, lstAt, modE, modC, setL, setF, endOf, outsOf, callC, ioPos, p_call, p_ios, p_glob, io0, io1, io2, io3, io4, io5, io6, io7, io8, io9, io10, io11, io12, io13, io14, io15, io16, io17, io18, io19, io20, io21, io22, io23, takeIo, putIo, hasBw, bindTg, binding, Tg.slots, wipeE, noexc, Bool.and_true, Bool.true_and, Bool.and_false, Bool.false_and, Bool.or_true, Bool.true_or, Bool.or_false, Bool.false_or, Bool.not_true, Bool.not_false, if_true, if_false, ite_true, ite_false, reduceIte, Bool.false_eq_true, List.length_cons, List.length_nil, List.map_cons, List.map_nil, List.replicate, List.append_nil, List.nil_append, List.cons_append, List.getElem?_cons_zero, List.getElem?_cons_succ, List.set_cons_zero, List.set_cons_succ, List.zip_cons_cons, List.zip_nil_left, List.foldl_cons, List.foldl_nil, Option.map_some, Option.bind_some, Option.map_none, Option.bind_none, Option.isSome_some, C.isVal, len_l, len_c, len_t, Nat.reduceAdd, Nat.reduceSub, Nat.reduceLeDiff, Nat.reduceEqDiff, Nat.zero_add, List.getElem?_nil, Option.isSome_none, it_seqc, it_seql, mkTup, allVal, slH_l]
    rfl
  have e7 : evS (pk k) fs_law_no_sets_7 [some (.val (.int c)), some (.val (.int u)), some (.val (.lst (thA u ++ thB u ++ thC u ++ thD u ++ thE))), some (.val (.lst thO)), none] = .ok (.rt (.lst ((things u).map .val))) [some (.val (.int c)), some (.val (.int u)), some (.val (.lst (thA u ++ thB u ++ thC u ++ thD u ++ thE))), some (.val (.lst thO)), none] := by
    have ad := l_add (thA u ++ thB u ++ thC u ++ thD u ++ thE) thF (by rw [List.length_append, List.length_append, List.length_append, List.length_append]; show 3 + 5 + 7 + 9 + 2 + 9 ≤ 16777216; decide)
    have ad : binC .add _ _ = some (.lst ((things u).map .val)) := ad
    have : ev (pk k) (.bin .add (.var 2) (.comp (.tup [(.tup [(.k (.int 0)), (.k (.int 0))]), (.var 4)]) (.nm 4) .seq [(.var 3)] [])) [some (.val (.int c)), some (.val (.int u)), some (.val (.lst (thA u ++ thB u ++ thC u ++ thD u ++ thE))), some (.val (.lst thO)), none] = .ok (.lst ((things u).map .val)) [some (.val (.int c)), some (.val (.int u)), some (.val (.lst (thA u ++ thB u ++ thC u ++ thD u ++ thE))), some (.val (.lst thO)), none] := by
      refine (bin_ok (x := .val (.lst (thA u ++ thB u ++ thC u ++ thD u ++ thE))) (x' := .val (.lst (thA u ++ thB u ++ thC u ++ thD u ++ thE))) rfl (h_val _ _ _ _) ce (y' := .val (.lst thF)) ?_).trans ?_
      · show Res.ok (C.val (C.lst (thF.map .val)).frz) _ = _
        rw [f_lst, f_map]
      · rw [ad]
        rfl
    rw [fs_law_no_sets_7, evS, this]
    rfl
  rw [r_law_no_sets]
  exact rt_ios rfl ((q_nx e0).trans <| (q_nx e1).trans <| (q_nx e2).trans <| (q_nx e3).trans <| (q_nx e4).trans <| (q_nx e5).trans <| (q_nx e6).trans <| q_rt e7) rfl
end K01
namespace K01
open Mi
theorem cells7 (ns : List Int) (off : Nat) (o1 : Option C) : ∃ c r, compLoop (compB (pk 39) (.call 12 [(.var 0), (.bin .add (.k (.int (off : Int))) (.var 8))]) (.nm 8) []) (rangeD 0 7) [some (sc ns), o1, none, none, none, none, none, none, none, none, none] = .ok (((c :: r).map D.int).map C.val) [some (sc ns), o1, none, none, none, none, none, none, none, none, none] := by
  refine ⟨ns[off]?.getD 0, [1, 2, 3, 4, 5, 6].map fun j => ns[off + j]?.getD 0, ?_⟩
  refine comp_get _ (rangeD 0 7) _ rfl fun i d o hd ho => ?_
  obtain ⟨rfl, hi⟩ := rng_get _ _ _ _ hd
  have e : o = .int (ns[off + i]?.getD 0) := by
    have : i = 0 ∨ i = 1 ∨ i = 2 ∨ i = 3 ∨ i = 4 ∨ i = 5 ∨ i = 6 := by omega
    rcases this with rfl | rfl | rfl | rfl | rfl | rfl | rfl <;> exact (Option.some.inj ho).symm
  subst e
  have c := cell_ok 38 ns (off + i)
  have c : run pg 39 12 [sc ns, .val (.int ((off : Int) + (0 + (i : Int))))] = .ok (.val (.int (ns[off + i]?.getD 0))) [] := by
    rw [show (off : Int) + (0 + (i : Int)) = ((off + i : Nat) : Int) by omega]
    exact c
  simp only [compB, c, ev.eq_1, ev.eq_2, ev.eq_3, ev.eq_4, ev.eq_5, ev.eq_6, ev.eq_7, ev.eq_8, ev.eq_9, ev.eq_10, ev.eq_11, ev.eq_12, ev.eq_13, ev.eq_14, ev.eq_15, ev.eq_16, ev.eq_17, ev.eq_18, ev.eq_19, ev.eq_20, ev.eq_21, ev.eq_22, ev.eq_23, ev.eq_24, ev.eq_25, ev.eq_26, ev.eq_27, ev.eq_28, ev.eq_29, ev.eq_30, ev.eq_31, ev.eq_32, ev.eq_34, ev.eq_35, ev.eq_36, ev.eq_37, ev_cmp, evs, evP, evA, evAnd, evOr, evC, evS.eq_1, evS.eq_2, evS.eq_3, evS.eq_4, evS.eq_5, evS.eq_6, evS.eq_7, evS.eq_10, evS.eq_11, evS.eq_12, evS.eq_13, evS.eq_14, evS_for, evS_whl, evSs, rsv, runFd, start, bor, pur, purs, isVarB, smp, smps, b_ok, b_exc, o_some, h_val, h_tt, h_f, l_val, l_f, f_val, f_lst, f_tup, f_map, n_add, n_sub, lt_of_lt, c_le, c_gt, c_ge, eq_ii, ne_ii, t_bl, lstAt, modE, modC, setL, setF, endOf, outsOf, callC, ioPos, p_call, p_ios, p_glob, io0, io1, io2, io3, io4, io5, io6, io7, io8, io9, io10, io11, io12, io13, io14, io15, io16, io17, io18, io19, io20, io21, io22, io23, takeIo, putIo, hasBw, bindTg, binding, Tg.slots, wipeE, noexc, Bool.and_true, Bool.true_and, Bool.and_false, Bool.false_and, Bool.or_true, Bool.true_or, Bool.or_false, Bool.false_or, Bool.not_true, Bool.not_false, if_true, if_false, ite_true, ite_false, reduceIte, Bool.false_eq_true, List.length_cons, List.length_nil, List.map_cons, List.map_nil, List.replicate, List.append_nil, List.nil_append, List.cons_append, List.getElem?_cons_zero, List.getElem?_cons_succ, List.set_cons_zero, List.set_cons_succ, List.zip_cons_cons, List.zip_nil_left, List.foldl_cons, List.foldl_nil, Option.map_some, Option.bind_some, Option.map_none, Option.bind_none, Option.isSome_some, C.isVal, len_l, len_c, len_t, Nat.reduceAdd, Nat.reduceSub, Nat.reduceLeDiff, Nat.reduceEqDiff, Nat.zero_add, List.getElem?_nil, Option.isSome_none, it_seqc, it_seql, mkTup, allVal, slH_l]
theorem pair_flags (o0 o3 o4 o5 : Option C) (elt : ME) (w : Bool → Bool → Bool) (f g : Nat → Bool) (h : ∀ x : Nat, x < 96 → ev (pk 39) elt [o0, some (.val (.lst (FD f))), some (.val (.lst (FD g))), o3, o4, o5, none, none, some (.val (.int (x : Int))), none, none] = .ok (.val (.bl (w (f x) (g x)))) [o0, some (.val (.lst (FD f))), some (.val (.lst (FD g))), o3, o4, o5, none, none, some (.val (.int (x : Int))), none, none]) :
    compLoop (compB (pk 39) elt (.nm 8) []) (rangeD 0 96) [o0, some (.val (.lst (FD f))), some (.val (.lst (FD g))), o3, o4, o5, none, none, none, none, none] = .ok ((FD fun x => w (f x) (g x)).map .val) [o0, some (.val (.lst (FD f))), some (.val (.lst (FD g))), o3, o4, o5, none, none, none, none, none] := by
  refine comp_get _ (rangeD 0 96) _ (by rw [FD_len, rng_len]) fun i d o hd ho => ?_
  obtain ⟨rfl, hi⟩ := rng_get _ _ _ _ hd
  rw [FD_get _ i hi] at ho
  have e := (Option.some.inj ho).symm
  subst e
  have := h i hi
  rw [show (0 : Int) + (i : Int) = (i : Int) by omega]
  simp only [compB, this, ev.eq_1, ev.eq_2, ev.eq_3, ev.eq_4, ev.eq_5, ev.eq_6, ev.eq_7, ev.eq_8, ev.eq_9, ev.eq_10, ev.eq_11, ev.eq_12, ev.eq_13, ev.eq_14, ev.eq_15, ev.eq_16, ev.eq_17, ev.eq_18, ev.eq_19, ev.eq_20, ev.eq_21, ev.eq_22, ev.eq_23, ev.eq_24, ev.eq_25, ev.eq_26, ev.eq_27, ev.eq_28, ev.eq_29, ev.eq_30, ev.eq_31, ev.eq_32, ev.eq_34, ev.eq_35, ev.eq_36, ev.eq_37, ev_cmp, evs, evP, evA, evAnd, evOr, evC, evS.eq_1, evS.eq_2, evS.eq_3, evS.eq_4, evS.eq_5, evS.eq_6, evS.eq_7, evS.eq_10, evS.eq_11, evS.eq_12, evS.eq_13, evS.eq_14, evS_for, evS_whl, evSs, rsv, runFd, start, bor, pur, purs, isVarB, smp, smps, b_ok, b_exc, o_some, h_val, h_tt, h_f, l_val, l_f, f_val, f_lst, f_tup, f_map, n_add, n_sub, lt_of_lt, c_le, c_gt, c_ge, eq_ii, ne_ii, t_bl, lstAt, modE, modC, setL, setF, endOf, outsOf, callC, ioPos, p_call, p_ios, p_glob, io0, io1, io2, io3, io4, io5, io6, io7, io8, io9, io10, io11, io12, io13, io14, io15, io16, io17, io18, io19, io20, io21, io22, io23, takeIo, putIo, hasBw, bindTg, binding, Tg.slots, wipeE, noexc, Bool.and_true, Bool.true_and, Bool.and_false, Bool.false_and, Bool.or_true, Bool.true_or, Bool.or_false, Bool.false_or, Bool.not_true, Bool.not_false, if_true, if_false, ite_true, ite_false, reduceIte, Bool.false_eq_true, List.length_cons, List.length_nil, List.map_cons, List.map_nil, List.replicate, List.append_nil, List.nil_append, List.cons_append, List.getElem?_cons_zero, List.getElem?_cons_succ, List.set_cons_zero, List.set_cons_succ, List.zip_cons_cons, List.zip_nil_left, List.foldl_cons, List.foldl_nil, Option.map_some, Option.bind_some, Option.map_none, Option.bind_none, Option.isSome_some, C.isVal, len_l, len_c, len_t, Nat.reduceAdd, Nat.reduceSub, Nat.reduceLeDiff, Nat.reduceEqDiff, Nat.zero_add, List.getElem?_nil, Option.isSome_none, it_seqc, it_seql, mkTup, allVal, slH_l]
theorem not_flags (o0 o2 o3 o4 o5 : Option C) (f : Nat → Bool) :
    compLoop (compB (pk 39) (.not (.var 10)) (.nm 10) []) (FD f) [o0, some (.val (.lst (FD f))), o2, o3, o4, o5, none, none, none, none, none] = .ok ((FD fun x => !f x).map .val) [o0, some (.val (.lst (FD f))), o2, o3, o4, o5, none, none, none, none, none] := by
  refine comp_get _ (FD f) _ (by rw [FD_len, FD_len]) fun i d o hd ho => ?_
  have hi : i < 96 := by
    have := List.getElem?_eq_some_iff.mp hd
    have := this.1
    rw [FD_len] at this
    exact this
  rw [FD_get _ i hi] at ho hd
  have e := (Option.some.inj ho).symm
  subst e
  have e := (Option.some.inj hd).symm
  subst e
  simp only [compB, ev.eq_1, ev.eq_2, ev.eq_3, ev.eq_4, ev.eq_5, ev.eq_6, ev.eq_7, ev.eq_8, ev.eq_9, ev.eq_10, ev.eq_11, ev.eq_12, ev.eq_13, ev.eq_14, ev.eq_15, ev.eq_16, ev.eq_17, ev.eq_18, ev.eq_19, ev.eq_20, ev.eq_21, ev.eq_22, ev.eq_23, ev.eq_24, ev.eq_25, ev.eq_26, ev.eq_27, ev.eq_28, ev.eq_29, ev.eq_30, ev.eq_31, ev.eq_32, ev.eq_34, ev.eq_35, ev.eq_36, ev.eq_37, ev_cmp, evs, evP, evA, evAnd, evOr, evC, evS.eq_1, evS.eq_2, evS.eq_3, evS.eq_4, evS.eq_5, evS.eq_6, evS.eq_7, evS.eq_10, evS.eq_11, evS.eq_12, evS.eq_13, evS.eq_14, evS_for, evS_whl, evSs, rsv, runFd, start, bor, pur, purs, isVarB, smp, smps, b_ok, b_exc, o_some, h_val, h_tt, h_f, l_val, l_f, f_val, f_lst, f_tup, f_map, n_add, n_sub, lt_of_lt, c_le, c_gt, c_ge, eq_ii, ne_ii, t_bl, lstAt, modE, modC, setL, setF, endOf, outsOf, callC, ioPos, p_call, p_ios, p_glob, io0, io1, io2, io3, io4, io5, io6, io7, io8, io9, io10, io11, io12, io13, io14, io15, io16, io17, io18, io19, io20, io21, io22, io23, takeIo, putIo, hasBw, bindTg, binding, Tg.slots, wipeE, noexc, Bool.and_true, Bool.true_and, Bool.and_false, Bool.false_and, Bool.or_true, Bool.true_or, Bool.or_false, Bool.false_or, Bool.not_true, Bool.not_false, if_true, if_false, ite_true, ite_false, reduceIte, Bool.false_eq_true, List.length_cons, List.length_nil, List.map_cons, List.map_nil, List.replicate, List.append_nil, List.nil_append, List.cons_append, List.getElem?_cons_zero, List.getElem?_cons_succ, List.set_cons_zero, List.set_cons_succ, List.zip_cons_cons, List.zip_nil_left, List.foldl_cons, List.foldl_nil, Option.map_some, Option.bind_some, Option.map_none, Option.bind_none, Option.isSome_some, C.isVal, len_l, len_c, len_t, Nat.reduceAdd, Nat.reduceSub, Nat.reduceLeDiff, Nat.reduceEqDiff, Nat.zero_add, List.getElem?_nil, Option.isSome_none, it_seqc, it_seql, mkTup, allVal, slH_l]
theorem call1_ok {P : Pr} {f i : Nat} {d : D} {c : C} {e : Env} (hi : e[i]? = some (some (.val d))) (hp : P.ios f = []) (hc : P.call f [.val d] = .ok c []) : ev P (.call f [.var i]) e = .ok c e := by
  have h1 : evA P [.var i] e = .ok [.v (.val d)] e := by
    simp only [evA, ev, hi, bor, purs, b_ok, l_val, C.frz]
  rw [ev, h1, b_ok]
  simp only [callC, hp, ioPos, takeIo, Option.map_some, hc, hasBw, putIo, Bool.false_and, if_true, Bool.false_eq_true, if_false]
theorem not_t {P : Pr} {a : ME} {e : Env} (h : ev P a e = .ok (.val (.bl true)) e) : ev P (.not a) e = .ok (.val (.bl false)) e := by
  rw [ev, h]
  rfl
theorem or_ff {P : Pr} {a b : ME} {e : Env} (h : ev P a e = .ok (.val (.bl false)) e) (g : ev P b e = .ok (.val (.bl false)) e) : ev P (.or [a, b]) e = .ok (.val (.bl false)) e := by
  simp only [ev, evOr, h, b_ok, g]
theorem law_fact (ns : List Int) (hns : ns.length ≤ 63) : run pg 40 23 [.val (.lst (ns.map .int))] = .ok (.val (.bl true)) [] := by
  have t0 : run pg 39 20 [sc ns] = _ := texts_ok 35 ns hns
  let E (o1 o2 o3 o4 o5 o6 o7 : Option C) : Env := [some (sc ns), o1, o2, o3, o4, o5, o6, o7, none, none, none]
  have e1 : evS (pk 39) S1 (E none none none none none none none) = .ok .nx (E none none none none none none none) := by
    simp only [S1, E, t0, ev.eq_1, ev.eq_2, ev.eq_3, ev.eq_4, ev.eq_5, ev.eq_6, ev.eq_7, ev.eq_8, ev.eq_9, ev.eq_10, ev.eq_11, ev.eq_12, ev.eq_13, ev.eq_14, ev.eq_15, ev.eq_16, ev.eq_17, ev.eq_18, ev.eq_19, ev.eq_20, ev.eq_21, ev.eq_22, ev.eq_23, ev.eq_24, ev.eq_25, ev.eq_26, ev.eq_27, ev.eq_28, ev.eq_29, ev.eq_30, ev.eq_31, ev.eq_32, ev.eq_34, ev.eq_35, ev.eq_36, ev.eq_37, ev_cmp, evs, evP, evA, evAnd, evOr, evC, evS.eq_1, evS.eq_2, evS.eq_3, evS.eq_4, evS.eq_5, evS.eq_6, evS.eq_7, evS.eq_10, evS.eq_11, evS.eq_12, evS.eq_13, evS.eq_14, evS_for, evS_whl, evSs, rsv, runFd, start, bor, pur, purs, isVarB, smp, smps, b_ok, b_exc, o_some, h_val, h_tt, h_f, l_val, l_f, f_val, f_lst, f_tup, f_map, n_add, n_sub, lt_of_lt, c_le, c_gt, c_ge, eq_ii, ne_ii, t_bl, lstAt, modE, modC, setL, setF, endOf, outsOf, callC, ioPos, p_call, p_ios, p_glob, io0, io1, io2, io3, io4, io5, io6, io7, io8, io9, io10, io11, io12, io13, io14, io15, io16, io17, io18, io19, io20, io21, io22, io23, takeIo, putIo, hasBw, bindTg, binding, Tg.slots, wipeE, noexc, Bool.and_true, Bool.true_and, Bool.and_false, Bool.false_and, Bool.or_true, Bool.true_or, Bool.or_false, Bool.false_or, Bool.not_true, Bool.not_false, if_true, if_false, ite_true, ite_false, reduceIte, Bool.false_eq_true, List.length_cons, List.length_nil, List.map_cons, List.map_nil, List.replicate, List.append_nil, List.nil_append, List.cons_append, List.getElem?_cons_zero, List.getElem?_cons_succ, List.set_cons_zero, List.set_cons_succ, List.zip_cons_cons, List.zip_nil_left, List.foldl_cons, List.foldl_nil, Option.map_some, Option.bind_some, Option.map_none, Option.bind_none, Option.isSome_some, C.isVal, len_l, len_c, len_t, Nat.reduceAdd, Nat.reduceSub, Nat.reduceLeDiff, Nat.reduceEqDiff, Nat.zero_add, List.getElem?_nil, Option.isSome_none, it_seqc, it_seql, mkTup, allVal, slH_l]
  obtain ⟨c, r, c1⟩ := cells7 ns 2 none
  obtain ⟨f, hf⟩ := flags_ok 38 c r
  have hf : run pg 39 14 [.val (.lst (.int c :: r.map D.int))] = .ok (FC f) [] := hf
  have r7 : itemsK .rng [.val (.int 7)] = some (rangeD 0 7) := rfl
  have l7 : (rangeD 0 7).length ≤ line := by decide
  have c1 : compLoop (compB (pk 39) (.call 12 [(.var 0), (.bin .add (.k (.int 2)) (.var 8))]) (.nm 8) []) _ _ = _ := c1
  have e2 : evS (pk 39) S2 (E none none none none none none none) = .ok .nx (E (some (.val (.lst (FD f)))) none none none none none none) := by
    simp only [S2, E, r7, l7, c1, C.frzs, hf, FC, ev.eq_1, ev.eq_2, ev.eq_3, ev.eq_4, ev.eq_5, ev.eq_6, ev.eq_7, ev.eq_8, ev.eq_9, ev.eq_10, ev.eq_11, ev.eq_12, ev.eq_13, ev.eq_14, ev.eq_15, ev.eq_16, ev.eq_17, ev.eq_18, ev.eq_19, ev.eq_20, ev.eq_21, ev.eq_22, ev.eq_23, ev.eq_24, ev.eq_25, ev.eq_26, ev.eq_27, ev.eq_28, ev.eq_29, ev.eq_30, ev.eq_31, ev.eq_32, ev.eq_34, ev.eq_35, ev.eq_36, ev.eq_37, ev_cmp, evs, evP, evA, evAnd, evOr, evC, evS.eq_1, evS.eq_2, evS.eq_3, evS.eq_4, evS.eq_5, evS.eq_6, evS.eq_7, evS.eq_10, evS.eq_11, evS.eq_12, evS.eq_13, evS.eq_14, evS_for, evS_whl, evSs, rsv, runFd, start, bor, pur, purs, isVarB, smp, smps, b_ok, b_exc, o_some, h_val, h_tt, h_f, l_val, l_f, f_val, f_lst, f_tup, f_map, n_add, n_sub, lt_of_lt, c_le, c_gt, c_ge, eq_ii, ne_ii, t_bl, lstAt, modE, modC, setL, setF, endOf, outsOf, callC, ioPos, p_call, p_ios, p_glob, io0, io1, io2, io3, io4, io5, io6, io7, io8, io9, io10, io11, io12, io13, io14, io15, io16, io17, io18, io19, io20, io21, io22, io23, takeIo, putIo, hasBw, bindTg, binding, Tg.slots, wipeE, noexc, Bool.and_true, Bool.true_and, Bool.and_false, Bool.false_and, Bool.or_true, Bool.true_or, Bool.or_false, Bool.false_or, Bool.not_true, Bool.not_false, if_true, if_false, ite_true, ite_false, reduceIte, Bool.false_eq_true, List.length_cons, List.length_nil, List.map_cons, List.map_nil, List.replicate, List.append_nil, List.nil_append, List.cons_append, List.getElem?_cons_zero, List.getElem?_cons_succ, List.set_cons_zero, List.set_cons_succ, List.zip_cons_cons, List.zip_nil_left, List.foldl_cons, List.foldl_nil, Option.map_some, Option.bind_some, Option.map_none, Option.bind_none, Option.isSome_some, C.isVal, len_l, len_c, len_t, Nat.reduceAdd, Nat.reduceSub, Nat.reduceLeDiff, Nat.reduceEqDiff, Nat.zero_add, List.getElem?_nil, Option.isSome_none, it_seqc, it_seql, mkTup, allVal, slH_l]
  obtain ⟨c', r', c2⟩ := cells7 ns 9 (some (.val (.lst (FD f))))
  obtain ⟨g, hg⟩ := flags_ok 38 c' r'
  have hg : run pg 39 14 [.val (.lst (.int c' :: r'.map D.int))] = .ok (FC g) [] := hg
  have c2 : compLoop (compB (pk 39) (.call 12 [(.var 0), (.bin .add (.k (.int 9)) (.var 8))]) (.nm 8) []) _ _ = _ := c2
  have e3 : evS (pk 39) S3 (E (some (.val (.lst (FD f)))) none none none none none none) = .ok .nx (E (some (.val (.lst (FD f)))) (some (.val (.lst (FD g)))) none none none none none) := by
    simp only [S3, E, r7, l7, c2, C.frzs, hg, FC, ev.eq_1, ev.eq_2, ev.eq_3, ev.eq_4, ev.eq_5, ev.eq_6, ev.eq_7, ev.eq_8, ev.eq_9, ev.eq_10, ev.eq_11, ev.eq_12, ev.eq_13, ev.eq_14, ev.eq_15, ev.eq_16, ev.eq_17, ev.eq_18, ev.eq_19, ev.eq_20, ev.eq_21, ev.eq_22, ev.eq_23, ev.eq_24, ev.eq_25, ev.eq_26, ev.eq_27, ev.eq_28, ev.eq_29, ev.eq_30, ev.eq_31, ev.eq_32, ev.eq_34, ev.eq_35, ev.eq_36, ev.eq_37, ev_cmp, evs, evP, evA, evAnd, evOr, evC, evS.eq_1, evS.eq_2, evS.eq_3, evS.eq_4, evS.eq_5, evS.eq_6, evS.eq_7, evS.eq_10, evS.eq_11, evS.eq_12, evS.eq_13, evS.eq_14, evS_for, evS_whl, evSs, rsv, runFd, start, bor, pur, purs, isVarB, smp, smps, b_ok, b_exc, o_some, h_val, h_tt, h_f, l_val, l_f, f_val, f_lst, f_tup, f_map, n_add, n_sub, lt_of_lt, c_le, c_gt, c_ge, eq_ii, ne_ii, t_bl, lstAt, modE, modC, setL, setF, endOf, outsOf, callC, ioPos, p_call, p_ios, p_glob, io0, io1, io2, io3, io4, io5, io6, io7, io8, io9, io10, io11, io12, io13, io14, io15, io16, io17, io18, io19, io20, io21, io22, io23, takeIo, putIo, hasBw, bindTg, binding, Tg.slots, wipeE, noexc, Bool.and_true, Bool.true_and, Bool.and_false, Bool.false_and, Bool.or_true, Bool.true_or, Bool.or_false, Bool.false_or, Bool.not_true, Bool.not_false, if_true, if_false, ite_true, ite_false, reduceIte, Bool.false_eq_true, List.length_cons, List.length_nil, List.map_cons, List.map_nil, List.replicate, List.append_nil, List.nil_append, List.cons_append, List.getElem?_cons_zero, List.getElem?_cons_succ, List.set_cons_zero, List.set_cons_succ, List.zip_cons_cons, List.zip_nil_left, List.foldl_cons, List.foldl_nil, Option.map_some, Option.bind_some, Option.map_none, Option.bind_none, Option.isSome_some, C.isVal, len_l, len_c, len_t, Nat.reduceAdd, Nat.reduceSub, Nat.reduceLeDiff, Nat.reduceEqDiff, Nat.zero_add, List.getElem?_nil, Option.isSome_none, it_seqc, it_seql, mkTup, allVal, slH_l]
  obtain ⟨ps, p1, p2, p3⟩ := law_set_ok 38 f
  obtain ⟨qs, q1, q2, q3⟩ := law_set_ok 38 g
  have p3 : run pg 39 15 _ = _ := p3
  have q3 : run pg 39 15 _ = _ := q3
  have e4 : evS (pk 39) S4 (E (some (.val (.lst (FD f)))) (some (.val (.lst (FD g)))) none none none none none) = .ok .nx (E (some (.val (.lst (FD f)))) (some (.val (.lst (FD g)))) (some (.val (kd ps))) none none none none) := by
    simp only [S4, E, p3, ev.eq_1, ev.eq_2, ev.eq_3, ev.eq_4, ev.eq_5, ev.eq_6, ev.eq_7, ev.eq_8, ev.eq_9, ev.eq_10, ev.eq_11, ev.eq_12, ev.eq_13, ev.eq_14, ev.eq_15, ev.eq_16, ev.eq_17, ev.eq_18, ev.eq_19, ev.eq_20, ev.eq_21, ev.eq_22, ev.eq_23, ev.eq_24, ev.eq_25, ev.eq_26, ev.eq_27, ev.eq_28, ev.eq_29, ev.eq_30, ev.eq_31, ev.eq_32, ev.eq_34, ev.eq_35, ev.eq_36, ev.eq_37, ev_cmp, evs, evP, evA, evAnd, evOr, evC, evS.eq_1, evS.eq_2, evS.eq_3, evS.eq_4, evS.eq_5, evS.eq_6, evS.eq_7, evS.eq_10, evS.eq_11, evS.eq_12, evS.eq_13, evS.eq_14, evS_for, evS_whl, evSs, rsv, runFd, start, bor, pur, purs, isVarB, smp, smps, b_ok, b_exc, o_some, h_val, h_tt, h_f, l_val, l_f, f_val, f_lst, f_tup, f_map, n_add, n_sub, lt_of_lt, c_le, c_gt, c_ge, eq_ii, ne_ii, t_bl, lstAt, modE, modC, setL, setF, endOf, outsOf, callC, ioPos, p_call, p_ios, p_glob, io0, io1, io2, io3, io4, io5, io6, io7, io8, io9, io10, io11, io12, io13, io14, io15, io16, io17, io18, io19, io20, io21, io22, io23, takeIo, putIo, hasBw, bindTg, binding, Tg.slots, wipeE, noexc, Bool.and_true, Bool.true_and, Bool.and_false, Bool.false_and, Bool.or_true, Bool.true_or, Bool.or_false, Bool.false_or, Bool.not_true, Bool.not_false, if_true, if_false, ite_true, ite_false, reduceIte, Bool.false_eq_true, List.length_cons, List.length_nil, List.map_cons, List.map_nil, List.replicate, List.append_nil, List.nil_append, List.cons_append, List.getElem?_cons_zero, List.getElem?_cons_succ, List.set_cons_zero, List.set_cons_succ, List.zip_cons_cons, List.zip_nil_left, List.foldl_cons, List.foldl_nil, Option.map_some, Option.bind_some, Option.map_none, Option.bind_none, Option.isSome_some, C.isVal, len_l, len_c, len_t, Nat.reduceAdd, Nat.reduceSub, Nat.reduceLeDiff, Nat.reduceEqDiff, Nat.zero_add, List.getElem?_nil, Option.isSome_none, it_seqc, it_seql, mkTup, allVal, slH_l]
  have e5 : evS (pk 39) S5 (E (some (.val (.lst (FD f)))) (some (.val (.lst (FD g)))) (some (.val (kd ps))) none none none none) = .ok .nx (E (some (.val (.lst (FD f)))) (some (.val (.lst (FD g)))) (some (.val (kd ps))) (some (.val (kd qs))) none none none) := by
    simp only [S5, E, q3, ev.eq_1, ev.eq_2, ev.eq_3, ev.eq_4, ev.eq_5, ev.eq_6, ev.eq_7, ev.eq_8, ev.eq_9, ev.eq_10, ev.eq_11, ev.eq_12, ev.eq_13, ev.eq_14, ev.eq_15, ev.eq_16, ev.eq_17, ev.eq_18, ev.eq_19, ev.eq_20, ev.eq_21, ev.eq_22, ev.eq_23, ev.eq_24, ev.eq_25, ev.eq_26, ev.eq_27, ev.eq_28, ev.eq_29, ev.eq_30, ev.eq_31, ev.eq_32, ev.eq_34, ev.eq_35, ev.eq_36, ev.eq_37, ev_cmp, evs, evP, evA, evAnd, evOr, evC, evS.eq_1, evS.eq_2, evS.eq_3, evS.eq_4, evS.eq_5, evS.eq_6, evS.eq_7, evS.eq_10, evS.eq_11, evS.eq_12, evS.eq_13, evS.eq_14, evS_for, evS_whl, evSs, rsv, runFd, start, bor, pur, purs, isVarB, smp, smps, b_ok, b_exc, o_some, h_val, h_tt, h_f, l_val, l_f, f_val, f_lst, f_tup, f_map, n_add, n_sub, lt_of_lt, c_le, c_gt, c_ge, eq_ii, ne_ii, t_bl, lstAt, modE, modC, setL, setF, endOf, outsOf, callC, ioPos, p_call, p_ios, p_glob, io0, io1, io2, io3, io4, io5, io6, io7, io8, io9, io10, io11, io12, io13, io14, io15, io16, io17, io18, io19, io20, io21, io22, io23, takeIo, putIo, hasBw, bindTg, binding, Tg.slots, wipeE, noexc, Bool.and_true, Bool.true_and, Bool.and_false, Bool.false_and, Bool.or_true, Bool.true_or, Bool.or_false, Bool.false_or, Bool.not_true, Bool.not_false, if_true, if_false, ite_true, ite_false, reduceIte, Bool.false_eq_true, List.length_cons, List.length_nil, List.map_cons, List.map_nil, List.replicate, List.append_nil, List.nil_append, List.cons_append, List.getElem?_cons_zero, List.getElem?_cons_succ, List.set_cons_zero, List.set_cons_succ, List.zip_cons_cons, List.zip_nil_left, List.foldl_cons, List.foldl_nil, Option.map_some, Option.bind_some, Option.map_none, Option.bind_none, Option.isSome_some, C.isVal, len_l, len_c, len_t, Nat.reduceAdd, Nat.reduceSub, Nat.reduceLeDiff, Nat.reduceEqDiff, Nat.zero_add, List.getElem?_nil, Option.isSome_none, it_seqc, it_seql, mkTup, allVal, slH_l]
  have i1 : run pg 39 4 [.val (kd ps)] = _ := is_set_ok 36 ps p1
  have i2 : run pg 39 4 [.val (kd qs)] = _ := is_set_ok 36 qs q1
  have e6 : evS (pk 39) S6 (E (some (.val (.lst (FD f)))) (some (.val (.lst (FD g)))) (some (.val (kd ps))) (some (.val (kd qs))) none none none) = .ok .nx (E (some (.val (.lst (FD f)))) (some (.val (.lst (FD g)))) (some (.val (kd ps))) (some (.val (kd qs))) none none none) := by
    simp only [S6, E, i1, i2, is_tt, ev.eq_1, ev.eq_2, ev.eq_3, ev.eq_4, ev.eq_5, ev.eq_6, ev.eq_7, ev.eq_8, ev.eq_9, ev.eq_10, ev.eq_11, ev.eq_12, ev.eq_13, ev.eq_14, ev.eq_15, ev.eq_16, ev.eq_17, ev.eq_18, ev.eq_19, ev.eq_20, ev.eq_21, ev.eq_22, ev.eq_23, ev.eq_24, ev.eq_25, ev.eq_26, ev.eq_27, ev.eq_28, ev.eq_29, ev.eq_30, ev.eq_31, ev.eq_32, ev.eq_34, ev.eq_35, ev.eq_36, ev.eq_37, ev_cmp, evs, evP, evA, evAnd, evOr, evC, evS.eq_1, evS.eq_2, evS.eq_3, evS.eq_4, evS.eq_5, evS.eq_6, evS.eq_7, evS.eq_10, evS.eq_11, evS.eq_12, evS.eq_13, evS.eq_14, evS_for, evS_whl, evSs, rsv, runFd, start, bor, pur, purs, isVarB, smp, smps, b_ok, b_exc, o_some, h_val, h_tt, h_f, l_val, l_f, f_val, f_lst, f_tup, f_map, n_add, n_sub, lt_of_lt, c_le, c_gt, c_ge, eq_ii, ne_ii, t_bl, lstAt, modE, modC, setL, setF, endOf, outsOf, callC, ioPos, p_call, p_ios, p_glob, io0, io1, io2, io3, io4, io5, io6, io7, io8, io9, io10, io11, io12, io13, io14, io15, io16, io17, io18, io19, io20, io21, io22, io23, takeIo, putIo, hasBw, bindTg, binding, Tg.slots, wipeE, noexc, Bool.and_true, Bool.true_and, Bool.and_false, Bool.false_and, Bool.or_true, Bool.true_or, Bool.or_false, Bool.false_or, Bool.not_true, Bool.not_false, if_true, if_false, ite_true, ite_false, reduceIte, Bool.false_eq_true, List.length_cons, List.length_nil, List.map_cons, List.map_nil, List.replicate, List.append_nil, List.nil_append, List.cons_append, List.getElem?_cons_zero, List.getElem?_cons_succ, List.set_cons_zero, List.set_cons_succ, List.zip_cons_cons, List.zip_nil_left, List.foldl_cons, List.foldl_nil, Option.map_some, Option.bind_some, Option.map_none, Option.bind_none, Option.isSome_some, C.isVal, len_l, len_c, len_t, Nat.reduceAdd, Nat.reduceSub, Nat.reduceLeDiff, Nat.reduceEqDiff, Nat.zero_add, List.getElem?_nil, Option.isSome_none, it_seqc, it_seql, mkTup, allVal, slH_l]
  obtain ⟨e', h7, o5, he⟩ := forLoop_inv0 (f := forB (pk 39) (.nm 5) lb_law_0) (fun i e => ∃ o5 : Option C, e = E (some (.val (.lst (FD f)))) (some (.val (.lst (FD g)))) (some (.val (kd ps))) (some (.val (kd qs))) o5 none none) (rangeD (-3) 102) (E (some (.val (.lst (FD f)))) (some (.val (.lst (FD g)))) (some (.val (kd ps))) (some (.val (kd qs))) none none none) (fun i d e hd ⟨o5, he⟩ => by
    subst he
    obtain ⟨rfl, hi⟩ := rng_get _ _ _ _ hd
    refine ⟨E (some (.val (.lst (FD f)))) (some (.val (.lst (FD g)))) (some (.val (kd ps))) (some (.val (kd qs))) (some (.val (.int (-3 + (i : Int))))) none none, .inl ?_, _, rfl⟩
    rw [forB_nm]
    generalize hz : -3 + (i : Int) = z
    have hh : run pg 39 6 _ = _ := has_ok 34 ps z p1
    have tr : ∀ a : Bool, run pg 39 19 [.val (.bl a), .val (.bl a)] = .ok (.val (.bl true)) [] := fun a => by cases a <;> rfl
    have m := n_mod z 96 (by decide)
    by_cases h0 : 0 ≤ z
    · have d0 : decide (0 ≤ z) = true := decide_eq_true h0
      by_cases h1 : z < 96
      · have d1 : decide (z < 96) = true := decide_eq_true h1
        obtain ⟨n, rfl⟩ : ∃ n : Nat, z = (n : Int) := ⟨z.toNat, by omega⟩
        have hn : n < 96 := by omega
        rw [hasI_nat, p2 n, upTo, decide_eq_true hn, Bool.true_and] at hh
        rw [Int.emod_eq_of_lt h0 h1] at m
        have sb := FD_sub f n hn
        have t := tr (f n)
        simp only [lb_law_0, E, hh, d0, d1, m, sb, t, ev.eq_1, ev.eq_2, ev.eq_3, ev.eq_4, ev.eq_5, ev.eq_6, ev.eq_7, ev.eq_8, ev.eq_9, ev.eq_10, ev.eq_11, ev.eq_12, ev.eq_13, ev.eq_14, ev.eq_15, ev.eq_16, ev.eq_17, ev.eq_18, ev.eq_19, ev.eq_20, ev.eq_21, ev.eq_22, ev.eq_23, ev.eq_24, ev.eq_25, ev.eq_26, ev.eq_27, ev.eq_28, ev.eq_29, ev.eq_30, ev.eq_31, ev.eq_32, ev.eq_34, ev.eq_35, ev.eq_36, ev.eq_37, ev_cmp, evs, evP, evA, evAnd, evOr, evC, evS.eq_1, evS.eq_2, evS.eq_3, evS.eq_4, evS.eq_5, evS.eq_6, evS.eq_7, evS.eq_10, evS.eq_11, evS.eq_12, evS.eq_13, evS.eq_14, evS_for, evS_whl, evSs, rsv, runFd, start, bor, pur, purs, isVarB, smp, smps, b_ok, b_exc, o_some, h_val, h_tt, h_f, l_val, l_f, f_val, f_lst, f_tup, f_map, n_add, n_sub, lt_of_lt, c_le, c_gt, c_ge, eq_ii, ne_ii, t_bl, lstAt, modE, modC, setL, setF, endOf, outsOf, callC, ioPos, p_call, p_ios, p_glob, io0, io1, io2, io3, io4, io5, io6, io7, io8, io9, io10, io11, io12, io13, io14, io15, io16, io17, io18, io19, io20, io21, io22, io23, takeIo, putIo, hasBw, bindTg, binding, Tg.slots, wipeE, noexc, Bool.and_true, Bool.true_and, Bool.and_false, Bool.false_and, Bool.or_true, Bool.true_or, Bool.or_false, Bool.false_or, Bool.not_true, Bool.not_false, if_true, if_false, ite_true, ite_false, reduceIte, Bool.false_eq_true, List.length_cons, List.length_nil, List.map_cons, List.map_nil, List.replicate, List.append_nil, List.nil_append, List.cons_append, List.getElem?_cons_zero, List.getElem?_cons_succ, List.set_cons_zero, List.set_cons_succ, List.zip_cons_cons, List.zip_nil_left, List.foldl_cons, List.foldl_nil, Option.map_some, Option.bind_some, Option.map_none, Option.bind_none, Option.isSome_some, C.isVal, len_l, len_c, len_t, Nat.reduceAdd, Nat.reduceSub, Nat.reduceLeDiff, Nat.reduceEqDiff, Nat.zero_add, List.getElem?_nil, Option.isSome_none, it_seqc, it_seql, mkTup, allVal, slH_l]
      · have d1 : decide (z < 96) = false := decide_eq_false h1
        rw [hasI_out (.inr (by omega)) p1] at hh
        have t := tr false
        simp only [lb_law_0, E, hh, d0, d1, t, ev.eq_1, ev.eq_2, ev.eq_3, ev.eq_4, ev.eq_5, ev.eq_6, ev.eq_7, ev.eq_8, ev.eq_9, ev.eq_10, ev.eq_11, ev.eq_12, ev.eq_13, ev.eq_14, ev.eq_15, ev.eq_16, ev.eq_17, ev.eq_18, ev.eq_19, ev.eq_20, ev.eq_21, ev.eq_22, ev.eq_23, ev.eq_24, ev.eq_25, ev.eq_26, ev.eq_27, ev.eq_28, ev.eq_29, ev.eq_30, ev.eq_31, ev.eq_32, ev.eq_34, ev.eq_35, ev.eq_36, ev.eq_37, ev_cmp, evs, evP, evA, evAnd, evOr, evC, evS.eq_1, evS.eq_2, evS.eq_3, evS.eq_4, evS.eq_5, evS.eq_6, evS.eq_7, evS.eq_10, evS.eq_11, evS.eq_12, evS.eq_13, evS.eq_14, evS_for, evS_whl, evSs, rsv, runFd, start, bor, pur, purs, isVarB, smp, smps, b_ok, b_exc, o_some, h_val, h_tt, h_f, l_val, l_f, f_val, f_lst, f_tup, f_map, n_add, n_sub, lt_of_lt, c_le, c_gt, c_ge, eq_ii, ne_ii, t_bl, lstAt, modE, modC, setL, setF, endOf, outsOf, callC, ioPos, p_call, p_ios, p_glob, io0, io1, io2, io3, io4, io5, io6, io7, io8, io9, io10, io11, io12, io13, io14, io15, io16, io17, io18, io19, io20, io21, io22, io23, takeIo, putIo, hasBw, bindTg, binding, Tg.slots, wipeE, noexc, Bool.and_true, Bool.true_and, Bool.and_false, Bool.false_and, Bool.or_true, Bool.true_or, Bool.or_false, Bool.false_or, Bool.not_true, Bool.not_false, if_true, if_false, ite_true, ite_false, reduceIte, Bool.false_eq_true, List.length_cons, List.length_nil, List.map_cons, List.map_nil, List.replicate, List.append_nil, List.nil_append, List.cons_append, List.getElem?_cons_zero, List.getElem?_cons_succ, List.set_cons_zero, List.set_cons_succ, List.zip_cons_cons, List.zip_nil_left, List.foldl_cons, List.foldl_nil, Option.map_some, Option.bind_some, Option.map_none, Option.bind_none, Option.isSome_some, C.isVal, len_l, len_c, len_t, Nat.reduceAdd, Nat.reduceSub, Nat.reduceLeDiff, Nat.reduceEqDiff, Nat.zero_add, List.getElem?_nil, Option.isSome_none, it_seqc, it_seql, mkTup, allVal, slH_l]
    · have d0 : decide (0 ≤ z) = false := decide_eq_false h0
      rw [hasI_out (.inl (by omega)) p1] at hh
      have t := tr false
      simp only [lb_law_0, E, hh, d0, t, ev.eq_1, ev.eq_2, ev.eq_3, ev.eq_4, ev.eq_5, ev.eq_6, ev.eq_7, ev.eq_8, ev.eq_9, ev.eq_10, ev.eq_11, ev.eq_12, ev.eq_13, ev.eq_14, ev.eq_15, ev.eq_16, ev.eq_17, ev.eq_18, ev.eq_19, ev.eq_20, ev.eq_21, ev.eq_22, ev.eq_23, ev.eq_24, ev.eq_25, ev.eq_26, ev.eq_27, ev.eq_28, ev.eq_29, ev.eq_30, ev.eq_31, ev.eq_32, ev.eq_34, ev.eq_35, ev.eq_36, ev.eq_37, ev_cmp, evs, evP, evA, evAnd, evOr, evC, evS.eq_1, evS.eq_2, evS.eq_3, evS.eq_4, evS.eq_5, evS.eq_6, evS.eq_7, evS.eq_10, evS.eq_11, evS.eq_12, evS.eq_13, evS.eq_14, evS_for, evS_whl, evSs, rsv, runFd, start, bor, pur, purs, isVarB, smp, smps, b_ok, b_exc, o_some, h_val, h_tt, h_f, l_val, l_f, f_val, f_lst, f_tup, f_map, n_add, n_sub, lt_of_lt, c_le, c_gt, c_ge, eq_ii, ne_ii, t_bl, lstAt, modE, modC, setL, setF, endOf, outsOf, callC, ioPos, p_call, p_ios, p_glob, io0, io1, io2, io3, io4, io5, io6, io7, io8, io9, io10, io11, io12, io13, io14, io15, io16, io17, io18, io19, io20, io21, io22, io23, takeIo, putIo, hasBw, bindTg, binding, Tg.slots, wipeE, noexc, Bool.and_true, Bool.true_and, Bool.and_false, Bool.false_and, Bool.or_true, Bool.true_or, Bool.or_false, Bool.false_or, Bool.not_true, Bool.not_false, if_true, if_false, ite_true, ite_false, reduceIte, Bool.false_eq_true, List.length_cons, List.length_nil, List.map_cons, List.map_nil, List.replicate, List.append_nil, List.nil_append, List.cons_append, List.getElem?_cons_zero, List.getElem?_cons_succ, List.set_cons_zero, List.set_cons_succ, List.zip_cons_cons, List.zip_nil_left, List.foldl_cons, List.foldl_nil, Option.map_some, Option.bind_some, Option.map_none, Option.bind_none, Option.isSome_some, C.isVal, len_l, len_c, len_t, Nat.reduceAdd, Nat.reduceSub, Nat.reduceLeDiff, Nat.reduceEqDiff, Nat.zero_add, List.getElem?_nil, Option.isSome_none, it_seqc, it_seql, mkTup, allVal, slH_l]) ⟨none, rfl⟩
  subst he
  have e7 : evS (pk 39) S7 (E (some (.val (.lst (FD f)))) (some (.val (.lst (FD g)))) (some (.val (kd ps))) (some (.val (kd qs))) none none none) = .ok .nx (E (some (.val (.lst (FD f)))) (some (.val (.lst (FD g)))) (some (.val (kd ps))) (some (.val (kd qs))) o5 none none) := by
    have he : evs (pk 39) [(.neg (.k (.int 3))), (.k (.int 99))] (E (some (.val (.lst (FD f)))) (some (.val (.lst (FD g)))) (some (.val (kd ps))) (some (.val (kd qs))) none none none) = .ok [.val (.int (-3)), .val (.int 99)] (E (some (.val (.lst (FD f)))) (some (.val (.lst (FD g)))) (some (.val (kd ps))) (some (.val (kd qs))) none none none) := rfl
    have hr : itemsK .rng [.val (.int (-3)), .val (.int 99)] = some (rangeD (-3) 102) := it_rng2 (-3) 99 ⟨by decide, by decide⟩ ⟨by decide, by decide⟩
    rw [S7, evS_for, he, b_ok, hr]
    exact h7
  have r96 : itemsK .rng [.val (.int 96)] = some (rangeD 0 96) := rfl
  have l96 : (rangeD 0 96).length ≤ line := by rw [rng_len]; decide
  have bx : ∀ x, x < 96 → hasB x ps = f x := fun x hx => by rw [p2 x, upTo, decide_eq_true hx, Bool.true_and]
  have by' : ∀ x, x < 96 → hasB x qs = g x := fun x hx => by rw [q2 x, upTo, decide_eq_true hx, Bool.true_and]
  obtain ⟨rs, j1, j2⟩ := joined_ok 34 ps qs p1 q1
  have j2 : run pg 39 9 _ = _ := j2
  have j3 : run pg 39 21 _ = _ := is_ok 37 (fun x => f x || g x) rs (j1.ext fun x hx => by rw [bx x hx, by' x hx])
  have j4 := pair_flags (some (sc ns)) (some (.val (kd ps))) (some (.val (kd qs))) o5 (.or [(.sub (.var 1) (.var 8)), (.sub (.var 2) (.var 8))]) (fun a b => a || b) f g (fun x hx => by
    have s1 := FD_sub f x hx
    have s2 := FD_sub g x hx
    cases h1 : f x with
    | true =>
      rw [h1] at s1
      simp only [s1, ev.eq_1, ev.eq_2, ev.eq_3, ev.eq_4, ev.eq_5, ev.eq_6, ev.eq_7, ev.eq_8, ev.eq_9, ev.eq_10, ev.eq_11, ev.eq_12, ev.eq_13, ev.eq_14, ev.eq_15, ev.eq_16, ev.eq_17, ev.eq_18, ev.eq_19, ev.eq_20, ev.eq_21, ev.eq_22, ev.eq_23, ev.eq_24, ev.eq_25, ev.eq_26, ev.eq_27, ev.eq_28, ev.eq_29, ev.eq_30, ev.eq_31, ev.eq_32, ev.eq_34, ev.eq_35, ev.eq_36, ev.eq_37, ev_cmp, evs, evP, evA, evAnd, evOr, evC, evS.eq_1, evS.eq_2, evS.eq_3, evS.eq_4, evS.eq_5, evS.eq_6, evS.eq_7, evS.eq_10, evS.eq_11, evS.eq_12, evS.eq_13, evS.eq_14, evS_for, evS_whl, evSs, rsv, runFd, start, bor, pur, purs, isVarB, smp, smps, b_ok, b_exc, o_some, h_val, h_tt, h_f, l_val, l_f, f_val, f_lst, f_tup, f_map, n_add, n_sub, lt_of_lt, c_le, c_gt, c_ge, eq_ii, ne_ii, t_bl, lstAt, modE, modC, setL, setF, endOf, outsOf, callC, ioPos, p_call, p_ios, p_glob, io0, io1, io2, io3, io4, io5, io6, io7, io8, io9, io10, io11, io12, io13, io14, io15, io16, io17, io18, io19, io20, io21, io22, io23, takeIo, putIo, hasBw, bindTg, binding, Tg.slots, wipeE, noexc, Bool.and_true, Bool.true_and, Bool.and_false, Bool.false_and, Bool.or_true, Bool.true_or, Bool.or_false, Bool.false_or, Bool.not_true, Bool.not_false, if_true, if_false, ite_true, ite_false, reduceIte, Bool.false_eq_true, List.length_cons, List.length_nil, List.map_cons, List.map_nil, List.replicate, List.append_nil, List.nil_append, List.cons_append, List.getElem?_cons_zero, List.getElem?_cons_succ, List.set_cons_zero, List.set_cons_succ, List.zip_cons_cons, List.zip_nil_left, List.foldl_cons, List.foldl_nil, Option.map_some, Option.bind_some, Option.map_none, Option.bind_none, Option.isSome_some, C.isVal, len_l, len_c, len_t, Nat.reduceAdd, Nat.reduceSub, Nat.reduceLeDiff, Nat.reduceEqDiff, Nat.zero_add, List.getElem?_nil, Option.isSome_none, it_seqc, it_seql, mkTup, allVal, slH_l]
    | false =>
      rw [h1] at s1
      simp only [s1, s2, ev.eq_1, ev.eq_2, ev.eq_3, ev.eq_4, ev.eq_5, ev.eq_6, ev.eq_7, ev.eq_8, ev.eq_9, ev.eq_10, ev.eq_11, ev.eq_12, ev.eq_13, ev.eq_14, ev.eq_15, ev.eq_16, ev.eq_17, ev.eq_18, ev.eq_19, ev.eq_20, ev.eq_21, ev.eq_22, ev.eq_23, ev.eq_24, ev.eq_25, ev.eq_26, ev.eq_27, ev.eq_28, ev.eq_29, ev.eq_30, ev.eq_31, ev.eq_32, ev.eq_34, ev.eq_35, ev.eq_36, ev.eq_37, ev_cmp, evs, evP, evA, evAnd, evOr, evC, evS.eq_1, evS.eq_2, evS.eq_3, evS.eq_4, evS.eq_5, evS.eq_6, evS.eq_7, evS.eq_10, evS.eq_11, evS.eq_12, evS.eq_13, evS.eq_14, evS_for, evS_whl, evSs, rsv, runFd, start, bor, pur, purs, isVarB, smp, smps, b_ok, b_exc, o_some, h_val, h_tt, h_f, l_val, l_f, f_val, f_lst, f_tup, f_map, n_add, n_sub, lt_of_lt, c_le, c_gt, c_ge, eq_ii, ne_ii, t_bl, lstAt, modE, modC, setL, setF, endOf, outsOf, callC, ioPos, p_call, p_ios, p_glob, io0, io1, io2, io3, io4, io5, io6, io7, io8, io9, io10, io11, io12, io13, io14, io15, io16, io17, io18, io19, io20, io21, io22, io23, takeIo, putIo, hasBw, bindTg, binding, Tg.slots, wipeE, noexc, Bool.and_true, Bool.true_and, Bool.and_false, Bool.false_and, Bool.or_true, Bool.true_or, Bool.or_false, Bool.false_or, Bool.not_true, Bool.not_false, if_true, if_false, ite_true, ite_false, reduceIte, Bool.false_eq_true, List.length_cons, List.length_nil, List.map_cons, List.map_nil, List.replicate, List.append_nil, List.nil_append, List.cons_append, List.getElem?_cons_zero, List.getElem?_cons_succ, List.set_cons_zero, List.set_cons_succ, List.zip_cons_cons, List.zip_nil_left, List.foldl_cons, List.foldl_nil, Option.map_some, Option.bind_some, Option.map_none, Option.bind_none, Option.isSome_some, C.isVal, len_l, len_c, len_t, Nat.reduceAdd, Nat.reduceSub, Nat.reduceLeDiff, Nat.reduceEqDiff, Nat.zero_add, List.getElem?_nil, Option.isSome_none, it_seqc, it_seql, mkTup, allVal, slH_l])
  have e8 : evS (pk 39) S8 (E (some (.val (.lst (FD f)))) (some (.val (.lst (FD g)))) (some (.val (kd ps))) (some (.val (kd qs))) o5 none none) = .ok .nx (E (some (.val (.lst (FD f)))) (some (.val (.lst (FD g)))) (some (.val (kd ps))) (some (.val (kd qs))) o5 none none) := by
    simp only [S8, E, j2, r96, l96, j4, j3, ev.eq_1, ev.eq_2, ev.eq_3, ev.eq_4, ev.eq_5, ev.eq_6, ev.eq_7, ev.eq_8, ev.eq_9, ev.eq_10, ev.eq_11, ev.eq_12, ev.eq_13, ev.eq_14, ev.eq_15, ev.eq_16, ev.eq_17, ev.eq_18, ev.eq_19, ev.eq_20, ev.eq_21, ev.eq_22, ev.eq_23, ev.eq_24, ev.eq_25, ev.eq_26, ev.eq_27, ev.eq_28, ev.eq_29, ev.eq_30, ev.eq_31, ev.eq_32, ev.eq_34, ev.eq_35, ev.eq_36, ev.eq_37, ev_cmp, evs, evP, evA, evAnd, evOr, evC, evS.eq_1, evS.eq_2, evS.eq_3, evS.eq_4, evS.eq_5, evS.eq_6, evS.eq_7, evS.eq_10, evS.eq_11, evS.eq_12, evS.eq_13, evS.eq_14, evS_for, evS_whl, evSs, rsv, runFd, start, bor, pur, purs, isVarB, smp, smps, b_ok, b_exc, o_some, h_val, h_tt, h_f, l_val, l_f, f_val, f_lst, f_tup, f_map, n_add, n_sub, lt_of_lt, c_le, c_gt, c_ge, eq_ii, ne_ii, t_bl, lstAt, modE, modC, setL, setF, endOf, outsOf, callC, ioPos, p_call, p_ios, p_glob, io0, io1, io2, io3, io4, io5, io6, io7, io8, io9, io10, io11, io12, io13, io14, io15, io16, io17, io18, io19, io20, io21, io22, io23, takeIo, putIo, hasBw, bindTg, binding, Tg.slots, wipeE, noexc, Bool.and_true, Bool.true_and, Bool.and_false, Bool.false_and, Bool.or_true, Bool.true_or, Bool.or_false, Bool.false_or, Bool.not_true, Bool.not_false, if_true, if_false, ite_true, ite_false, reduceIte, Bool.false_eq_true, List.length_cons, List.length_nil, List.map_cons, List.map_nil, List.replicate, List.append_nil, List.nil_append, List.cons_append, List.getElem?_cons_zero, List.getElem?_cons_succ, List.set_cons_zero, List.set_cons_succ, List.zip_cons_cons, List.zip_nil_left, List.foldl_cons, List.foldl_nil, Option.map_some, Option.bind_some, Option.map_none, Option.bind_none, Option.isSome_some, C.isVal, len_l, len_c, len_t, Nat.reduceAdd, Nat.reduceSub, Nat.reduceLeDiff, Nat.reduceEqDiff, Nat.zero_add, List.getElem?_nil, Option.isSome_none, it_seqc, it_seql, mkTup, allVal, slH_l]
  obtain ⟨ms, k1, k2⟩ := met_ok 34 ps qs p1 q1
  have k2 : run pg 39 10 _ = _ := k2
  have k3 : run pg 39 21 _ = _ := is_ok 37 (fun x => f x && g x) ms (k1.ext fun x hx => by rw [bx x hx, by' x hx])
  have k4 := pair_flags (some (sc ns)) (some (.val (kd ps))) (some (.val (kd qs))) o5 (.and [(.sub (.var 1) (.var 8)), (.sub (.var 2) (.var 8))]) (fun a b => a && b) f g (fun x hx => by
    have s1 := FD_sub f x hx
    have s2 := FD_sub g x hx
    cases h1 : f x with
    | true =>
      rw [h1] at s1
      simp only [s1, s2, ev.eq_1, ev.eq_2, ev.eq_3, ev.eq_4, ev.eq_5, ev.eq_6, ev.eq_7, ev.eq_8, ev.eq_9, ev.eq_10, ev.eq_11, ev.eq_12, ev.eq_13, ev.eq_14, ev.eq_15, ev.eq_16, ev.eq_17, ev.eq_18, ev.eq_19, ev.eq_20, ev.eq_21, ev.eq_22, ev.eq_23, ev.eq_24, ev.eq_25, ev.eq_26, ev.eq_27, ev.eq_28, ev.eq_29, ev.eq_30, ev.eq_31, ev.eq_32, ev.eq_34, ev.eq_35, ev.eq_36, ev.eq_37, ev_cmp, evs, evP, evA, evAnd, evOr, evC, evS.eq_1, evS.eq_2, evS.eq_3, evS.eq_4, evS.eq_5, evS.eq_6, evS.eq_7, evS.eq_10, evS.eq_11, evS.eq_12, evS.eq_13, evS.eq_14, evS_for, evS_whl, evSs, rsv, runFd, start, bor, pur, purs, isVarB, smp, smps, b_ok, b_exc, o_some, h_val, h_tt, h_f, l_val, l_f, f_val, f_lst, f_tup, f_map, n_add, n_sub, lt_of_lt, c_le, c_gt, c_ge, eq_ii, ne_ii, t_bl, lstAt, modE, modC, setL, setF, endOf, outsOf, callC, ioPos, p_call, p_ios, p_glob, io0, io1, io2, io3, io4, io5, io6, io7, io8, io9, io10, io11, io12, io13, io14, io15, io16, io17, io18, io19, io20, io21, io22, io23, takeIo, putIo, hasBw, bindTg, binding, Tg.slots, wipeE, noexc, Bool.and_true, Bool.true_and, Bool.and_false, Bool.false_and, Bool.or_true, Bool.true_or, Bool.or_false, Bool.false_or, Bool.not_true, Bool.not_false, if_true, if_false, ite_true, ite_false, reduceIte, Bool.false_eq_true, List.length_cons, List.length_nil, List.map_cons, List.map_nil, List.replicate, List.append_nil, List.nil_append, List.cons_append, List.getElem?_cons_zero, List.getElem?_cons_succ, List.set_cons_zero, List.set_cons_succ, List.zip_cons_cons, List.zip_nil_left, List.foldl_cons, List.foldl_nil, Option.map_some, Option.bind_some, Option.map_none, Option.bind_none, Option.isSome_some, C.isVal, len_l, len_c, len_t, Nat.reduceAdd, Nat.reduceSub, Nat.reduceLeDiff, Nat.reduceEqDiff, Nat.zero_add, List.getElem?_nil, Option.isSome_none, it_seqc, it_seql, mkTup, allVal, slH_l]
    | false =>
      rw [h1] at s1
      simp only [s1, ev.eq_1, ev.eq_2, ev.eq_3, ev.eq_4, ev.eq_5, ev.eq_6, ev.eq_7, ev.eq_8, ev.eq_9, ev.eq_10, ev.eq_11, ev.eq_12, ev.eq_13, ev.eq_14, ev.eq_15, ev.eq_16, ev.eq_17, ev.eq_18, ev.eq_19, ev.eq_20, ev.eq_21, ev.eq_22, ev.eq_23, ev.eq_24, ev.eq_25, ev.eq_26, ev.eq_27, ev.eq_28, ev.eq_29, ev.eq_30, ev.eq_31, ev.eq_32, ev.eq_34, ev.eq_35, ev.eq_36, ev.eq_37, ev_cmp, evs, evP, evA, evAnd, evOr, evC, evS.eq_1, evS.eq_2, evS.eq_3, evS.eq_4, evS.eq_5, evS.eq_6, evS.eq_7, evS.eq_10, evS.eq_11, evS.eq_12, evS.eq_13, evS.eq_14, evS_for, evS_whl, evSs, rsv, runFd, start, bor, pur, purs, isVarB, smp, smps, b_ok, b_exc, o_some, h_val, h_tt, h_f, l_val, l_f, f_val, f_lst, f_tup, f_map, n_add, n_sub, lt_of_lt, c_le, c_gt, c_ge, eq_ii, ne_ii, t_bl, lstAt, modE, modC, setL, setF, endOf, outsOf, callC, ioPos, p_call, p_ios, p_glob, io0, io1, io2, io3, io4, io5, io6, io7, io8, io9, io10, io11, io12, io13, io14, io15, io16, io17, io18, io19, io20, io21, io22, io23, takeIo, putIo, hasBw, bindTg, binding, Tg.slots, wipeE, noexc, Bool.and_true, Bool.true_and, Bool.and_false, Bool.false_and, Bool.or_true, Bool.true_or, Bool.or_false, Bool.false_or, Bool.not_true, Bool.not_false, if_true, if_false, ite_true, ite_false, reduceIte, Bool.false_eq_true, List.length_cons, List.length_nil, List.map_cons, List.map_nil, List.replicate, List.append_nil, List.nil_append, List.cons_append, List.getElem?_cons_zero, List.getElem?_cons_succ, List.set_cons_zero, List.set_cons_succ, List.zip_cons_cons, List.zip_nil_left, List.foldl_cons, List.foldl_nil, Option.map_some, Option.bind_some, Option.map_none, Option.bind_none, Option.isSome_some, C.isVal, len_l, len_c, len_t, Nat.reduceAdd, Nat.reduceSub, Nat.reduceLeDiff, Nat.reduceEqDiff, Nat.zero_add, List.getElem?_nil, Option.isSome_none, it_seqc, it_seql, mkTup, allVal, slH_l])
  have e9 : evS (pk 39) S9 (E (some (.val (.lst (FD f)))) (some (.val (.lst (FD g)))) (some (.val (kd ps))) (some (.val (kd qs))) o5 none none) = .ok .nx (E (some (.val (.lst (FD f)))) (some (.val (.lst (FD g)))) (some (.val (kd ps))) (some (.val (kd qs))) o5 none none) := by
    simp only [S9, E, k2, r96, l96, k4, k3, ev.eq_1, ev.eq_2, ev.eq_3, ev.eq_4, ev.eq_5, ev.eq_6, ev.eq_7, ev.eq_8, ev.eq_9, ev.eq_10, ev.eq_11, ev.eq_12, ev.eq_13, ev.eq_14, ev.eq_15, ev.eq_16, ev.eq_17, ev.eq_18, ev.eq_19, ev.eq_20, ev.eq_21, ev.eq_22, ev.eq_23, ev.eq_24, ev.eq_25, ev.eq_26, ev.eq_27, ev.eq_28, ev.eq_29, ev.eq_30, ev.eq_31, ev.eq_32, ev.eq_34, ev.eq_35, ev.eq_36, ev.eq_37, ev_cmp, evs, evP, evA, evAnd, evOr, evC, evS.eq_1, evS.eq_2, evS.eq_3, evS.eq_4, evS.eq_5, evS.eq_6, evS.eq_7, evS.eq_10, evS.eq_11, evS.eq_12, evS.eq_13, evS.eq_14, evS_for, evS_whl, evSs, rsv, runFd, start, bor, pur, purs, isVarB, smp, smps, b_ok, b_exc, o_some, h_val, h_tt, h_f, l_val, l_f, f_val, f_lst, f_tup, f_map, n_add, n_sub, lt_of_lt, c_le, c_gt, c_ge, eq_ii, ne_ii, t_bl, lstAt, modE, modC, setL, setF, endOf, outsOf, callC, ioPos, p_call, p_ios, p_glob, io0, io1, io2, io3, io4, io5, io6, io7, io8, io9, io10, io11, io12, io13, io14, io15, io16, io17, io18, io19, io20, io21, io22, io23, takeIo, putIo, hasBw, bindTg, binding, Tg.slots, wipeE, noexc, Bool.and_true, Bool.true_and, Bool.and_false, Bool.false_and, Bool.or_true, Bool.true_or, Bool.or_false, Bool.false_or, Bool.not_true, Bool.not_false, if_true, if_false, ite_true, ite_false, reduceIte, Bool.false_eq_true, List.length_cons, List.length_nil, List.map_cons, List.map_nil, List.replicate, List.append_nil, List.nil_append, List.cons_append, List.getElem?_cons_zero, List.getElem?_cons_succ, List.set_cons_zero, List.set_cons_succ, List.zip_cons_cons, List.zip_nil_left, List.foldl_cons, List.foldl_nil, Option.map_some, Option.bind_some, Option.map_none, Option.bind_none, Option.isSome_some, C.isVal, len_l, len_c, len_t, Nat.reduceAdd, Nat.reduceSub, Nat.reduceLeDiff, Nat.reduceEqDiff, Nat.zero_add, List.getElem?_nil, Option.isSome_none, it_seqc, it_seql, mkTup, allVal, slH_l]
  obtain ⟨os, m1, m2⟩ := others_ok 34 ps p1
  have m2 : run pg 39 11 _ = _ := m2
  have m3 : run pg 39 21 _ = _ := is_ok 37 (fun x => !f x) os (m1.ext fun x hx => by rw [bx x hx])
  have m4 := not_flags (some (sc ns)) (some (.val (.lst (FD g)))) (some (.val (kd ps))) (some (.val (kd qs))) o5 f
  have fl := FD_line f
  have fr : run pg 39 22 _ = _ := far_ok 32 ps p1
  have ec : ev (pk 39) (.not (.call 21 [(.call 11 [(.var 3)]), (.comp (.not (.var 10)) (.nm 10) .seq [(.var 1)] [])])) (E (some (.val (.lst (FD f)))) (some (.val (.lst (FD g)))) (some (.val (kd ps))) (some (.val (kd qs))) o5 none none) = .ok (.val (.bl false)) (E (some (.val (.lst (FD f)))) (some (.val (.lst (FD g)))) (some (.val (kd ps))) (some (.val (kd qs))) o5 none none) := by
    simp only [E, fl, m4, m2, m3, FC, ev.eq_1, ev.eq_2, ev.eq_3, ev.eq_4, ev.eq_5, ev.eq_6, ev.eq_7, ev.eq_8, ev.eq_9, ev.eq_10, ev.eq_11, ev.eq_12, ev.eq_13, ev.eq_14, ev.eq_15, ev.eq_16, ev.eq_17, ev.eq_18, ev.eq_19, ev.eq_20, ev.eq_21, ev.eq_22, ev.eq_23, ev.eq_24, ev.eq_25, ev.eq_26, ev.eq_27, ev.eq_28, ev.eq_29, ev.eq_30, ev.eq_31, ev.eq_32, ev.eq_34, ev.eq_35, ev.eq_36, ev.eq_37, ev_cmp, evs, evP, evA, evAnd, evOr, evC, evS.eq_1, evS.eq_2, evS.eq_3, evS.eq_4, evS.eq_5, evS.eq_6, evS.eq_7, evS.eq_10, evS.eq_11, evS.eq_12, evS.eq_13, evS.eq_14, evS_for, evS_whl, evSs, rsv, runFd, start, bor, pur, purs, isVarB, smp, smps, b_ok, b_exc, o_some, h_val, h_tt, h_f, l_val, l_f, f_val, f_lst, f_tup, f_map, n_add, n_sub, lt_of_lt, c_le, c_gt, c_ge, eq_ii, ne_ii, t_bl, lstAt, modE, modC, setL, setF, endOf, outsOf, callC, ioPos, p_call, p_ios, p_glob, io0, io1, io2, io3, io4, io5, io6, io7, io8, io9, io10, io11, io12, io13, io14, io15, io16, io17, io18, io19, io20, io21, io22, io23, takeIo, putIo, hasBw, bindTg, binding, Tg.slots, wipeE, noexc, Bool.and_true, Bool.true_and, Bool.and_false, Bool.false_and, Bool.or_true, Bool.true_or, Bool.or_false, Bool.false_or, Bool.not_true, Bool.not_false, if_true, if_false, ite_true, ite_false, reduceIte, Bool.false_eq_true, List.length_cons, List.length_nil, List.map_cons, List.map_nil, List.replicate, List.append_nil, List.nil_append, List.cons_append, List.getElem?_cons_zero, List.getElem?_cons_succ, List.set_cons_zero, List.set_cons_succ, List.zip_cons_cons, List.zip_nil_left, List.foldl_cons, List.foldl_nil, Option.map_some, Option.bind_some, Option.map_none, Option.bind_none, Option.isSome_some, C.isVal, len_l, len_c, len_t, Nat.reduceAdd, Nat.reduceSub, Nat.reduceLeDiff, Nat.reduceEqDiff, Nat.zero_add, List.getElem?_nil, Option.isSome_none, it_seqc, it_seql, mkTup, allVal, slH_l]
  have ef : ev (pk 39) (.call 22 [(.var 3)]) (E (some (.val (.lst (FD f)))) (some (.val (.lst (FD g)))) (some (.val (kd ps))) (some (.val (kd qs))) o5 none none) = .ok (.val (.bl true)) (E (some (.val (.lst (FD f)))) (some (.val (.lst (FD g)))) (some (.val (kd ps))) (some (.val (kd qs))) o5 none none) := by
    refine call1_ok rfl ?_ ?_
    · rw [p_ios, io22]
    · rw [p_call]
      exact fr
  have e10 : evS (pk 39) S10 (E (some (.val (.lst (FD f)))) (some (.val (.lst (FD g)))) (some (.val (kd ps))) (some (.val (kd qs))) o5 none none) = .ok .nx (E (some (.val (.lst (FD f)))) (some (.val (.lst (FD g)))) (some (.val (kd ps))) (some (.val (kd qs))) o5 none none) := by
    exact (ite_f (or_ff ec (not_t ef))).trans rfl
  have d1 : run pg 39 12 [sc ns, .val (.int 1)] = _ := cell_ok 38 ns 1
  have d0 : run pg 39 12 [sc ns, .val (.int 0)] = _ := cell_ok 38 ns 0
  have nb := no_sets_ok 38 (ns[1]?.getD 0)
  have u0 := Int.emod_nonneg (ns[1]?.getD 0) (show (90 : Int) ≠ 0 by decide)
  have u1 := Int.emod_lt_of_pos (ns[1]?.getD 0) (show (0 : Int) < 90 by decide)
  obtain ⟨u, hu, hu2⟩ : ∃ u : Nat, ns[1]?.getD 0 % 90 = (u : Int) ∧ u < 90 := ⟨(ns[1]?.getD 0 % 90).toNat, by omega, by omega⟩
  rw [hu] at nb
  have nb : run pg 39 18 _ = _ := nb
  have e11 : evS (pk 39) S11 (E (some (.val (.lst (FD f)))) (some (.val (.lst (FD g)))) (some (.val (kd ps))) (some (.val (kd qs))) o5 none none) = .ok .nx (E (some (.val (.lst (FD f)))) (some (.val (.lst (FD g)))) (some (.val (kd ps))) (some (.val (kd qs))) o5 (some (.val (.lst (things (u : Int))))) none) := by
    simp only [S11, E, d1, nb, ev.eq_1, ev.eq_2, ev.eq_3, ev.eq_4, ev.eq_5, ev.eq_6, ev.eq_7, ev.eq_8, ev.eq_9, ev.eq_10, ev.eq_11, ev.eq_12, ev.eq_13, ev.eq_14, ev.eq_15, ev.eq_16, ev.eq_17, ev.eq_18, ev.eq_19, ev.eq_20, ev.eq_21, ev.eq_22, ev.eq_23, ev.eq_24, ev.eq_25, ev.eq_26, ev.eq_27, ev.eq_28, ev.eq_29, ev.eq_30, ev.eq_31, ev.eq_32, ev.eq_34, ev.eq_35, ev.eq_36, ev.eq_37, ev_cmp, evs, evP, evA, evAnd, evOr, evC, evS.eq_1, evS.eq_2, evS.eq_3, evS.eq_4, evS.eq_5, evS.eq_6, evS.eq_7, evS.eq_10, evS.eq_11, evS.eq_12, evS.eq_13, evS.eq_14, evS_for, evS_whl, evSs, rsv, runFd, start, bor, pur, purs, isVarB, smp, smps, b_ok, b_exc, o_some, h_val, h_tt, h_f, l_val, l_f, f_val, f_lst, f_tup, f_map, n_add, n_sub, lt_of_lt, c_le, c_gt, c_ge, eq_ii, ne_ii, t_bl, lstAt, modE, modC, setL, setF, endOf, outsOf, callC, ioPos, p_call, p_ios, p_glob, io0, io1, io2, io3, io4, io5, io6, io7, io8, io9, io10, io11, io12, io13, io14, io15, io16, io17, io18, io19, io20, io21, io22, io23, takeIo, putIo, hasBw, bindTg, binding, Tg.slots, wipeE, noexc, Bool.and_true, Bool.true_and, Bool.and_false, Bool.false_and, Bool.or_true, Bool.true_or, Bool.or_false, Bool.false_or, Bool.not_true, Bool.not_false, if_true, if_false, ite_true, ite_false, reduceIte, Bool.false_eq_true, List.length_cons, List.length_nil, List.map_cons, List.map_nil, List.replicate, List.append_nil, List.nil_append, List.cons_append, List.getElem?_cons_zero, List.getElem?_cons_succ, List.set_cons_zero, List.set_cons_succ, List.zip_cons_cons, List.zip_nil_left, List.foldl_cons, List.foldl_nil, Option.map_some, Option.bind_some, Option.map_none, Option.bind_none, Option.isSome_some, C.isVal, len_l, len_c, len_t, Nat.reduceAdd, Nat.reduceSub, Nat.reduceLeDiff, Nat.reduceEqDiff, Nat.zero_add, List.getElem?_nil, Option.isSome_none, it_seqc, it_seql, mkTup, allVal, slH_l]
  have tl : (things (u : Int)).length = 35 := rfl
  have v0 := Int.emod_nonneg (ns[0]?.getD 0) (show (35 : Int) ≠ 0 by decide)
  have v1 := Int.emod_lt_of_pos (ns[0]?.getD 0) (show (0 : Int) < 35 by decide)
  have m35 : binC .mod (.val (.int (ns[0]?.getD 0))) (.val (.int (((things (u : Int)).length : Nat) : Int))) = some (.val (.int (ns[0]?.getD 0 % 35))) := n_mod _ 35 (by decide)
  generalize ns[0]?.getD 0 % 35 = v at *
  obtain ⟨t, ht, hm⟩ : ∃ t, subC (.val (.lst (things (u : Int)))) (.int v) = some (.val t) ∧ t ∈ things (u : Int) := by
    have hl : v.toNat < (things (u : Int)).length := by rw [tl]; omega
    refine ⟨(things (u : Int))[v.toNat], ?_, List.getElem_mem hl⟩
    rw [sub_l, ix_of v0 (by rw [tl]; exact v1), Option.bind_some, List.getElem?_eq_getElem hl]
    rfl
  have e12 : evS (pk 39) S12 (E (some (.val (.lst (FD f)))) (some (.val (.lst (FD g)))) (some (.val (kd ps))) (some (.val (kd qs))) o5 (some (.val (.lst (things (u : Int))))) none) = .ok .nx (E (some (.val (.lst (FD f)))) (some (.val (.lst (FD g)))) (some (.val (kd ps))) (some (.val (kd qs))) o5 (some (.val (.lst (things (u : Int))))) (some (.val t))) := by
    simp only [S12, E, d0, m35, ht, ev.eq_1, ev.eq_2, ev.eq_3, ev.eq_4, ev.eq_5, ev.eq_6, ev.eq_7, ev.eq_8, ev.eq_9, ev.eq_10, ev.eq_11, ev.eq_12, ev.eq_13, ev.eq_14, ev.eq_15, ev.eq_16, ev.eq_17, ev.eq_18, ev.eq_19, ev.eq_20, ev.eq_21, ev.eq_22, ev.eq_23, ev.eq_24, ev.eq_25, ev.eq_26, ev.eq_27, ev.eq_28, ev.eq_29, ev.eq_30, ev.eq_31, ev.eq_32, ev.eq_34, ev.eq_35, ev.eq_36, ev.eq_37, ev_cmp, evs, evP, evA, evAnd, evOr, evC, evS.eq_1, evS.eq_2, evS.eq_3, evS.eq_4, evS.eq_5, evS.eq_6, evS.eq_7, evS.eq_10, evS.eq_11, evS.eq_12, evS.eq_13, evS.eq_14, evS_for, evS_whl, evSs, rsv, runFd, start, bor, pur, purs, isVarB, smp, smps, b_ok, b_exc, o_some, h_val, h_tt, h_f, l_val, l_f, f_val, f_lst, f_tup, f_map, n_add, n_sub, lt_of_lt, c_le, c_gt, c_ge, eq_ii, ne_ii, t_bl, lstAt, modE, modC, setL, setF, endOf, outsOf, callC, ioPos, p_call, p_ios, p_glob, io0, io1, io2, io3, io4, io5, io6, io7, io8, io9, io10, io11, io12, io13, io14, io15, io16, io17, io18, io19, io20, io21, io22, io23, takeIo, putIo, hasBw, bindTg, binding, Tg.slots, wipeE, noexc, Bool.and_true, Bool.true_and, Bool.and_false, Bool.false_and, Bool.or_true, Bool.true_or, Bool.or_false, Bool.false_or, Bool.not_true, Bool.not_false, if_true, if_false, ite_true, ite_false, reduceIte, Bool.false_eq_true, List.length_cons, List.length_nil, List.map_cons, List.map_nil, List.replicate, List.append_nil, List.nil_append, List.cons_append, List.getElem?_cons_zero, List.getElem?_cons_succ, List.set_cons_zero, List.set_cons_succ, List.zip_cons_cons, List.zip_nil_left, List.foldl_cons, List.foldl_nil, Option.map_some, Option.bind_some, Option.map_none, Option.bind_none, Option.isSome_some, C.isVal, len_l, len_c, len_t, Nat.reduceAdd, Nat.reduceSub, Nat.reduceLeDiff, Nat.reduceEqDiff, Nat.zero_add, List.getElem?_nil, Option.isSome_none, it_seqc, it_seql, mkTup, allVal, slH_l]
  have no := things_no u hu2 t hm
  have n0 : run pg 39 4 [.val t] = _ := no 36
  have cl : compLoop (compB (pk 39) (.cmp .eq (.call 17 [(.var 9), (.var 7), (.var 3)]) (.k (.str [115, 101, 116]))) (.nm 9) []) (rangeD 1 6) (E (some (.val (.lst (FD f)))) (some (.val (.lst (FD g)))) (some (.val (kd ps))) (some (.val (kd qs))) o5 (some (.val (.lst (things (u : Int))))) (some (.val t))) = .ok ((rangeD 1 6).map fun _ => C.val (.bl true)) (E (some (.val (.lst (FD f)))) (some (.val (.lst (FD g)))) (some (.val (kd ps))) (some (.val (kd qs))) o5 (some (.val (.lst (things (u : Int))))) (some (.val t))) :=
    compLoop_map _ _ _ fun x hx => by
      obtain ⟨i, hi⟩ := List.mem_iff_getElem?.mp hx
      obtain ⟨rfl, hi⟩ := rng_get _ _ _ _ hi
      have : run pg 39 17 _ = _ := refused_set 33 no ps p1 (1 + (i : Int)) (by omega) (by omega)
      simp only [compB, E, this, eq_set, ev.eq_1, ev.eq_2, ev.eq_3, ev.eq_4, ev.eq_5, ev.eq_6, ev.eq_7, ev.eq_8, ev.eq_9, ev.eq_10, ev.eq_11, ev.eq_12, ev.eq_13, ev.eq_14, ev.eq_15, ev.eq_16, ev.eq_17, ev.eq_18, ev.eq_19, ev.eq_20, ev.eq_21, ev.eq_22, ev.eq_23, ev.eq_24, ev.eq_25, ev.eq_26, ev.eq_27, ev.eq_28, ev.eq_29, ev.eq_30, ev.eq_31, ev.eq_32, ev.eq_34, ev.eq_35, ev.eq_36, ev.eq_37, ev_cmp, evs, evP, evA, evAnd, evOr, evC, evS.eq_1, evS.eq_2, evS.eq_3, evS.eq_4, evS.eq_5, evS.eq_6, evS.eq_7, evS.eq_10, evS.eq_11, evS.eq_12, evS.eq_13, evS.eq_14, evS_for, evS_whl, evSs, rsv, runFd, start, bor, pur, purs, isVarB, smp, smps, b_ok, b_exc, o_some, h_val, h_tt, h_f, l_val, l_f, f_val, f_lst, f_tup, f_map, n_add, n_sub, lt_of_lt, c_le, c_gt, c_ge, eq_ii, ne_ii, t_bl, lstAt, modE, modC, setL, setF, endOf, outsOf, callC, ioPos, p_call, p_ios, p_glob, io0, io1, io2, io3, io4, io5, io6, io7, io8, io9, io10, io11, io12, io13, io14, io15, io16, io17, io18, io19, io20, io21, io22, io23, takeIo, putIo, hasBw, bindTg, binding, Tg.slots, wipeE, noexc, Bool.and_true, Bool.true_and, Bool.and_false, Bool.false_and, Bool.or_true, Bool.true_or, Bool.or_false, Bool.false_or, Bool.not_true, Bool.not_false, if_true, if_false, ite_true, ite_false, reduceIte, Bool.false_eq_true, List.length_cons, List.length_nil, List.map_cons, List.map_nil, List.replicate, List.append_nil, List.nil_append, List.cons_append, List.getElem?_cons_zero, List.getElem?_cons_succ, List.set_cons_zero, List.set_cons_succ, List.zip_cons_cons, List.zip_nil_left, List.foldl_cons, List.foldl_nil, Option.map_some, Option.bind_some, Option.map_none, Option.bind_none, Option.isSome_some, C.isVal, len_l, len_c, len_t, Nat.reduceAdd, Nat.reduceSub, Nat.reduceLeDiff, Nat.reduceEqDiff, Nat.zero_add, List.getElem?_nil, Option.isSome_none, it_seqc, it_seql, mkTup, allVal, slH_l]
  have e13 : evS (pk 39) S13 (E (some (.val (.lst (FD f)))) (some (.val (.lst (FD g)))) (some (.val (kd ps))) (some (.val (kd qs))) o5 (some (.val (.lst (things (u : Int))))) (some (.val t))) = .ok (.rt (.val (.bl true))) (E (some (.val (.lst (FD f)))) (some (.val (.lst (FD g)))) (some (.val (kd ps))) (some (.val (kd qs))) o5 (some (.val (.lst (things (u : Int))))) (some (.val t))) := by
    simp only [E] at cl
    simp only [S13, E, n0, is_f, rng17, len17, cl, frz_mapf (fun _ : D => D.bl true), all_true, ev.eq_1, ev.eq_2, ev.eq_3, ev.eq_4, ev.eq_5, ev.eq_6, ev.eq_7, ev.eq_8, ev.eq_9, ev.eq_10, ev.eq_11, ev.eq_12, ev.eq_13, ev.eq_14, ev.eq_15, ev.eq_16, ev.eq_17, ev.eq_18, ev.eq_19, ev.eq_20, ev.eq_21, ev.eq_22, ev.eq_23, ev.eq_24, ev.eq_25, ev.eq_26, ev.eq_27, ev.eq_28, ev.eq_29, ev.eq_30, ev.eq_31, ev.eq_32, ev.eq_34, ev.eq_35, ev.eq_36, ev.eq_37, ev_cmp, evs, evP, evA, evAnd, evOr, evC, evS.eq_1, evS.eq_2, evS.eq_3, evS.eq_4, evS.eq_5, evS.eq_6, evS.eq_7, evS.eq_10, evS.eq_11, evS.eq_12, evS.eq_13, evS.eq_14, evS_for, evS_whl, evSs, rsv, runFd, start, bor, pur, purs, isVarB, smp, smps, b_ok, b_exc, o_some, h_val, h_tt, h_f, l_val, l_f, f_val, f_lst, f_tup, f_map, n_add, n_sub, lt_of_lt, c_le, c_gt, c_ge, eq_ii, ne_ii, t_bl, lstAt, modE, modC, setL, setF, endOf, outsOf, callC, ioPos, p_call, p_ios, p_glob, io0, io1, io2, io3, io4, io5, io6, io7, io8, io9, io10, io11, io12, io13, io14, io15, io16, io17, io18, io19, io20, io21, io22, io23, takeIo, putIo, hasBw, bindTg, binding, Tg.slots, wipeE, noexc, Bool.and_true, Bool.true_and, Bool.and_false, Bool.false_and, Bool.or_true, Bool.true_or, Bool.or_false, Bool.false_or, Bool.not_true, Bool.not_false, if_true, if_false, ite_true, ite_false, reduceIte, Bool.false_eq_true, List.length_cons, List.length_nil, List.map_cons, List.map_nil, List.replicate, List.append_nil, List.nil_append, List.cons_append, List.getElem?_cons_zero, List.getElem?_cons_succ, List.set_cons_zero, List.set_cons_succ, List.zip_cons_cons, List.zip_nil_left, List.foldl_cons, List.foldl_nil, Option.map_some, Option.bind_some, Option.map_none, Option.bind_none, Option.isSome_some, C.isVal, len_l, len_c, len_t, Nat.reduceAdd, Nat.reduceSub, Nat.reduceLeDiff, Nat.reduceEqDiff, Nat.zero_add, List.getElem?_nil, Option.isSome_none, it_seqc, it_seql, mkTup, allVal, slH_l]
  have main : evSs (pk 39) fd_law.body (start fd_law.ns [.val (.lst (ns.map .int))]) = .ok (.rt (.val (.bl true))) (E (some (.val (.lst (FD f)))) (some (.val (.lst (FD g)))) (some (.val (kd ps))) (some (.val (kd qs))) o5 (some (.val (.lst (things (u : Int))))) (some (.val t))) :=
    (q_nx e1).trans <| (q_nx e2).trans <| (q_nx e3).trans <| (q_nx e4).trans <| (q_nx e5).trans <| (q_nx e6).trans <| (q_nx e7).trans <| (q_nx e8).trans <| (q_nx e9).trans <| (q_nx e10).trans <| (q_nx e11).trans <| (q_nx e12).trans <| q_rt e13
  rw [r_law]
  exact rt_ios rfl main rfl
end K01

set_option maxHeartbeats 0
namespace K01
open PySem PySem.Spec PyProof.Rows L2 MiS
def top (i : Nat) : Stmt := PySem.Challenge.pw_signway_k01_sets.main.body.getD i (.Pass ⟨0, 0, 0, 0⟩)
abbrev s_is_number : Stmt := top 13
def i_is_number : FnI := ⟨"is_number", s_is_number, ["thing"], ["thing"], fd_is_number⟩
abbrev s_is_text : Stmt := top 14
def i_is_text : FnI := ⟨"is_text", s_is_text, ["thing", "sign"], ["thing"], fd_is_text⟩
abbrev s_number_of : Stmt := top 15
def i_number_of : FnI := ⟨"number_of", s_number_of, ["sign"], ["sign"], fd_number_of⟩
abbrev s_is_pair : Stmt := top 16
def i_is_pair : FnI := ⟨"is_pair", s_is_pair, ["thing", "least"], ["thing", "least"], fd_is_pair⟩
abbrev s_is_set : Stmt := top 17
def i_is_set : FnI := ⟨"is_set", s_is_set, ["thing", "least", "pair"], ["thing"], fd_is_set⟩
abbrev s_need_set : Stmt := top 18
def i_need_set : FnI := ⟨"need_set", s_need_set, ["thing"], ["thing"], fd_need_set⟩
abbrev s_has : Stmt := top 19
def i_has : FnI := ⟨"has", s_has, ["one", "number", "low", "high"], ["one", "number"], fd_has⟩
abbrev s_flags_of : Stmt := top 20
def i_flags_of : FnI := ⟨"flags_of", s_flags_of, ["one", "found", "low", "high", "number"], ["one"], fd_flags_of⟩
abbrev s_set_of : Stmt := top 21
def i_set_of : FnI := ⟨"set_of", s_set_of, ["flags", "found", "number"], ["flags"], fd_set_of⟩
abbrev s_joined : Stmt := top 22
def i_joined : FnI := ⟨"joined", s_joined, ["one", "other", "left", "right"], ["one", "other"], fd_joined⟩
abbrev s_met : Stmt := top 23
def i_met : FnI := ⟨"met", s_met, ["one", "other", "left", "right"], ["one", "other"], fd_met⟩
abbrev s_others : Stmt := top 24
def i_others : FnI := ⟨"others", s_others, ["one", "flag"], ["one"], fd_others⟩
abbrev s_law_cell_at : Stmt := top 26
def i_law_cell_at : FnI := ⟨"_law_cell_at", s_law_cell_at, ["script", "k"], ["script", "k"], fd_law_cell_at⟩
abbrev s_law_signs : Stmt := top 27
def i_law_signs : FnI := ⟨"_law_signs", s_law_signs, ["signs"], [], fd_law_signs⟩
abbrev s_law_flags : Stmt := top 28
def i_law_flags : FnI := ⟨"_law_flags", s_law_flags, ["cells", "kind", "flags", "cell", "low", "number"], ["cells"], fd_law_flags⟩
abbrev s_law_set : Stmt := top 29
def i_law_set : FnI := ⟨"_law_set", s_law_set, ["flags", "found", "number", "high"], ["flags"], fd_law_set⟩
abbrev s_law_kind : Stmt := top 30
def i_law_kind : FnI := ⟨"_law_kind", s_law_kind, ["error", "words", "is_other"], ["error"], fd_law_kind⟩
abbrev s_law_refused : Stmt := top 31
def i_law_refused : FnI := ⟨"_law_refused", s_law_refused, ["way", "thing", "good", "error"], ["way", "thing", "good"], fd_law_refused⟩
abbrev s_law_no_sets : Stmt := top 32
def i_law_no_sets : FnI := ⟨"_law_no_sets", s_law_no_sets, ["cell", "low", "some", "odd", "pair"], ["cell"], fd_law_no_sets⟩
abbrev s_law_truth : Stmt := top 33
def i_law_truth : FnI := ⟨"_law_truth", s_law_truth, ["told", "due"], ["told", "due"], fd_law_truth⟩
abbrev s_law_texts : Stmt := top 34
def i_law_texts : FnI := ⟨"_law_texts", s_law_texts, ["script", "signs", "text", "thing", "number", "found", "cell"], ["script"], fd_law_texts⟩
abbrev s_law_is : Stmt := top 35
def i_law_is : FnI := ⟨"_law_is", s_law_is, ["found", "flags", "pair"], ["found", "flags"], fd_law_is⟩
abbrev s_law_far_right : Stmt := top 36
def i_law_far_right : FnI := ⟨"_law_far_right", s_law_far_right, ["one", "far", "turn", "thing", "way"], ["one"], fd_law_far_right⟩
abbrev s_law : Stmt := top 37
def i_law : FnI := ⟨"law", s_law, ["script", "left", "right", "one", "other", "number", "some", "thing", "k", "way", "flag"], ["script"], fd_law⟩
def fi : Nat → Option FnI
  | 0 => some i_is_number
  | 1 => some i_is_text
  | 2 => some i_number_of
  | 3 => some i_is_pair
  | 4 => some i_is_set
  | 5 => some i_need_set
  | 6 => some i_has
  | 7 => some i_flags_of
  | 8 => some i_set_of
  | 9 => some i_joined
  | 10 => some i_met
  | 11 => some i_others
  | 12 => some i_law_cell_at
  | 13 => some i_law_signs
  | 14 => some i_law_flags
  | 15 => some i_law_set
  | 16 => some i_law_kind
  | 17 => some i_law_refused
  | 18 => some i_law_no_sets
  | 19 => some i_law_truth
  | 20 => some i_law_texts
  | 21 => some i_law_is
  | 22 => some i_law_far_right
  | 23 => some i_law
  | _ => none
def gname : Nat → Option Str
  | 0 => some "SIGNS"
  | 1 => some "MANY"
  | _ => none
def tab : List (Nat × Str) := [(1, "PatternError"), (2, "NoSign"), (3, "NoSet"), (4, "NoTree"), (5, "TooGreat"), (6, "BadPattern"), (7, "NoWay"), (8, "OutOfPlace"), (9, "BadSpare")]
def hi : Nat → Nat
  | 16 => 1
  | _ => 0
abbrev hname : Nat → Option Str := hnm fi hi
abbrev fname : Nat → Option Str := cnm fi hi
theorem th_law_kind : chSs ⟨i_law_kind.N, gname, fname, nameOf tab, false, hname, true⟩ (defScope i_law_kind.st) i_law_kind.d.io i_law_kind.d.body (defBody i_law_kind.st) = true := by decide +kernel
theorem t_is_number : FnT gname fname (nameOf tab) hname true i_is_number := ⟨⟨rfl, rfl, rfl, by decide +kernel, rfl, by decide +kernel, by decide +kernel⟩, rfl, rfl, by decide +kernel, by decide +kernel, by decide +kernel, fun _ => by decide +kernel⟩
theorem t_is_text : FnT gname fname (nameOf tab) hname true i_is_text := ⟨⟨rfl, rfl, rfl, by decide +kernel, rfl, by decide +kernel, by decide +kernel⟩, rfl, rfl, by decide +kernel, by decide +kernel, by decide +kernel, fun _ => by decide +kernel⟩
theorem t_number_of : FnT gname fname (nameOf tab) hname true i_number_of := ⟨⟨rfl, rfl, rfl, by decide +kernel, rfl, by decide +kernel, by decide +kernel⟩, rfl, rfl, by decide +kernel, by decide +kernel, by decide +kernel, fun _ => by decide +kernel⟩
theorem t_is_pair : FnT gname fname (nameOf tab) hname true i_is_pair := ⟨⟨rfl, rfl, rfl, by decide +kernel, rfl, by decide +kernel, by decide +kernel⟩, rfl, rfl, by decide +kernel, by decide +kernel, by decide +kernel, fun _ => by decide +kernel⟩
theorem t_is_set : FnT gname fname (nameOf tab) hname true i_is_set := ⟨⟨rfl, rfl, rfl, by decide +kernel, rfl, by decide +kernel, by decide +kernel⟩, rfl, rfl, by decide +kernel, by decide +kernel, by decide +kernel, fun _ => by decide +kernel⟩
theorem t_need_set : FnT gname fname (nameOf tab) hname true i_need_set := ⟨⟨rfl, rfl, rfl, by decide +kernel, rfl, by decide +kernel, by decide +kernel⟩, rfl, rfl, by decide +kernel, by decide +kernel, by decide +kernel, fun _ => by decide +kernel⟩
theorem t_has : FnT gname fname (nameOf tab) hname true i_has := ⟨⟨rfl, rfl, rfl, by decide +kernel, rfl, by decide +kernel, by decide +kernel⟩, rfl, rfl, by decide +kernel, by decide +kernel, by decide +kernel, fun _ => by decide +kernel⟩
theorem t_flags_of : FnT gname fname (nameOf tab) hname true i_flags_of := ⟨⟨rfl, rfl, rfl, by decide +kernel, rfl, by decide +kernel, by decide +kernel⟩, rfl, rfl, by decide +kernel, by decide +kernel, by decide +kernel, fun _ => by decide +kernel⟩
theorem t_set_of : FnT gname fname (nameOf tab) hname true i_set_of := ⟨⟨rfl, rfl, rfl, by decide +kernel, rfl, by decide +kernel, by decide +kernel⟩, rfl, rfl, by decide +kernel, by decide +kernel, by decide +kernel, fun _ => by decide +kernel⟩
theorem t_joined : FnT gname fname (nameOf tab) hname true i_joined := ⟨⟨rfl, rfl, rfl, by decide +kernel, rfl, by decide +kernel, by decide +kernel⟩, rfl, rfl, by decide +kernel, by decide +kernel, by decide +kernel, fun _ => by decide +kernel⟩
theorem t_met : FnT gname fname (nameOf tab) hname true i_met := ⟨⟨rfl, rfl, rfl, by decide +kernel, rfl, by decide +kernel, by decide +kernel⟩, rfl, rfl, by decide +kernel, by decide +kernel, by decide +kernel, fun _ => by decide +kernel⟩
theorem t_others : FnT gname fname (nameOf tab) hname true i_others := ⟨⟨rfl, rfl, rfl, by decide +kernel, rfl, by decide +kernel, by decide +kernel⟩, rfl, rfl, by decide +kernel, by decide +kernel, by decide +kernel, fun _ => by decide +kernel⟩
theorem t_law_cell_at : FnT gname fname (nameOf tab) hname true i_law_cell_at := ⟨⟨rfl, rfl, rfl, by decide +kernel, rfl, by decide +kernel, by decide +kernel⟩, rfl, rfl, by decide +kernel, by decide +kernel, by decide +kernel, fun _ => by decide +kernel⟩
theorem t_law_signs : FnT gname fname (nameOf tab) hname true i_law_signs := ⟨⟨rfl, rfl, rfl, by decide +kernel, rfl, by decide +kernel, by decide +kernel⟩, rfl, rfl, by decide +kernel, by decide +kernel, by decide +kernel, fun _ => by decide +kernel⟩
theorem t_law_flags : FnT gname fname (nameOf tab) hname true i_law_flags := ⟨⟨rfl, rfl, rfl, by decide +kernel, rfl, by decide +kernel, by decide +kernel⟩, rfl, rfl, by decide +kernel, by decide +kernel, by decide +kernel, fun _ => by decide +kernel⟩
theorem t_law_set : FnT gname fname (nameOf tab) hname true i_law_set := ⟨⟨rfl, rfl, rfl, by decide +kernel, rfl, by decide +kernel, by decide +kernel⟩, rfl, rfl, by decide +kernel, by decide +kernel, by decide +kernel, fun _ => by decide +kernel⟩
theorem t_law_kind : FnT gname fname (nameOf tab) hname false i_law_kind := ⟨⟨rfl, rfl, rfl, by decide +kernel, rfl, by decide +kernel, by decide +kernel⟩, rfl, rfl, by decide +kernel, by decide +kernel, by decide +kernel, fun z => nomatch z⟩
theorem t_law_refused : FnT gname fname (nameOf tab) hname true i_law_refused := ⟨⟨rfl, rfl, rfl, by decide +kernel, rfl, by decide +kernel, by decide +kernel⟩, rfl, rfl, by decide +kernel, by decide +kernel, by decide +kernel, fun _ => by decide +kernel⟩
theorem t_law_no_sets : FnT gname fname (nameOf tab) hname true i_law_no_sets := ⟨⟨rfl, rfl, rfl, by decide +kernel, rfl, by decide +kernel, by decide +kernel⟩, rfl, rfl, by decide +kernel, by decide +kernel, by decide +kernel, fun _ => by decide +kernel⟩
theorem t_law_truth : FnT gname fname (nameOf tab) hname true i_law_truth := ⟨⟨rfl, rfl, rfl, by decide +kernel, rfl, by decide +kernel, by decide +kernel⟩, rfl, rfl, by decide +kernel, by decide +kernel, by decide +kernel, fun _ => by decide +kernel⟩
theorem t_law_texts : FnT gname fname (nameOf tab) hname true i_law_texts := ⟨⟨rfl, rfl, rfl, by decide +kernel, rfl, by decide +kernel, by decide +kernel⟩, rfl, rfl, by decide +kernel, by decide +kernel, by decide +kernel, fun _ => by decide +kernel⟩
theorem t_law_is : FnT gname fname (nameOf tab) hname true i_law_is := ⟨⟨rfl, rfl, rfl, by decide +kernel, rfl, by decide +kernel, by decide +kernel⟩, rfl, rfl, by decide +kernel, by decide +kernel, by decide +kernel, fun _ => by decide +kernel⟩
theorem t_law_far_right : FnT gname fname (nameOf tab) hname true i_law_far_right := ⟨⟨rfl, rfl, rfl, by decide +kernel, rfl, by decide +kernel, by decide +kernel⟩, rfl, rfl, by decide +kernel, by decide +kernel, by decide +kernel, fun _ => by decide +kernel⟩
theorem t_law : FnT gname fname (nameOf tab) hname true i_law := ⟨⟨rfl, rfl, rfl, by decide +kernel, rfl, by decide +kernel, by decide +kernel⟩, rfl, rfl, by decide +kernel, by decide +kernel, by decide +kernel, fun _ => by decide +kernel⟩
def d_is_number : He.DefD := ⟨("is_number", none), "is_number", "is_number", defArgs s_is_number, defBody s_is_number, defScope s_is_number, [], []⟩
def d_is_text : He.DefD := ⟨("is_text", none), "is_text", "is_text", defArgs s_is_text, defBody s_is_text, defScope s_is_text, [], []⟩
def d_number_of : He.DefD := ⟨("number_of", none), "number_of", "number_of", defArgs s_number_of, defBody s_number_of, defScope s_number_of, [], []⟩
def d_is_pair : He.DefD := ⟨("is_pair", none), "is_pair", "is_pair", defArgs s_is_pair, defBody s_is_pair, defScope s_is_pair, [], []⟩
def d_is_set : He.DefD := ⟨("is_set", none), "is_set", "is_set", defArgs s_is_set, defBody s_is_set, defScope s_is_set, [], []⟩
def d_need_set : He.DefD := ⟨("need_set", none), "need_set", "need_set", defArgs s_need_set, defBody s_need_set, defScope s_need_set, [], []⟩
def d_has : He.DefD := ⟨("has", none), "has", "has", defArgs s_has, defBody s_has, defScope s_has, [], []⟩
def d_flags_of : He.DefD := ⟨("flags_of", none), "flags_of", "flags_of", defArgs s_flags_of, defBody s_flags_of, defScope s_flags_of, [], []⟩
def d_set_of : He.DefD := ⟨("set_of", none), "set_of", "set_of", defArgs s_set_of, defBody s_set_of, defScope s_set_of, [], []⟩
def d_joined : He.DefD := ⟨("joined", none), "joined", "joined", defArgs s_joined, defBody s_joined, defScope s_joined, [], []⟩
def d_met : He.DefD := ⟨("met", none), "met", "met", defArgs s_met, defBody s_met, defScope s_met, [], []⟩
def d_others : He.DefD := ⟨("others", none), "others", "others", defArgs s_others, defBody s_others, defScope s_others, [], []⟩
def d_law_cell_at : He.DefD := ⟨("_law_cell_at", none), "_law_cell_at", "_law_cell_at", defArgs s_law_cell_at, defBody s_law_cell_at, defScope s_law_cell_at, [], []⟩
def d_law_signs : He.DefD := ⟨("_law_signs", none), "_law_signs", "_law_signs", defArgs s_law_signs, defBody s_law_signs, defScope s_law_signs, [], []⟩
def d_law_flags : He.DefD := ⟨("_law_flags", none), "_law_flags", "_law_flags", defArgs s_law_flags, defBody s_law_flags, defScope s_law_flags, [], []⟩
def d_law_set : He.DefD := ⟨("_law_set", none), "_law_set", "_law_set", defArgs s_law_set, defBody s_law_set, defScope s_law_set, [], []⟩
def d_law_kind : He.DefD := ⟨("_law_kind", none), "_law_kind", "_law_kind", defArgs s_law_kind, defBody s_law_kind, defScope s_law_kind, [], []⟩
def d_law_refused : He.DefD := ⟨("_law_refused", none), "_law_refused", "_law_refused", defArgs s_law_refused, defBody s_law_refused, defScope s_law_refused, [], []⟩
def d_law_no_sets : He.DefD := ⟨("_law_no_sets", none), "_law_no_sets", "_law_no_sets", defArgs s_law_no_sets, defBody s_law_no_sets, defScope s_law_no_sets, [], []⟩
def d_law_truth : He.DefD := ⟨("_law_truth", none), "_law_truth", "_law_truth", defArgs s_law_truth, defBody s_law_truth, defScope s_law_truth, [], []⟩
def d_law_texts : He.DefD := ⟨("_law_texts", none), "_law_texts", "_law_texts", defArgs s_law_texts, defBody s_law_texts, defScope s_law_texts, [], []⟩
def d_law_is : He.DefD := ⟨("_law_is", none), "_law_is", "_law_is", defArgs s_law_is, defBody s_law_is, defScope s_law_is, [], []⟩
def d_law_far_right : He.DefD := ⟨("_law_far_right", none), "_law_far_right", "_law_far_right", defArgs s_law_far_right, defBody s_law_far_right, defScope s_law_far_right, [], []⟩
def d_law : He.DefD := ⟨("law", none), "law", "law", defArgs s_law, defBody s_law, defScope s_law, [], []⟩
def fn : List He.DefD := [d_is_number, d_is_text, d_number_of, d_is_pair, d_is_set, d_need_set, d_has, d_flags_of, d_set_of, d_joined, d_met, d_others, d_law_cell_at, d_law_signs, d_law_flags, d_law_set, d_law_kind, d_law_refused, d_law_no_sets, d_law_truth, d_law_texts, d_law_is, d_law_far_right, d_law]
def fa : List He.Fa := [.glo "is_number", .glo "is_text", .glo "number_of", .glo "is_pair", .glo "is_set", .glo "need_set", .glo "has", .glo "flags_of", .glo "set_of", .glo "joined", .glo "met", .glo "others", .glo "_law_cell_at", .glo "_law_signs", .glo "_law_flags", .glo "_law_set", .glo "_law_kind", .glo "_law_refused", .glo "_law_no_sets", .glo "_law_truth", .glo "_law_texts", .glo "_law_is", .glo "_law_far_right", .glo "law", .str "SIGNS" (⟨#[9, 10, 32, 33, 34, 35, 36, 38, 39, 40, 41, 42, 43, 44, 45, 46, 47, 48, 49, 50, 51, 52, 53, 54, 55, 56, 57, 58, 59, 60, 61, 62, 63, 64, 65, 66, 67, 68, 69, 70, 71, 72, 73, 74, 75, 76, 77, 78, 79, 80, 81, 82, 83, 84, 85, 86, 87, 88, 89, 90, 91, 92, 93, 94, 95, 96, 97, 98, 99, 100, 101, 102, 103, 104, 105, 106, 107, 108, 109, 110, 111, 112, 113, 114, 115, 116, 117, 118, 119, 120, 121, 122, 123, 124, 125, 126]⟩ : PySem.Str), .int "MANY" 96, .free "len", .free "int", .free "str", .free "abs", .free "max", .free "min", .free "sum", .free "any", .free "all", .free "sorted", .free "list", .free "tuple", .free "bool", .free "isinstance", .free "range", .free "enumerate", .free "zip", .free "ValueError"]
abbrev R : PySem.W.OpenRow := PySem.W.OpenLaw.row PySem.Challenge.rw_signway_k01_sets
abbrev hk : PySem.W.Hook := hookM 4 fa fn (exB sub tab)
def ob (s : PySem.W.SharedT) : AlM := obsM 4 fa fn (exB sub tab) (HandSHeadRun.getT s)
theorem ob_eq (s : PySem.W.SharedT) : ob s = hk.obs s.abs := obsM_eq (HandSHeadRun.getT_eq s)
def names : List Str := [("PatternError" : Str), ("NoSign" : Str), ("NoSet" : Str), ("NoTree" : Str), ("TooGreat" : Str), ("BadPattern" : Str), ("NoWay" : Str), ("OutOfPlace" : Str), ("BadSpare" : Str), ("SIGNS" : Str), ("MANY" : Str), ("is_number" : Str), ("is_text" : Str), ("number_of" : Str), ("is_pair" : Str), ("is_set" : Str), ("need_set" : Str), ("has" : Str), ("flags_of" : Str), ("set_of" : Str), ("joined" : Str), ("met" : Str), ("others" : Str), ("_law_cell_at" : Str), ("_law_signs" : Str), ("_law_flags" : Str), ("_law_set" : Str), ("_law_kind" : Str), ("_law_refused" : Str), ("_law_no_sets" : Str), ("_law_truth" : Str), ("_law_texts" : Str), ("_law_is" : Str), ("_law_far_right" : Str)]
theorem run (w : World) : HandSHeadRun.RunEq R (PySem.W.view R.prog [37]) hk ob 4000 names w := by
  intro os
  kernel_rfl
def tb (K : PySem.W.Frag) : Tb := ⟨K, clsOf K tab, none, fun n => ⟨#[0, n]⟩⟩
theorem tops {K : PySem.W.Frag} {h : Heap} {mg : Str → Option Value} (X : K.In h) (G : h.Ns mainGlobals mg) (c : He.SaysD fa fn K) (ck : exB sub tab K = true) : MiS.Top (tb K) K mg pg fi hi gname (nameOf tab) := by
  refine ⟨rfl, fun f F hF => ?_, fun f F hF hh => ?_, fun n x hx => ?_, fun x hx => ?_, rfl, exB_exc X G ck, exB_exm ck, exB_excC ck, exB_kit ck, exB_kitV ck⟩
  · match f, hF with
    | 0, hF =>
      cases hF
      obtain ⟨fd, FT⟩ := c.def_ 0 (d := d_is_number) rfl
      exact ⟨rfl, t_is_number, _, fd, FT, He.glo_ok X G (c.fact 0 (f := .glo "is_number") rfl), FT.bindsN fun _ _ _ _ _ _ us hl => match us, hl with | [_], _ => rfl⟩
    | 1, hF =>
      cases hF
      obtain ⟨fd, FT⟩ := c.def_ 1 (d := d_is_text) rfl
      exact ⟨rfl, t_is_text, _, fd, FT, He.glo_ok X G (c.fact 1 (f := .glo "is_text") rfl), FT.bindsN fun _ _ _ _ _ _ us hl => match us, hl with | [_], _ => rfl⟩
    | 2, hF =>
      cases hF
      obtain ⟨fd, FT⟩ := c.def_ 2 (d := d_number_of) rfl
      exact ⟨rfl, t_number_of, _, fd, FT, He.glo_ok X G (c.fact 2 (f := .glo "number_of") rfl), FT.bindsN fun _ _ _ _ _ _ us hl => match us, hl with | [_], _ => rfl⟩
    | 3, hF =>
      cases hF
      obtain ⟨fd, FT⟩ := c.def_ 3 (d := d_is_pair) rfl
      exact ⟨rfl, t_is_pair, _, fd, FT, He.glo_ok X G (c.fact 3 (f := .glo "is_pair") rfl), FT.bindsN fun _ _ _ _ _ _ us hl => match us, hl with | [_, _], _ => rfl⟩
    | 4, hF =>
      cases hF
      obtain ⟨fd, FT⟩ := c.def_ 4 (d := d_is_set) rfl
      exact ⟨rfl, t_is_set, _, fd, FT, He.glo_ok X G (c.fact 4 (f := .glo "is_set") rfl), FT.bindsN fun _ _ _ _ _ _ us hl => match us, hl with | [_], _ => rfl⟩
    | 5, hF =>
      cases hF
      obtain ⟨fd, FT⟩ := c.def_ 5 (d := d_need_set) rfl
      exact ⟨rfl, t_need_set, _, fd, FT, He.glo_ok X G (c.fact 5 (f := .glo "need_set") rfl), FT.bindsN fun _ _ _ _ _ _ us hl => match us, hl with | [_], _ => rfl⟩
    | 6, hF =>
      cases hF
      obtain ⟨fd, FT⟩ := c.def_ 6 (d := d_has) rfl
      exact ⟨rfl, t_has, _, fd, FT, He.glo_ok X G (c.fact 6 (f := .glo "has") rfl), FT.bindsN fun _ _ _ _ _ _ us hl => match us, hl with | [_, _], _ => rfl⟩
    | 7, hF =>
      cases hF
      obtain ⟨fd, FT⟩ := c.def_ 7 (d := d_flags_of) rfl
      exact ⟨rfl, t_flags_of, _, fd, FT, He.glo_ok X G (c.fact 7 (f := .glo "flags_of") rfl), FT.bindsN fun _ _ _ _ _ _ us hl => match us, hl with | [_], _ => rfl⟩
    | 8, hF =>
      cases hF
      obtain ⟨fd, FT⟩ := c.def_ 8 (d := d_set_of) rfl
      exact ⟨rfl, t_set_of, _, fd, FT, He.glo_ok X G (c.fact 8 (f := .glo "set_of") rfl), FT.bindsN fun _ _ _ _ _ _ us hl => match us, hl with | [_], _ => rfl⟩
    | 9, hF =>
      cases hF
      obtain ⟨fd, FT⟩ := c.def_ 9 (d := d_joined) rfl
      exact ⟨rfl, t_joined, _, fd, FT, He.glo_ok X G (c.fact 9 (f := .glo "joined") rfl), FT.bindsN fun _ _ _ _ _ _ us hl => match us, hl with | [_, _], _ => rfl⟩
    | 10, hF =>
      cases hF
      obtain ⟨fd, FT⟩ := c.def_ 10 (d := d_met) rfl
      exact ⟨rfl, t_met, _, fd, FT, He.glo_ok X G (c.fact 10 (f := .glo "met") rfl), FT.bindsN fun _ _ _ _ _ _ us hl => match us, hl with | [_, _], _ => rfl⟩
    | 11, hF =>
      cases hF
      obtain ⟨fd, FT⟩ := c.def_ 11 (d := d_others) rfl
      exact ⟨rfl, t_others, _, fd, FT, He.glo_ok X G (c.fact 11 (f := .glo "others") rfl), FT.bindsN fun _ _ _ _ _ _ us hl => match us, hl with | [_], _ => rfl⟩
    | 12, hF =>
      cases hF
      obtain ⟨fd, FT⟩ := c.def_ 12 (d := d_law_cell_at) rfl
      exact ⟨rfl, t_law_cell_at, _, fd, FT, He.glo_ok X G (c.fact 12 (f := .glo "_law_cell_at") rfl), FT.bindsN fun _ _ _ _ _ _ us hl => match us, hl with | [_, _], _ => rfl⟩
    | 13, hF =>
      cases hF
      obtain ⟨fd, FT⟩ := c.def_ 13 (d := d_law_signs) rfl
      exact ⟨rfl, t_law_signs, _, fd, FT, He.glo_ok X G (c.fact 13 (f := .glo "_law_signs") rfl), FT.bindsN fun _ _ _ _ _ _ us hl => match us, hl with | [], _ => rfl⟩
    | 14, hF =>
      cases hF
      obtain ⟨fd, FT⟩ := c.def_ 14 (d := d_law_flags) rfl
      exact ⟨rfl, t_law_flags, _, fd, FT, He.glo_ok X G (c.fact 14 (f := .glo "_law_flags") rfl), FT.bindsN fun _ _ _ _ _ _ us hl => match us, hl with | [_], _ => rfl⟩
    | 15, hF =>
      cases hF
      obtain ⟨fd, FT⟩ := c.def_ 15 (d := d_law_set) rfl
      exact ⟨rfl, t_law_set, _, fd, FT, He.glo_ok X G (c.fact 15 (f := .glo "_law_set") rfl), FT.bindsN fun _ _ _ _ _ _ us hl => match us, hl with | [_], _ => rfl⟩
    | 16, hF =>
      cases hF
      obtain ⟨fd, FT⟩ := c.def_ 16 (d := d_law_kind) rfl
      exact ⟨rfl, t_law_kind, _, fd, FT, He.glo_ok X G (c.fact 16 (f := .glo "_law_kind") rfl), FT.bindsN fun _ _ _ _ _ _ us hl => match us, hl with | [_], _ => rfl⟩
    | 17, hF =>
      cases hF
      obtain ⟨fd, FT⟩ := c.def_ 17 (d := d_law_refused) rfl
      exact ⟨rfl, t_law_refused, _, fd, FT, He.glo_ok X G (c.fact 17 (f := .glo "_law_refused") rfl), FT.bindsN fun _ _ _ _ _ _ us hl => match us, hl with | [_, _, _], _ => rfl⟩
    | 18, hF =>
      cases hF
      obtain ⟨fd, FT⟩ := c.def_ 18 (d := d_law_no_sets) rfl
      exact ⟨rfl, t_law_no_sets, _, fd, FT, He.glo_ok X G (c.fact 18 (f := .glo "_law_no_sets") rfl), FT.bindsN fun _ _ _ _ _ _ us hl => match us, hl with | [_], _ => rfl⟩
    | 19, hF =>
      cases hF
      obtain ⟨fd, FT⟩ := c.def_ 19 (d := d_law_truth) rfl
      exact ⟨rfl, t_law_truth, _, fd, FT, He.glo_ok X G (c.fact 19 (f := .glo "_law_truth") rfl), FT.bindsN fun _ _ _ _ _ _ us hl => match us, hl with | [_, _], _ => rfl⟩
    | 20, hF =>
      cases hF
      obtain ⟨fd, FT⟩ := c.def_ 20 (d := d_law_texts) rfl
      exact ⟨rfl, t_law_texts, _, fd, FT, He.glo_ok X G (c.fact 20 (f := .glo "_law_texts") rfl), FT.bindsN fun _ _ _ _ _ _ us hl => match us, hl with | [_], _ => rfl⟩
    | 21, hF =>
      cases hF
      obtain ⟨fd, FT⟩ := c.def_ 21 (d := d_law_is) rfl
      exact ⟨rfl, t_law_is, _, fd, FT, He.glo_ok X G (c.fact 21 (f := .glo "_law_is") rfl), FT.bindsN fun _ _ _ _ _ _ us hl => match us, hl with | [_, _], _ => rfl⟩
    | 22, hF =>
      cases hF
      obtain ⟨fd, FT⟩ := c.def_ 22 (d := d_law_far_right) rfl
      exact ⟨rfl, t_law_far_right, _, fd, FT, He.glo_ok X G (c.fact 22 (f := .glo "_law_far_right") rfl), FT.bindsN fun _ _ _ _ _ _ us hl => match us, hl with | [_], _ => rfl⟩
    | 23, hF =>
      cases hF
      obtain ⟨fd, FT⟩ := c.def_ 23 (d := d_law) rfl
      exact ⟨rfl, t_law, _, fd, FT, He.glo_ok X G (c.fact 23 (f := .glo "law") rfl), FT.bindsN fun _ _ _ _ _ _ us hl => match us, hl with | [_], _ => rfl⟩
    | _ + 24, hF => cases hF
  · match f, hF, hh with
    | 0, _, hh => exact absurd hh (by decide)
    | 1, _, hh => exact absurd hh (by decide)
    | 2, _, hh => exact absurd hh (by decide)
    | 3, _, hh => exact absurd hh (by decide)
    | 4, _, hh => exact absurd hh (by decide)
    | 5, _, hh => exact absurd hh (by decide)
    | 6, _, hh => exact absurd hh (by decide)
    | 7, _, hh => exact absurd hh (by decide)
    | 8, _, hh => exact absurd hh (by decide)
    | 9, _, hh => exact absurd hh (by decide)
    | 10, _, hh => exact absurd hh (by decide)
    | 11, _, hh => exact absurd hh (by decide)
    | 12, _, hh => exact absurd hh (by decide)
    | 13, _, hh => exact absurd hh (by decide)
    | 14, _, hh => exact absurd hh (by decide)
    | 15, _, hh => exact absurd hh (by decide)
    | 16, hF, _ =>
      cases hF
      exact th_law_kind
    | 17, _, hh => exact absurd hh (by decide)
    | 18, _, hh => exact absurd hh (by decide)
    | 19, _, hh => exact absurd hh (by decide)
    | 20, _, hh => exact absurd hh (by decide)
    | 21, _, hh => exact absurd hh (by decide)
    | 22, _, hh => exact absurd hh (by decide)
    | 23, _, hh => exact absurd hh (by decide)
    | _ + 24, hF, _ => cases hF
  · match n, hx with
    | 0, hx =>
      cases hx
      obtain ⟨t, e⟩ := He.str_ok X G (c.fact 24 rfl)
      exact ⟨strV [9, 10, 32, 33, 34, 35, 36, 38, 39, 40, 41, 42, 43, 44, 45, 46, 47, 48, 49, 50, 51, 52, 53, 54, 55, 56, 57, 58, 59, 60, 61, 62, 63, 64, 65, 66, 67, 68, 69, 70, 71, 72, 73, 74, 75, 76, 77, 78, 79, 80, 81, 82, 83, 84, 85, 86, 87, 88, 89, 90, 91, 92, 93, 94, 95, 96, 97, 98, 99, 100, 101, 102, 103, 104, 105, 106, 107, 108, 109, 110, 111, 112, 113, 114, 115, 116, 117, 118, 119, 120, 121, 122, 123, 124, 125, 126], _, e, ⟨t, rfl⟩, fun H => .str _ (by decide +kernel)⟩
    | 1, hx =>
      cases hx
      obtain ⟨t, e⟩ := He.int_ok X G (c.fact 25 rfl)
      exact ⟨.int 96, _, e, ⟨t, rfl⟩, fun H => .int _⟩
    | _ + 2, hx => cases hx
  · have hb : ∃ i : Nat, fa[i]? = some (He.Fa.free x) := by
      simp only [bltNames, List.mem_cons, List.not_mem_nil, or_false] at hx
      rcases hx with rfl | rfl | rfl | rfl | rfl | rfl | rfl | rfl | rfl | rfl | rfl | rfl | rfl | rfl | rfl | rfl | rfl | rfl
      · exact ⟨26, rfl⟩
      · exact ⟨27, rfl⟩
      · exact ⟨28, rfl⟩
      · exact ⟨29, rfl⟩
      · exact ⟨30, rfl⟩
      · exact ⟨31, rfl⟩
      · exact ⟨32, rfl⟩
      · exact ⟨33, rfl⟩
      · exact ⟨34, rfl⟩
      · exact ⟨35, rfl⟩
      · exact ⟨36, rfl⟩
      · exact ⟨37, rfl⟩
      · exact ⟨38, rfl⟩
      · exact ⟨39, rfl⟩
      · exact ⟨40, rfl⟩
      · exact ⟨41, rfl⟩
      · exact ⟨42, rfl⟩
      · exact ⟨43, rfl⟩
    obtain ⟨i, e⟩ := hb
    exact He.free_ok X G (c.fact i e)
theorem ends (fact : ∀ ns : List Int, ns.length ≤ 63 → Mi.run pg 40 23 [.val (.lst (ns.map .int))] = .ok (.val (.bl true)) []) : PySem.Challenge.rw_signway_k01_sets.Holds := by
  w_on; o_law
  refine HandSHeadRun.head_any (r := PySem.W.OpenLaw.row PySem.Challenge.rw_signway_k01_sets) (q := PySem.W.view (PySem.W.OpenLaw.row PySem.Challenge.rw_signway_k01_sets).prog [37]) (H := hk) (ob := ob) (M := 4000) (loose := names) (d := HandSHeadRun.topDef (PySem.W.OpenLaw.row PySem.Challenge.rw_signway_k01_sets).prog 37) (kwd := []) ob_eq
    (by kernel_rfl) (fun s => by kernel_rfl) run (by kernel_rfl) (by kernel_rfl) (by kernel_rfl) (by rfl) (by first | assumption | decide +kernel) (by decide +kernel) ⟨rfl, rfl, rfl, rfl, rfl, by decide +kernel⟩ ?hw ?hc
  case hw => w_witness2
  case hc =>
    refine L2.walk_ofE (l :=  PySem.Challenge.rw_signway_k01_sets) (n := 63) (k := 40) (x := "script") (CX := MiS.CXw) rfl (by decide) (by kernel_rfl) ⟨rfl, by decide, by decide⟩ ?F MiS.cxw_end
    intro w mg fa h Y G hmg0
    obtain ⟨K, KX, c, ck⟩ := Y
    have hmg : mg ("law" : PySem.Str) = some (.ref fa) := by
      have e : (HandSHeadRun.topDef (PySem.W.OpenLaw.row PySem.Challenge.rw_signway_k01_sets).prog 37).name = ("law" : PySem.Str) := by kernel_rfl
      rw [← e]
      exact hmg0
    obtain ⟨fd, sp, h1, h2, h3⟩ := MiS.law_fn (P := (PySem.Challenge.rw_signway_k01_sets).prog) (w := w) (k := 40) (n := 63) (f := 23) (F := i_law) (x := "script") (tops KX G c ck) rfl rfl rfl hmg rfl (fun fd FT s v => FunD.bindsA (ps := ["script"]) FT (fun _ _ _ _ _ _ us hl => match us, hl with | [_], _ => rfl) s [v] rfl) fact
    exact ⟨K, fd, sp, KX, h1, h2, h3⟩
end K01

open PySem PySem.W PyProof.Rows
theorem PySem.Challenge.cw_signway_k01_sets_holds : PySem.Challenge.rw_signway_k01_sets.Holds := by
  exact K01.ends K01.law_fact
