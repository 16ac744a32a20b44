import PyProof.Rows.All
import Wide.All
import OpenK.AllK
import Wide.FinOn
import HandS.ForMost
import HandS.Conv
import HandS.Codes
import HandS.StrMore
import HandS.IsInst
import HandS.More
import HandS.TupAny
import HandS.TupLe
import HandS.WideBits
import PyProof.Rows.EqDataRows
import HandS.Flow
import HandS.Deep
import PyProof.Rows.SeqMore
import HandS.Style
import HandS.Defaults
import HandS.Head0
import HandS.Head1
import HandS.Head2
import HandS.HeadEnd
import HandS.HeadHook1
import HandS.HeadHook2
import HandS.HeadHook3
import HandS.Words
import PySem.Challenge.RW_asktongue_k68_whole_journals_cut_and_spo
import KE.KIntText
import KE.IntTextLaws
section
set_option Elab.async false
set_option linter.all false
/-! Mp1: deep values, the small language and what it does. -/
namespace Mp
open PySem PySem.Spec PyProof.Rows L2

abbrev Txt := List Nat
/-- a text as the model has it -/
def st (t : Txt) : Str := ⟨t.toArray⟩

/-- deep values: a tuple by its items; a list by its items, and whether one name alone holds it; a written dict with text keys -/
inductive D where
  | non | bl (b : Bool) | int (i : Int) | str (t : Txt) | ty (n : String)
  | tup (xs : List D) | lst (own : Bool) (xs : List D) | dct (kvs : List (Txt × D))

/-- from now on others may hold it -/
def frz : D → D
  | .lst _ xs => .lst false xs
  | d => d

inductive BOp where
  | add | sub | mul | fdiv | mod | pow
  deriving DecidableEq
inductive COp where
  | eq | ne | lt | le | gt | ge | is | isNot | isin | notin
  deriving DecidableEq
/-- built-in functions -/
inductive BI where
  | isi | len | all | str | int | max | min | abs | divmod | ord | tuple | list
  deriving DecidableEq
/-- methods of built-in types -/
inductive MI where
  | find | split | join | append | extend | pop
  deriving DecidableEq

mutual
inductive ME where
  | bad
  | no
  | var (i : Nat)
  | k (d : D)
  | bin (o : BOp) (a b : ME)
  | neg (a : ME)
  | cmp (o : COp) (a b : ME)
  | chain (o p : COp) (a b c : ME)
  | and (a b : ME)
  | or (a b : ME)
  | not (a : ME)
  | ite (c a b : ME)
  | tup (es : MEs)
  | lst (es : MEs)
  | ix (a b : ME)
  | slice (a lo hi : ME)
  | call (f : Nat) (es : MEs)
  | bi (f : BI) (es : MEs)
  | meth (m : MI) (o : ME) (es : MEs)
  | lc (t : MT) (it : MI2) (cs : MEs) (e : ME)
inductive MEs where
  | nil
  | cons (e : ME) (es : MEs)
/-- what is walked -/
inductive MI2 where
  | seq (e : ME)
  | range1 (e : ME)
  | range2 (e f : ME)
  | enum (e : ME)
/-- targets -/
inductive MT where
  | bad
  | nm (i : Nat)
  | tup (ts : MTs)
  | sub (o i : ME)
inductive MTs where
  | nil
  | cons (t : MT) (ts : MTs)
end
mutual
inductive MS where
  | bad
  | pass | brk | ct
  | exp (e : ME)
  | asg (t : MT) (e : ME)
  | par (is : List Nat) (es : MEs)
  | parT (ts : MTs) (es : MEs)
  | aug (i : Nat) (o : BOp) (e : ME)
  | ret (e : ME)
  | ite (c : ME) (a b : MSs)
  | while (c : ME) (b : MSs)
  | for (t : MT) (it : MI2) (b : MSs)
inductive MSs where
  | nil
  | cons (s : MS) (ss : MSs)
end

/-! ### operations by values -/
def small (n : Nat) : Bool := decide (n ≤ 16777216)
def binop : BOp → D → D → Option D
  | .add, .int i, .int j => some (.int (i + j))
  | .add, .str a, .str b => if small (a.length + b.length) then some (.str (a ++ b)) else none
  | .add, .lst _ a, .lst _ b => if small (a.length + b.length) then some (.lst true (a ++ b)) else none
  | .add, .tup a, .tup b => if small (a.length + b.length) then some (.tup (a ++ b)) else none
  | .sub, .int i, .int j => some (.int (i - j))
  | .mul, .int i, .int j => if (-(2 ^ 64) < i ∧ i < 2 ^ 64) ∨ (-(2 ^ 64) < j ∧ j < 2 ^ 64) then some (.int (i * j)) else none
  | .fdiv, .int i, .int j => if 0 < j ∧ j < 1073741824 then some (.int (i / j)) else none
  | .mod, .int i, .int j => if 0 < j then some (.int (i % j)) else none
  | .pow, .int i, .int j => if 0 ≤ j ∧ j ≤ 1000000 ∧ i.natAbs < 2 ^ 64 then some (.int (i ^ j.toNat)) else none
  | _, _, _ => none

mutual
/-- as the library's data -/
def py : D → Option PyData
  | .non => some .none
  | .bl b => some (.bool b)
  | .int i => some (.int i)
  | .str t => some (.str (st t))
  | .ty _ => none
  | .tup xs => (pys xs).map .tuple
  | .lst _ xs => (pys xs).map .list
  | .dct _ => none
def pys : List D → Option (List PyData)
  | [] => some []
  | x :: xs => match py x, pys xs with
    | some a, some as => some (a :: as)
    | _, _ => none
end
def eqD (a b : D) : Option Bool := match py a, py b with
  | some x, some y => if PySem.SeqAt.shaped x && PySem.SeqAt.shaped y then some (PyData.eqv x y) else none
  | _, _ => none
/-- x in the items -/
def inD (x : D) (ys : List D) : Option Bool := match py x, pys ys with
  | some d, some ds => if PySem.SeqAt.shaped d && PySem.SeqAt.shaped (.list ds) then some (ds.any fun z => PyData.eqv z d) else none
  | _, _ => none
def isinD (x : D) : D → Option Bool
  | .lst _ ys => inD x ys
  | .tup ys => inD x ys
  | .str t => match x with
    | .str [c] => some (decide (c ∈ t))
    | _ => none
  | .dct kvs => match x with
    | .str a => some (kvs.lookup a).isSome
    | _ => none
  | _ => none
def nonD : D → Bool
  | .non => true
  | _ => false
def cmpop : COp → D → D → Option Bool
  | .eq, a, b => eqD a b
  | .ne, a, b => (eqD a b).map not
  | .lt, .int i, .int j => some (decide (i < j))
  | .le, .int i, .int j => some (decide (i ≤ j))
  | .gt, .int i, .int j => some (decide (j < i))
  | .ge, .int i, .int j => some (decide (j ≤ i))
  | .is, .bl a, .bl b => some (decide (a = b))
  | .is, d, .non => some (nonD d)
  | .isNot, .bl a, .bl b => some (!decide (a = b))
  | .isNot, d, .non => some (!nonD d)
  | .isin, x, y => isinD x y
  | .notin, x, y => (isinD x y).map not
  | _, _, _ => none
def negD : D → Option D
  | .int i => some (.int (-i))
  | _ => none
def truth : D → Option Bool
  | .non => some false
  | .bl b => some b
  | .int i => some (i != 0)
  | .str t => if small t.length then some (!t.isEmpty) else none
  | .tup xs => some (!xs.isEmpty)
  | .lst _ xs => some (!xs.isEmpty)
  | _ => none
/-- a place counted from the front or from behind -/
def at? {α : Type} (xs : List α) (i : Int) : Option α :=
  if 0 ≤ i then xs[i.toNat]? else if -(xs.length : Int) ≤ i then xs[(i + xs.length).toNat]? else none
def ixD : D → D → Option D
  | .tup xs, .int i => at? xs i
  | .lst _ xs, .int i => at? xs i
  | .str t, .int i => if small t.length then (at? t i).map fun c => .str [c] else none
  | .dct kvs, .str a => kvs.lookup a
  | _, _ => none
def sIx (n d : Nat) : Option Int → Nat
  | none => d
  | some v => if v < 0 then (v + (n : Int)).toNat else min v.toNat n
def cut {α : Type} (xs : List α) (lo hi : Option Int) : List α := (xs.drop (sIx xs.length 0 lo)).take (sIx xs.length xs.length hi - sIx xs.length 0 lo)
def sliceD (lo hi : Option Int) : D → Option D
  | .tup xs => some (.tup (cut xs lo hi))
  | .lst _ xs => some (.lst true (cut xs lo hi))
  | .str t => if small t.length then some (.str (cut t lo hi)) else none
  | _ => none
/-- is the value of one of the built-in classes -/
def isTy : D → String → Option Bool
  | .non, n => if n ∈ ["int", "bool", "str", "list", "tuple", "dict"] then some false else none
  | .bl _, n => if n = "bool" ∨ n = "int" then some true else if n ∈ ["str", "list", "tuple", "dict"] then some false else none
  | .int _, n => if n = "int" then some true else if n ∈ ["bool", "str", "list", "tuple", "dict"] then some false else none
  | .str _, n => if n = "str" then some true else if n ∈ ["int", "bool", "list", "tuple", "dict"] then some false else none
  | .tup _, n => if n = "tuple" then some true else if n ∈ ["int", "bool", "str", "list", "dict"] then some false else none
  | .lst _ _, n => if n = "list" then some true else if n ∈ ["int", "bool", "str", "tuple", "dict"] then some false else none
  | _, _ => none
def tyname : D → Option String
  | .non => some "NoneType"
  | .bl _ => some "bool"
  | .int _ => some "int"
  | .str _ => some "str"
  | .tup _ => some "tuple"
  | .lst _ _ => some "list"
  | _ => none
def isTys (d : D) : List D → Option Bool
  | [] => if (tyname d).isSome then some false else none
  | .ty n :: r => match isTy d n, isTys d r with
    | some a, some b => some (a || b)
    | _, _ => none
  | _ => none
def isiD (d : D) : D → Option Bool
  | .ty n => isTy d n
  | .tup ts => isTys d ts
  | _ => none
def allD : List D → Option Bool
  | [] => some true
  | .bl b :: r => if b then allD r else (allD r).map fun _ => false
  | _ => none
def strI (i : Int) : Txt := (toString i : String).toList.map Char.toNat
def intT (t : Txt) : Option Int := if t.length ≤ 640 then PySem.intText? (st t) else none
def lenD : D → Option Int
  | .str t => if small t.length then some t.length else none
  | .tup xs => some xs.length
  | .lst _ xs => some xs.length
  | _ => none
def allF : D → Option Bool
  | .lst _ xs => allD xs
  | _ => none
def strF : D → Option Txt
  | .int i => if i.natAbs < 2 ^ 1900 then some (strI i) else none
  | _ => none
def intF : D → Option Int
  | .int i => some i
  | .str t => intT t
  | _ => none
def absF : D → Option Int
  | .int i => some (if i < 0 then -i else i)
  | _ => none
def ordF : D → Option Int
  | .str [c] => some c
  | _ => none
def tupF : D → Option (List D)
  | .lst _ xs => some xs
  | .tup xs => some xs
  | _ => none
def bi1 : BI → D → Option D
  | .len, d => (lenD d).map .int
  | .all, d => (allF d).map .bl
  | .str, d => (strF d).map .str
  | .int, d => (intF d).map .int
  | .abs, d => (absF d).map .int
  | .ord, d => (ordF d).map .int
  | .tuple, d => (tupF d).map .tup
  | .list, d => (tupF d).map (.lst true)
  | _, _ => none
def maxF : D → D → Option Int
  | .int i, .int j => some (if j > i then j else i)
  | _, _ => none
def minF : D → D → Option Int
  | .int i, .int j => some (if j < i then j else i)
  | _, _ => none
def dvmF : D → D → Option (List D)
  | .int i, .int j => if 0 < j ∧ j < 1073741824 then some [.int (i / j), .int (i % j)] else none
  | _, _ => none
def bi2 : BI → D → D → Option D
  | .isi, d, e => (isiD d e).map .bl
  | .max, d, e => (maxF d e).map .int
  | .min, d, e => (minF d e).map .int
  | .divmod, d, e => (dvmF d e).map .tup
  | _, _, _ => none
def biop (f : BI) : List D → Option D
  | [x] => bi1 f x
  | [x, y] => bi2 f x y
  | _ => none
/-- the first place at or behind i where c stands -/
def findFrom (c : Nat) (i : Nat) (t : Txt) : Option Nat := ((t.drop i).findIdx? (· == c)).map (· + i)
def splitOn (c : Nat) : Txt → List Txt
  | [] => [[]]
  | x :: r => if x = c then [] :: splitOn c r else match splitOn c r with
    | [] => [[x]]
    | w :: ws => (x :: w) :: ws
def joinT (a : Txt) : List Txt → Txt
  | [] => []
  | [x] => x
  | x :: y :: r => x ++ a ++ joinT a (y :: r)
def txts : List D → Option (List Txt)
  | [] => some []
  | .str t :: r => (txts r).map (t :: ·)
  | _ => none
/-- methods that change nothing -/
def findD : D → D → D → Option Int
  | .str t, .str [c], .int i => if small t.length ∧ 0 ≤ i then some (match findFrom c i.toNat t with | some j => (j : Int) | none => -1) else none
  | _, _, _ => none
def splitD : D → D → Option (List D)
  | .str t, .str [c] => if t.length + 2 ≤ 16777216 ∧ c < 256 then some ((splitOn c t).map .str) else none
  | _, _ => none
def joinD : D → D → Option Txt
  | .str a, .lst _ xs => match txts xs with
    | some ys => if (ys.map (·.length)).sum + ys.length * a.length ≤ 16777216 then some (joinT a ys) else none
    | none => none
  | _, _ => none
def mtop : MI → D → List D → Option D
  | .find, x, [y, z] => (findD x y z).map .int
  | .split, x, [y] => (splitD x y).map (.lst true)
  | .join, x, [y] => (joinD x y).map .str
  | _, _, _ => none
/-- methods that change their list: the answer, the list behind it -/
def mtmut : MI → List D → List D → Option (D × List D)
  | .append, xs, [d] => if xs.length < 16777216 then some (.non, xs ++ [frz d]) else none
  | .extend, xs, [.lst true ys] => if xs.length + ys.length ≤ 16777216 then some (.non, xs ++ ys) else none
  | .extend, xs, [.tup ys] => if xs.length + ys.length ≤ 16777216 then some (.non, xs ++ ys) else none
  | .pop, xs, [] => match xs.getLast? with
    | some x => some (x, xs.dropLast)
    | none => none
  | _, _, _ => none

/-! ### what runs -/
abbrev Env := List (Option D)
/-- an operand: a slot, looked at when it is used, or a value -/
inductive Opd where
  | plc (i : Nat) | val (d : D)
/-- flow -/
inductive Fl where
  | nx | brk | ct | ret (d : D)
def gt (env : Env) (i : Nat) : Option D := match env[i]? with
  | some (some d) => some d
  | _ => none
def Opd.get (env : Env) : Opd → Option D
  | .plc i => gt env i
  | .val d => some d
def gets (env : Env) : List Opd → Option (List D)
  | [] => some []
  | p :: ps => match p.get env, gets env ps with
    | some d, some ds => some (d :: ds)
    | _, _ => none
/-- an operand as a value of its own: what a slot holds is shared from now on -/
def Opd.take (env : Env) : Opd → Option (D × Env)
  | .plc i => match gt env i with
    | some d => some (frz d, env.set i (some (frz d)))
    | none => none
  | .val d => some (d, env)
/-- the arguments of an own function; the places whose lists it may change -/
def isOwn : D → Bool
  | .lst true _ => true
  | _ => false
def isPlc (i : Nat) : Opd → Bool
  | .plc j => i == j
  | .val _ => false
/-- no slot with a list of one's own stands there twice -/
def ownOnce (env : Env) : List Opd → Bool
  | [] => true
  | .plc i :: r => (match gt env i with
    | some d => !isOwn d || !(r.any (isPlc i))
    | none => true) && ownOnce env r
  | _ :: r => ownOnce env r
/-- behind a call: the lists of the places as the callee left them -/
def putBack : Env → List Opd → List (Option D) → Option Env
  | env, [], _ => some env
  | env, .plc i :: r, f :: fs => (match gt env i with
    | some d => if isOwn d then (match f with
        | some d' => putBack (env.set i (some d')) r fs
        | none => none)
      else putBack env r fs
    | none => none)
  | env, _ :: r, _ :: fs => putBack env r fs
  | _, _, _ => none

/-- what a call does: the answer, and its parameters' values behind it -/
abbrev Calls := Nat → List D → Option (D × List (Option D))
/-- a context: the calls; the slots that are not to be stored to (parameters whose lists are the caller's) -/
structure Ctx where
  calls : Calls
  pins : List Nat
/-- store to a slot -/
def setv (C : Ctx) (i : Nat) (d : D) (env : Env) : Option Env := if i < env.length ∧ i ∉ C.pins then some (env.set i (some d)) else none

def ranged (lo : Int) : Nat → List D
  | 0 => []
  | n + 1 => .int lo :: ranged (lo + 1) n
def enumd (i : Int) : List D → List D
  | [] => []
  | x :: r => .tup [.int i, x] :: enumd (i + 1) r
/-- the items of what is walked -/
def walkD : D → Option (List D)
  | .lst _ xs => some xs
  | .tup xs => some xs
  | .str t => some (t.map fun c => .str [c])
  | .dct kvs => some (kvs.map fun p => .str p.1)
  | _ => none
def big62 (i : Int) : Bool := decide (-(2 ^ 62) ≤ i ∧ i < 2 ^ 62)

/-- what is walked: a row of items, or the list that a slot holds, as it stands at each turn -/
inductive Wk where
  | fix (xs : List D) | live (i : Nat) | liveE (i : Nat)
def Wk.slot : Wk → Option Nat
  | .fix _ => none
  | .live i => some i
  | .liveE i => some i
def lstAt (env : Env) (i : Nat) : Option (List D) := match gt env i with
  | some (.lst _ xs) => some xs
  | _ => none
def Wk.get : Wk → Env → Option (List D)
  | .fix xs, _ => some xs
  | .live i, env => lstAt env i
  | .liveE i, env => (lstAt env i).map (enumd 0)
/-- a loop over items: r turns are left, t are done -/
def forL (get : Env → Option (List D)) (b : D → Env → Option (Fl × Env)) : Nat → Nat → Env → Option (Fl × Env)
  | 0, t, env => match get env with
    | some ys => if ys.length = t then some (.nx, env) else none
    | none => none
  | r + 1, t, env => match get env with
    | some ys => if ys.length = t + (r + 1) then (match ys[t]? with
      | some x => (match b x env with
        | some (.nx, e) => forL get b r (t + 1) e
        | some (.ct, e) => forL get b r (t + 1) e
        | some (.brk, e) => some (.nx, e)
        | some (.ret d, e) => some (.ret d, e)
        | none => none)
      | none => none) else none
    | none => none
/-- a comprehension's loop: the items made -/
def lcL (get : Env → Option (List D)) (b : D → Env → Option (Option D × Env)) : Nat → Nat → Env → Option (List D × Env)
  | 0, t, env => match get env with
    | some ys => if ys.length = t then some ([], env) else none
    | none => none
  | r + 1, t, env => match get env with
    | some ys => if ys.length = t + (r + 1) then (match ys[t]? with
      | some x => (match b x env with
        | some (some d, e) => (match lcL get b r (t + 1) e with
          | some (ds, e') => some (d :: ds, e')
          | none => none)
        | some (none, e) => lcL get b r (t + 1) e
        | none => none)
      | none => none) else none
    | none => none
/-- the walk of an operand's value -/
def wkOf : Opd → Env → Option (Wk × Env)
  | .plc i, env => match gt env i with
    | some (.lst true _) => some (.live i, env)
    | some d => (match walkD d with
      | some xs => some (.fix xs, env)
      | none => none)
    | none => none
  | .val d, env => match walkD d with
    | some xs => some (.fix xs, env)
    | none => none
def wkE : Opd → Env → Option (Wk × Env)
  | .plc i, env => match gt env i with
    | some (.lst true _) => some (.liveE i, env)
    | some (.lst false xs) => some (.fix (enumd 0 xs), env)
    | _ => none
  | .val (.lst _ xs), env => some (.fix (enumd 0 xs), env)
  | _, _ => none
def slotNot (wk : Wk) (is : List Nat) : Bool := match wk.slot with
  | some i => !(is.contains i)
  | none => true
def pinned (wk : Wk) (C : Ctx) : Ctx := match wk.slot with
  | some i => ⟨C.calls, i :: C.pins⟩
  | none => C
/-- a while's loop, at most n turns -/
def whileN (c : Env → Option (Bool × Env)) (b : Env → Option (Fl × Env)) : Nat → Env → Option (Fl × Env)
  | 0, _ => none
  | n + 1, env => match c env with
    | some (true, e) => (match b e with
      | some (.nx, e') => whileN c b n e'
      | some (.ct, e') => whileN c b n e'
      | some (.brk, e') => some (.nx, e')
      | some (.ret d, e') => some (.ret d, e')
      | none => none)
    | some (false, e) => some (.nx, e)
    | none => none
open Classical in
noncomputable def whileM (c : Env → Option (Bool × Env)) (b : Env → Option (Fl × Env)) (env : Env) : Option (Fl × Env) :=
  if h : ∃ n r, whileN c b n env = some r then some (choose (choose_spec h)) else none
end Mp

end
section
set_option Elab.async false
set_option linter.all false
/-! Mp2: what the small language does. -/
namespace Mp
open PySem PySem.Spec PyProof.Rows L2

mutual
/-- the slots of a target -/
def tsl : MT → List Nat
  | .bad => []
  | .nm i => [i]
  | .tup ts => tsls ts
  | .sub _ _ => []
def tsls : MTs → List Nat
  | .nil => []
  | .cons t ts => tsl t ++ tsls ts
end
def clear : List Nat → Env → Env
  | [], env => env
  | i :: is, env => (clear is env).set i none
/-- the slots as they were -/
def restore (old : Env) : List Nat → Env → Env
  | [], env => env
  | i :: is, env => (restore old is env).set i (old[i]?.getD none)
def noOwn (env : Env) (is : List Nat) : Bool := is.all fun i => match gt env i with
  | some d => !isOwn d
  | none => true
/-- the slot of an operand -/
def Opd.slot : Opd → Option Nat
  | .plc i => some i
  | .val _ => none
def isMut : MI → Bool
  | .append => true
  | .extend => true
  | .pop => true
  | _ => false

/-- a list of one's own is changed -/
def mutAt (m : MI) (i : Nat) (ds : List D) (env : Env) : Option (Opd × Env) := match gt env i with
  | some (.lst true xs) => (match mtmut m xs ds with
    | some (r, ys) => some (.val r, env.set i (some (.lst true ys)))
    | none => none)
  | _ => none

mutual
def op (C : Ctx) : ME → Env → Option (Opd × Env)
  | .bad, _ => none
  | .no, _ => none
  | .var i, env => match gt env i with
    | some _ => some (.plc i, env)
    | none => none
  | .k d, env => some (.val d, env)
  | .bin o a b, env => do
    let (p, e1) ← op C a env
    let (q, e2) ← op C b e1
    let x ← p.get e2
    let y ← q.get e2
    let r ← binop o x y
    some (.val r, e2)
  | .neg a, env => do
    let (p, e1) ← op C a env
    let x ← p.get e1
    let r ← negD x
    some (.val r, e1)
  | .cmp o a b, env => do
    let (p, e1) ← op C a env
    let (q, e2) ← op C b e1
    let x ← p.get e2
    let y ← q.get e2
    let r ← cmpop o x y
    some (.val (.bl r), e2)
  | .chain o o' a b c, env => do
    let (p, e1) ← op C a env
    let (q, e2) ← op C b e1
    let x ← p.get e2
    let y ← q.get e2
    let r ← cmpop o x y
    if r then do
      let (s, e3) ← op C c e2
      let y' ← q.get e3
      let z ← s.get e3
      let r' ← cmpop o' y' z
      some (.val (.bl r'), e3)
    else some (.val (.bl false), e2)
  | .and a b, env => do
    let (p, e1) ← op C a env
    let x ← p.get e1
    let t ← truth x
    if t then op C b e1 else some (p, e1)
  | .or a b, env => do
    let (p, e1) ← op C a env
    let x ← p.get e1
    let t ← truth x
    if t then some (p, e1) else op C b e1
  | .not a, env => do
    let (p, e1) ← op C a env
    let x ← p.get e1
    let t ← truth x
    some (.val (.bl !t), e1)
  | .ite c a b, env => do
    let (p, e1) ← op C c env
    let x ← p.get e1
    let t ← truth x
    if t then op C a e1 else op C b e1
  | .tup es, env => do
    let (ds, e1) ← opv C es env
    if small ds.length then some (.val (.tup (ds.map frz)), e1) else none
  | .lst es, env => do
    let (ds, e1) ← opv C es env
    if small ds.length then some (.val (.lst true (ds.map frz)), e1) else none
  | .ix a b, env => do
    let (p, e1) ← op C a env
    let (q, e2) ← op C b e1
    let x ← p.get e2
    let y ← q.get e2
    let r ← ixD x y
    some (.val r, e2)
  | .slice a lo hi, env => do
    let (p, e1) ← op C a env
    let (l, e2) ← opt C lo e1
    let (h, e3) ← opt C hi e2
    let x ← p.get e3
    let r ← sliceD l h x
    some (.val r, e3)
  | .call f es, env => do
    let (ps, e1) ← ops C es env
    if ownOnce e1 ps then do
      let ds ← gets e1 ps
      let (r, fin) ← C.calls f ds
      let e2 ← putBack e1 ps fin
      some (.val r, e2)
    else none
  | .bi f es, env => do
    let (ps, e1) ← ops C es env
    let ds ← gets e1 ps
    let r ← biop f ds
    some (.val r, e1)
  | .meth m o es, env =>
    if isMut m then (match o with
      | .var i => (match gt env i with
        | some (.lst true _) => do
          let (ds, e1) ← opv C es env
          mutAt m i ds e1
        | _ => none)
      | _ => none)
    else do
      let (p, e1) ← op C o env
      let x ← p.get e1
      match x with
      | .str t => do
        let (ps, e2) ← ops C es e1
        let ds ← gets e2 ps
        let r ← mtop m (.str t) ds
        some (.val r, e2)
      | _ => none
  | .lc t it cs e, env => do
    let (wk, e1) ← walk C it env
    let ys ← wk.get e1
    if noOwn e1 (tsl t) && slotNot wk (tsl t) then do
      let (ds, e2) ← lcL wk.get (fun x en => do
        let en1 ← asgn C t x en
        let (b, en2) ← conds C cs en1
        if b then do
          let (p, en3) ← op C e en2
          let (d, en4) ← p.take en3
          some (some (frz d), clear (tsl t) en4)
        else some (none, clear (tsl t) en2)) ys.length 0 (clear (tsl t) e1)
      if small ds.length then some (.val (.lst true ds), restore e1 (tsl t) (clear (tsl t) e2)) else none
    else none
/-- operands -/
def ops (C : Ctx) : MEs → Env → Option (List Opd × Env)
  | .nil, env => some ([], env)
  | .cons e es, env => do
    let (p, e1) ← op C e env
    let (ps, e2) ← ops C es e1
    some (p :: ps, e2)
/-- values -/
def opv (C : Ctx) : MEs → Env → Option (List D × Env)
  | .nil, env => some ([], env)
  | .cons e es, env => do
    let (p, e1) ← op C e env
    let (d, e2) ← p.take e1
    let (ds, e3) ← opv C es e2
    some (d :: ds, e3)
/-- an optional part of a slice -/
def opt (C : Ctx) : ME → Env → Option (Option Int × Env)
  | .no, env => some (none, env)
  | e, env => do
    let (p, e1) ← op C e env
    match p.get e1 with
    | some (.int i) => some (some i, e1)
    | _ => none
/-- all conditions -/
def conds (C : Ctx) : MEs → Env → Option (Bool × Env)
  | .nil, env => some (true, env)
  | .cons e es, env => do
    let (p, e1) ← op C e env
    let x ← p.get e1
    let t ← truth x
    if t then conds C es e1 else some (false, e1)
/-- what is walked -/
def walk (C : Ctx) : MI2 → Env → Option (Wk × Env)
  | .seq e, env => do
    let (p, e1) ← op C e env
    wkOf p e1
  | .range1 e, env => do
    let (p, e1) ← op C e env
    match p.get e1 with
    | some (.int j) => if big62 j then some (.fix (ranged 0 j.toNat), e1) else none
    | _ => none
  | .range2 e f, env => do
    let (p, e1) ← op C e env
    let (q, e2) ← op C f e1
    match p.get e2, q.get e2 with
    | some (.int i), some (.int j) => if big62 i && big62 j then some (.fix (ranged i (j - i).toNat), e2) else none
    | _, _ => none
  | .enum e, env => do
    let (p, e1) ← op C e env
    wkE p e1
/-- a store -/
def asgn (C : Ctx) : MT → D → Env → Option Env
  | .bad, _, _ => none
  | .nm i, d, env => setv C i d env
  | .tup ts, .tup xs, env => asgns C ts xs env
  | .tup _, _, _ => none
  | .sub o i, d, env => do
    let (p, e1) ← op C o env
    let (q, e2) ← op C i e1
    match p, q.get e2 with
    | .plc j, some (.int n) => (match gt e2 j with
      | some (.lst true xs) => if 0 ≤ n ∧ n < xs.length then some (e2.set j (some (.lst true (xs.set n.toNat (frz d))))) else none
      | _ => none)
    | _, _ => none
def asgns (C : Ctx) : MTs → List D → Env → Option Env
  | .nil, [], env => some env
  | .cons t ts, d :: ds, env => do
    let e1 ← asgn C t d env
    asgns C ts ds e1
  | _, _, _ => none
end
/-- an expression as a value -/
def ev (C : Ctx) (e : ME) (env : Env) : Option (D × Env) := do
  let (p, e1) ← op C e env
  p.take e1
/-- a test -/
def tst (C : Ctx) (e : ME) (env : Env) : Option (Bool × Env) := do
  let (p, e1) ← op C e env
  let x ← p.get e1
  let t ← truth x
  some (t, e1)
def setvs (C : Ctx) : List Nat → List D → Env → Option Env
  | [], [], env => some env
  | i :: is, d :: ds, env => do
    let e1 ← setv C i d env
    setvs C is ds e1
  | _, _, _ => none
/-- a name changed by a sum or a difference -/
def augop : BOp → D → D → Option D
  | .add, .int i, .int j => some (.int (i + j))
  | .sub, .int i, .int j => some (.int (i - j))
  | _, _, _ => none
/-- what a return gives: a list of one's own is handed on -/
def retv (C : Ctx) (np : Nat) (e : ME) (env : Env) : Option (D × Env) := match e with
  | .var i => if np ≤ i then (match gt env i with
      | some d => some (d, env.set i none)
      | none => none)
    else ev C e env
  | _ => ev C e env

mutual
noncomputable def ex (C : Ctx) (np : Nat) : MS → Env → Option (Fl × Env)
  | .bad, _ => none
  | .pass, env => some (.nx, env)
  | .brk, env => some (.brk, env)
  | .ct, env => some (.ct, env)
  | .exp e, env => do
    let (_, e1) ← op C e env
    some (.nx, e1)
  | .asg t e, env => do
    let (d, e1) ← ev C e env
    let e2 ← asgn C t d e1
    some (.nx, e2)
  | .par is es, env => do
    let (ds, e1) ← opv C es env
    let e2 ← setvs C is ds e1
    some (.nx, e2)
  | .parT ts es, env => do
    let (ds, e1) ← opv C es env
    let e2 ← asgns C ts ds e1
    if small ds.length then some (.nx, e2) else none
  | .aug i o e, env => do
    let x ← gt env i
    let (q, e1) ← op C e env
    let y ← q.get e1
    let r ← augop o x y
    let e2 ← setv C i r e1
    some (.nx, e2)
  | .ret e, env => do
    let (d, e1) ← retv C np e env
    some (.ret d, e1)
  | .ite c a b, env => do
    let (t, e1) ← tst C c env
    if t then exs C np a e1 else exs C np b e1
  | .while c b, env => whileM (tst C c) (exs C np b) env
  | .for t it b, env => do
    let (wk, e1) ← walk C it env
    let ys ← wk.get e1
    forL wk.get (fun x en => do
      let en1 ← asgn (pinned wk C) t x en
      exs (pinned wk C) np b en1) ys.length 0 e1
noncomputable def exs (C : Ctx) (np : Nat) : MSs → Env → Option (Fl × Env)
  | .nil, env => some (.nx, env)
  | .cons s ss, env => do
    let (f, e1) ← ex C np s env
    match f with
    | .nx => exs C np ss e1
    | _ => some (f, e1)
end

/-- a def: how many parameters, how many slots, its body -/
structure FnD where
  np : Nat
  ns : Nat
  body : MSs
def ownsAt : Nat → List D → List Nat
  | _, [] => []
  | j, d :: ds => if isOwn d then j :: ownsAt (j + 1) ds else ownsAt (j + 1) ds
/-- the parameters behind the run -/
def finals (env : Env) : Nat → List D → List (Option D)
  | _, [] => []
  | j, d :: ds => (if isOwn d then gt env j else none) :: finals env (j + 1) ds
noncomputable def runD (cs : Calls) (f : FnD) (ds : List D) : Option (D × List (Option D)) :=
  if ds.length = f.np ∧ f.np ≤ f.ns then
    match exs ⟨cs, ownsAt 0 ds⟩ f.np f.body (ds.map some ++ List.replicate (f.ns - f.np) none) with
    | some (.nx, e) => some (.non, finals e 0 ds)
    | some (.ret d, e) => some (d, finals e 0 ds)
    | _ => none
  else none
noncomputable def callN (P : List FnD) : Nat → Calls
  | 0 => fun _ _ => none
  | k + 1 => fun f ds => match P[f]? with
    | some d => runD (callN P k) d ds
    | none => none
end Mp

end
section
set_option Elab.async false
set_option linter.all false
/-! Mp3: how deep values lie in the heap; what a step may change. -/
namespace Mp
open PySem PySem.Spec PyProof.Rows L2

abbrev AS := Addr → Prop
def uni (A B : AS) : AS := fun b => A b ∨ B b
def emp : AS := fun _ => False
def Dj (A B : AS) : Prop := ∀ b, A b → B b → False
theorem Dj.symm {A B : AS} (h : Dj A B) : Dj B A := fun b x y => h b y x

/-- a list that is read: shared and tracked, or written -/
def LF (K : PySem.W.Frag) (H : Hp) (F : AS) (a : Addr) (vs : List V) : Prop :=
  (F a ∧ Rd H a (.lst vs)) ∨ ∃ (o : Obj) (its : Array Value) (n : Nat), K.lookup a = some o ∧ o.cls = .type "list" ∧ o.dict = none ∧ o.data = .seq its n ∧ its.size ≤ sizeLine ∧ Vals vs its.toList
theorem LF.sq {K : PySem.W.Frag} {H : Hp} {F : AS} {a : Addr} {vs : List V} (h : LF K H F a vs) : SqL K H a vs := h.elim (fun x => .inl x.2) .inr
/-- a written dict: its keys in order, nothing else -/
def KDs (K : PySem.W.Frag) (w : World) (a : Addr) (ks : List Txt) : Prop :=
  ∃ es n, KDict K w a es n ∧ es.toList.map (fun e => (match e.key with | .str x _ => some x | _ => none)) = ks.map (fun k => some (st k)) ∧ ks.Nodup

mutual
def Rep (K : PySem.W.Frag) (w : World) (H : Hp) (F : AS) : D → V → Prop
  | .non, v => v = .non
  | .bl b, v => v = .bl b
  | .int i, v => v = .int i
  | .str t, v => v = .str (st t)
  | .ty n, v => v = .ty n
  | .tup xs, v => ∃ a vs, v = .ref a ∧ SqT K H a vs ∧ Reps K w H F xs vs
  | .lst true _, _ => False
  | .lst false xs, v => ∃ a vs, v = .ref a ∧ LF K H F a vs ∧ Reps K w H F xs vs
  | .dct kvs, v => ∃ a, v = .ref a ∧ KDs K w a (kvs.map (·.1)) ∧ Repd K w H F a kvs
def Reps (K : PySem.W.Frag) (w : World) (H : Hp) (F : AS) : List D → List V → Prop
  | [], [] => True
  | d :: ds, v :: vs => Rep K w H F d v ∧ Reps K w H F ds vs
  | _, _ => False
def Repd (K : PySem.W.Frag) (w : World) (H : Hp) (F : AS) (a : Addr) : List (Txt × D) → Prop
  | [] => True
  | (k, d) :: r => (∃ u v, PySem.W.nsIn K a (st k) = some (some u) ∧ RelV v u ∧ Rep K w H F d v) ∧ Repd K w H F a r
end

/-- what no step changes -/
def Stb (F : AS) (b : Addr) (o : HO) : Prop := F b ∨ (∃ xs, o = .tup xs) ∨ ∃ ob u, o = .frz ob u
structure Stab (H : Hp) (F : AS) (H' : Hp) (F' : AS) : Prop where
  keep : ∀ b o, H b = some o → Stb F b o → H' b = some o
  sub : ∀ b, F b → F' b

section
variable {K : PySem.W.Frag} {w : World} {H H' H1 H2 : Hp} {F F' F1 F2 O O' O1 O2 Ox Oe : AS}
theorem Stab.rdT (s : Stab H F H' F') {a : Addr} {vs : List V} (h : SqT K H a vs) : SqT K H' a vs := by
  rcases h with (h | ⟨o, h⟩) | h
  · exact .inl (.inl (s.keep _ _ h (.inr (.inl ⟨_, rfl⟩))))
  · exact .inl (.inr ⟨o, s.keep _ _ h (.inr (.inr ⟨_, _, rfl⟩))⟩)
  · exact .inr h
theorem Stab.lf (s : Stab H F H' F') {a : Addr} {vs : List V} (h : LF K H F a vs) : LF K H' F' a vs := by
  rcases h with ⟨f, h | ⟨o, h⟩⟩ | h
  · exact .inl ⟨s.sub _ f, .inl (s.keep _ _ h (.inl f))⟩
  · exact .inl ⟨s.sub _ f, .inr ⟨o, s.keep _ _ h (.inl f)⟩⟩
  · exact .inr h
mutual
theorem Rep.stab (s : Stab H F H' F') : ∀ (d : D) (v : V), Rep K w H F d v → Rep K w H' F' d v
  | .non, _, h => by unfold Rep at h ⊢; exact h
  | .bl _, _, h => by unfold Rep at h ⊢; exact h
  | .int _, _, h => by unfold Rep at h ⊢; exact h
  | .str _, _, h => by unfold Rep at h ⊢; exact h
  | .ty _, _, h => by unfold Rep at h ⊢; exact h
  | .tup xs, _, h => by
    unfold Rep at h ⊢
    obtain ⟨a, vs, e, q, r⟩ := h
    exact ⟨a, vs, e, s.rdT q, Reps.stab s xs vs r⟩
  | .lst true _, _, h => by unfold Rep at h; exact h.elim
  | .lst false xs, _, h => by
    unfold Rep at h ⊢
    obtain ⟨a, vs, e, q, r⟩ := h
    exact ⟨a, vs, e, s.lf q, Reps.stab s xs vs r⟩
  | .dct kvs, _, h => by
    unfold Rep at h ⊢
    obtain ⟨a, e, q, r⟩ := h
    exact ⟨a, e, q, Repd.stab s a kvs r⟩
theorem Reps.stab (s : Stab H F H' F') : ∀ (ds : List D) (vs : List V), Reps K w H F ds vs → Reps K w H' F' ds vs
  | [], [], h => by unfold Reps at h ⊢; trivial
  | [], _ :: _, h => by unfold Reps at h; exact h.elim
  | _ :: _, [], h => by unfold Reps at h; exact h.elim
  | d :: ds, v :: vs, h => by
    unfold Reps at h ⊢
    exact ⟨Rep.stab s d v h.1, Reps.stab s ds vs h.2⟩
theorem Repd.stab (s : Stab H F H' F') (a : Addr) : ∀ (kvs : List (Txt × D)), Repd K w H F a kvs → Repd K w H' F' a kvs
  | [], h => by unfold Repd at h ⊢; trivial
  | (k, d) :: r, h => by
    unfold Repd at h ⊢
    obtain ⟨⟨u, v, e, q, p⟩, h2⟩ := h
    exact ⟨⟨u, v, e, q, Rep.stab s d v p⟩, Repd.stab s a r h2⟩
end
end

/-- a value, what it alone holds -/
def RepV (K : PySem.W.Frag) (w : World) (H : Hp) (F : AS) : D → V → AS → Prop
  | .lst true xs, v, O => ∃ a vs, v = .ref a ∧ H a = some (.lst vs) ∧ Reps K w H F xs vs ∧ ∀ b, O b ↔ b = a
  | d, v, O => Rep K w H F d v ∧ ∀ b, ¬ O b
structure Good (H : Hp) (F O : AS) : Prop where
  fr : ∀ b, F b → H b ≠ none
  dj : ∀ b, O b → ¬ F b
  ls : ∀ b, O b → ∃ xs, H b = some (.lst xs)
structure Ext (H : Hp) (F O : AS) (H' : Hp) (F' O' : AS) : Prop where
  keep : ∀ b o, H b = some o → ¬ O b → H' b = some o
  dom : ∀ b, H b ≠ none → H' b ≠ none
  sub : ∀ b, F b → F' b
  new : ∀ b, F' b → F b ∨ O b ∨ H b = none
  own : ∀ b, O' b → O b ∨ H b = none
def EnvR (K : PySem.W.Frag) (w : World) (H : Hp) (F : AS) (env : Env) (σ : L2.St) (O : AS) : Prop :=
  env.length = σ.length ∧ ∃ f : Nat → AS, (∀ i d, gt env i = some d → ∃ v, σ[i]? = some (some v) ∧ RepV K w H F d v (f i)) ∧
    (∀ i, gt env i = none → ∀ b, ¬ f i b) ∧ (∀ i j, i ≠ j → Dj (f i) (f j)) ∧ ∀ b, O b ↔ ∃ i, f i b
section
variable {K : PySem.W.Frag} {w : World} {H H' H1 H2 : Hp} {F F' F1 F2 O O' O1 O2 Ox Oe Ox1 Oe1 Ox2 Oe2 : AS} {d : D} {v : V}
theorem Ext.refl : Ext H F O H F O := ⟨fun _ _ h _ => h, fun _ h => h, fun _ h => h, fun _ h => .inl h, fun _ h => .inl h⟩
theorem Ext.trans (a : Ext H F O H1 F1 O1) (b : Ext H1 F1 O1 H2 F2 O2) : Ext H F O H2 F2 O2 where
  keep := fun c o h n => b.keep c o (a.keep c o h n) fun q => by
    rcases a.own c q with z | z
    · exact n z
    · rw [z] at h; cases h
  dom := fun c h => b.dom c (a.dom c h)
  sub := fun c h => b.sub c (a.sub c h)
  new := fun c h => by
    rcases b.new c h with q | q | q
    · exact a.new c q
    · exact .inr (a.own c q)
    · refine .inr (.inr ?_)
      cases e : H c with
      | none => rfl
      | some o => exact absurd q (a.dom c (by rw [e]; exact fun z => nomatch z))
  own := fun c h => by
    rcases b.own c h with q | q
    · exact a.own c q
    · refine .inr ?_
      cases e : H c with
      | none => rfl
      | some o => exact absurd q (a.dom c (by rw [e]; exact fun z => nomatch z))
theorem Ext.mono (a : Ext H F O H1 F1 O1) (h : ∀ b, O b → O' b) : Ext H F O' H1 F1 O1 :=
  ⟨fun c o e n => a.keep c o e fun q => n (h c q), a.dom, a.sub, fun c q => (a.new c q).elim .inl fun z => .inr (z.elim (fun y => .inl (h c y)) .inr), fun c q => (a.own c q).elim (fun z => .inl (h c z)) .inr⟩
theorem Ext.weak (a : Ext H F O H1 F1 O1) (h : ∀ b, O2 b → O1 b) : Ext H F O H1 F1 O2 := ⟨a.keep, a.dom, a.sub, a.new, fun c q => a.own c (h c q)⟩
theorem Good.weak (g : Good H F O) (h : ∀ b, O2 b → O b) : Good H F O2 := ⟨g.fr, fun b q => g.dj b (h b q), fun b q => g.ls b (h b q)⟩
theorem Ext.stab (a : Ext H F O H1 F1 O1) (g : Good H F O) : Stab H F H1 F1 where
  keep := fun b o e h => a.keep b o e fun q => by
    rcases h with h | ⟨xs, h⟩ | ⟨ob, u, h⟩
    · exact g.dj b q h
    · obtain ⟨ys, z⟩ := g.ls b q
      rw [e, h] at z; cases z
    · obtain ⟨ys, z⟩ := g.ls b q
      rw [e, h] at z; cases z
  sub := a.sub
theorem RepV.cases (r : RepV K w H F d v O) : (∃ xs a vs, d = .lst true xs ∧ v = .ref a ∧ H a = some (.lst vs) ∧ Reps K w H F xs vs ∧ ∀ b, O b ↔ b = a) ∨ (Rep K w H F d v ∧ (∀ b, ¬ O b) ∧ isOwn d = false) := by
  unfold RepV at r
  split at r
  · obtain ⟨a, vs, e, h, q, o⟩ := r
    exact .inl ⟨_, a, vs, rfl, e, h, q, o⟩
  · rename_i n
    refine .inr ⟨r.1, r.2, ?_⟩
    cases d with
    | lst b xs =>
      cases b with
      | true => exact (n xs rfl).elim
      | false => rfl
    | _ => rfl
theorem RepV.of (r : Rep K w H F d v) : RepV K w H F d v emp := by
  unfold RepV
  split
  · unfold Rep at r
    exact r.elim
  · exact ⟨r, fun _ h => h⟩
theorem RepV.of' (r : Rep K w H F d v) (h : ∀ b, ¬ O b) : RepV K w H F d v O := by
  unfold RepV
  split
  · unfold Rep at r
    exact r.elim
  · exact ⟨r, h⟩
theorem RepV.own {xs : List D} {a : Addr} {vs : List V} (h : H a = some (.lst vs)) (r : Reps K w H F xs vs) : RepV K w H F (.lst true xs) (.ref a) (fun b => b = a) := by
  unfold RepV
  exact ⟨a, vs, rfl, h, r, fun _ => .rfl⟩
theorem RepV.ext (r : RepV K w H F d v Ox) (a : Ext H F O H1 F1 O1) (g : Good H F O) (n : Dj Ox O) : RepV K w H1 F1 d v Ox := by
  rcases r.cases with ⟨xs, b, vs, rfl, rfl, h, q, o⟩ | ⟨q, o, _⟩
  · unfold RepV
    exact ⟨b, vs, rfl, a.keep _ _ h fun z => n b ((o b).mpr rfl) z, Reps.stab (a.stab g) xs vs q, o⟩
  · exact .of' (Rep.stab (a.stab g) d v q) o
/-- the step's shape: what the answer holds, what the slots hold -/
structure Hld (H : Hp) (F O : AS) (H1 : Hp) (F1 Ox Oe : AS) : Prop where
  ext : Ext H F O H1 F1 (uni Ox Oe)
  dj : Dj Ox Oe
  good : Good H1 F1 (uni Ox Oe)
theorem Hld.goodE (h : Hld H F O H1 F1 Ox Oe) : Good H1 F1 Oe := h.good.weak fun _ q => .inr q
theorem Hld.drop (h : Hld H F O H1 F1 Ox Oe) (s : ∀ b, Ox2 b → Ox b) : Hld H F O H1 F1 Ox2 Oe :=
  ⟨h.ext.weak fun b q => q.elim (fun z => .inl (s b z)) .inr, fun b x y => h.dj b (s b x) y, h.good.weak fun b q => q.elim (fun z => .inl (s b z)) .inr⟩
theorem Hld.zero (h : Hld H F O H1 F1 Ox Oe) : Hld H F O H1 F1 emp Oe := h.drop fun _ z => z.elim
theorem Hld.refl (g : Good H F O) : Hld H F O H F emp O := ⟨Ext.refl.weak fun _ z => z.elim (fun q => q.elim) id, fun _ q _ => q, g.weak fun _ z => z.elim (fun q => q.elim) id⟩
theorem Hld.far (h : Hld H F O H1 F1 Ox1 Oe1) (k : Hld H1 F1 Oe1 H2 F2 Ox2 Oe2) : Dj Ox1 (uni Ox2 Oe2) := fun b x y => by
  rcases k.ext.own b y with z | z
  · exact h.dj b x z
  · obtain ⟨xs, q⟩ := h.good.ls b (.inl x)
    rw [z] at q; cases q
theorem Hld.step (h : Hld H F O H1 F1 Ox1 Oe1) (k : Hld H1 F1 Oe1 H2 F2 Ox2 Oe2) : Hld H F O H2 F2 (uni Ox1 Ox2) Oe2 := by
  have hf := h.far k
  refine ⟨⟨(h.ext.trans (k.ext.mono fun b q => .inr q)).keep, (h.ext.trans (k.ext.mono fun b q => .inr q)).dom, (h.ext.trans (k.ext.mono fun b q => .inr q)).sub, (h.ext.trans (k.ext.mono fun b q => .inr q)).new, fun b q => ?_⟩, fun b x y => ?_, k.good.fr, fun b q => ?_, fun b q => ?_⟩
  · rcases q with (q | q) | q
    · exact h.ext.own b (.inl q)
    · exact (h.ext.trans (k.ext.mono fun b q => .inr q)).own b (.inl q)
    · exact (h.ext.trans (k.ext.mono fun b q => .inr q)).own b (.inr q)
  · rcases x with x | x
    · exact hf b x (.inr y)
    · exact k.dj b x y
  · rcases q with (q | q) | q
    · intro z
      rcases k.ext.new b z with y | y | y
      · exact h.good.dj b (.inl q) y
      · exact h.dj b q y
      · obtain ⟨xs, e⟩ := h.good.ls b (.inl q)
        rw [y] at e; cases e
    · exact k.good.dj b (.inl q)
    · exact k.good.dj b (.inr q)
  · rcases q with (q | q) | q
    · obtain ⟨xs, e⟩ := h.good.ls b (.inl q)
      exact ⟨xs, k.ext.keep b _ e fun z => h.dj b q z⟩
    · exact k.good.ls b (.inl q)
    · exact k.good.ls b (.inr q)
/-- a held value behind a further step -/
theorem Hld.past (h : Hld H F O H1 F1 Ox1 Oe1) (k : Hld H1 F1 Oe1 H2 F2 Ox2 Oe2) (r : RepV K w H1 F1 d v Ox) (s : ∀ b, Ox b → Ox1 b) : RepV K w H2 F2 d v Ox :=
  r.ext k.ext h.goodE fun b x y => h.dj b (s b x) y
theorem Hld.frozen (h : Hld H F O H1 F1 Ox1 Oe1) (k : Hld H1 F1 Oe1 H2 F2 Ox2 Oe2) (r : Rep K w H1 F1 d v) : Rep K w H2 F2 d v := Rep.stab (k.ext.stab h.goodE) d v r

/-! ### slots -/
theorem gt_set_self {env : Env} {i : Nat} {x : Option D} (h : i < env.length) : gt (env.set i x) i = x := by
  unfold gt
  rw [List.getElem?_set_self h]
  cases x <;> rfl
theorem gt_set_ne {env : Env} {i j : Nat} {x : Option D} (h : i ≠ j) : gt (env.set i x) j = gt env j := by
  unfold gt
  rw [List.getElem?_set_ne h]
theorem gt_lt {env : Env} {i : Nat} (h : gt env i = some d) : i < env.length := by
  unfold gt at h
  split at h
  · rename_i e
    exact (List.getElem?_eq_some_iff.mp e).1
  · cases h
theorem EnvR.get {env : Env} {σ : L2.St} (h : EnvR K w H F env σ O) {i : Nat} (e : gt env i = some d) : ∃ v Oi, σ[i]? = some (some v) ∧ RepV K w H F d v Oi ∧ ∀ b, Oi b → O b := by
  obtain ⟨_, f, h1, _, _, h4⟩ := h
  obtain ⟨v, hv, r⟩ := h1 i d e
  exact ⟨v, f i, hv, r, fun b q => (h4 b).mpr ⟨i, q⟩⟩
theorem EnvR.ext {env : Env} {σ : L2.St} (h : EnvR K w H F env σ Ox) (a : Ext H F O H1 F1 O1) (g : Good H F O) (n : Dj Ox O) : EnvR K w H1 F1 env σ Ox := by
  obtain ⟨l, f, h1, h2, h3, h4⟩ := h
  refine ⟨l, f, fun i d e => ?_, h2, h3, h4⟩
  obtain ⟨v, hv, r⟩ := h1 i d e
  exact ⟨v, hv, r.ext a g fun b x y => n b ((h4 b).mpr ⟨i, x⟩) y⟩
/-- the slots' own parts, the slot i apart -/
theorem EnvR.split {env : Env} {σ : L2.St} (h : EnvR K w H F env σ O) (i : Nat) : ∃ Oi Or : AS, (∀ b, O b ↔ Oi b ∨ Or b) ∧ Dj Oi Or ∧ (∀ d, gt env i = some d → ∃ v, σ[i]? = some (some v) ∧ RepV K w H F d v Oi) ∧
    (∀ (x : Option D) (y : Option V) (On : AS), Dj On Or → (∀ d, x = some d → ∃ v, y = some v ∧ RepV K w H F d v On) → (x = none → ∀ b, ¬ On b) → i < env.length → EnvR K w H F (env.set i x) (σ.set i y) (uni On Or)) ∧
    (∀ (x : Option D) (On : AS), Dj On Or → (∀ d, x = some d → ∃ v, σ[i]? = some (some v) ∧ RepV K w H F d v On) → (x = none → ∀ b, ¬ On b) → i < env.length → EnvR K w H F (env.set i x) σ (uni On Or)) := by
  obtain ⟨l, f, h1, h2, h3, h4⟩ := h
  refine ⟨f i, fun b => ∃ j, j ≠ i ∧ f j b, fun b => ?_, fun b x ⟨j, n, y⟩ => h3 j i n b y x, fun d e => h1 i d e, fun x y On dj hx hn hi => ?_, fun x On dj hx hn hi => ?_⟩
  · rw [h4]
    constructor
    · rintro ⟨j, q⟩
      by_cases e : j = i
      · subst e; exact .inl q
      · exact .inr ⟨j, e, q⟩
    · rintro (q | ⟨j, _, q⟩)
      · exact ⟨i, q⟩
      · exact ⟨j, q⟩
  · refine ⟨by simpa using l, fun j => if j = i then On else f j, fun j d e => ?_, fun j e b => ?_, fun j k n b => ?_, fun b => ?_⟩
    · by_cases q : j = i
      · subst q
        rw [gt_set_self hi] at e
        obtain ⟨v, rfl, r⟩ := hx d e
        refine ⟨v, by rw [List.getElem?_set_self (by rw [← l]; exact hi)], ?_⟩
        simpa using r
      · rw [gt_set_ne (Ne.symm q)] at e
        obtain ⟨v, hv, r⟩ := h1 j d e
        refine ⟨v, by rw [List.getElem?_set_ne (Ne.symm q)]; exact hv, ?_⟩
        simpa [q] using r
    · by_cases q : j = i
      · subst q
        rw [gt_set_self hi] at e
        simpa using hn e b
      · rw [gt_set_ne (Ne.symm q)] at e
        simpa [q] using h2 j e b
    · intro x y
      by_cases q : j = i
      · subst q
        have q2 : ¬ k = j := fun z => n z.symm
        simp only [if_true] at x
        simp only [q2, if_false] at y
        exact dj b x ⟨k, q2, y⟩
      · simp only [q, if_false] at x
        by_cases q2 : k = i
        · subst q2
          simp only [if_true] at y
          exact dj b y ⟨j, q, x⟩
        · simp only [q2, if_false] at y
          exact h3 j k n b x y
    · constructor
      · rintro (q | ⟨j, n, q⟩)
        · exact ⟨i, by simpa using q⟩
        · exact ⟨j, by simpa [n] using q⟩
      · rintro ⟨j, q⟩
        by_cases e : j = i
        · subst e
          exact .inl (by simpa using q)
        · exact .inr ⟨j, e, by simpa [e] using q⟩
  · refine ⟨by simpa using l, fun j => if j = i then On else f j, fun j d e => ?_, fun j e b => ?_, fun j k n b => ?_, fun b => ?_⟩
    · by_cases q : j = i
      · subst q
        rw [gt_set_self hi] at e
        obtain ⟨v, hv, r⟩ := hx d e
        refine ⟨v, hv, ?_⟩
        simpa using r
      · rw [gt_set_ne (Ne.symm q)] at e
        obtain ⟨v, hv, r⟩ := h1 j d e
        refine ⟨v, hv, ?_⟩
        simpa [q] using r
    · by_cases q : j = i
      · subst q
        rw [gt_set_self hi] at e
        simpa using hn e b
      · rw [gt_set_ne (Ne.symm q)] at e
        simpa [q] using h2 j e b
    · intro x y
      by_cases q : j = i
      · subst q
        have q2 : ¬ k = j := fun z => n z.symm
        simp only [if_true] at x
        simp only [q2, if_false] at y
        exact dj b x ⟨k, q2, y⟩
      · simp only [q, if_false] at x
        by_cases q2 : k = i
        · subst q2
          simp only [if_true] at y
          exact dj b y ⟨j, q, x⟩
        · simp only [q2, if_false] at y
          exact h3 j k n b x y
    · constructor
      · rintro (q | ⟨j, n, q⟩)
        · exact ⟨i, by simpa using q⟩
        · exact ⟨j, by simpa [n] using q⟩
      · rintro ⟨j, q⟩
        by_cases e : j = i
        · subst e
          exact .inl (by simpa using q)
        · exact .inr ⟨j, e, by simpa [e] using q⟩
theorem EnvR.iff {env : Env} {σ : L2.St} (h : EnvR K w H F env σ O) (q : ∀ b, O b ↔ O2 b) : EnvR K w H F env σ O2 := by
  obtain ⟨l, f, h1, h2, h3, h4⟩ := h
  exact ⟨l, f, h1, h2, h3, fun b => (q b).symm.trans (h4 b)⟩
end
end Mp

end
section
set_option Elab.async false
set_option linter.all false
/-! Mp4: the readings of the small language; a context; judgements for expressions. -/
namespace Mp
open PySem PySem.Spec PyProof.Rows L2

/-- what is known of the program's names -/
structure GI where
  con : Str → Option D
  fns : List Str
  pars : List (List Str)
  free : List Str

/-- the reading of a run of the small language -/
def TG (K : PySem.W.Frag) (w : World) {α β : Type} (R : Hp → AS → L2.St → α → β → AS → Prop) (m : Env → Option (α × Env)) : L2.St → Hp → (β → Hp → Prop) → Prop :=
  fun σ H Q => ∃ env F O x env', EnvR K w H F env σ O ∧ Good H F O ∧ m env = some (x, env') ∧
    ∀ y H' F' Ox Oe, Hld H F O H' F' Ox Oe → R H' F' σ x y Ox → EnvR K w H' F' env' σ Oe → Q y H'
def RO (K : PySem.W.Frag) (w : World) (H : Hp) (F : AS) (σ : L2.St) : Opd → V → AS → Prop
  | .plc i, v, O => σ[i]? = some (some v) ∧ ∀ b, ¬ O b
  | .val d, v, O => RepV K w H F d v O
def RV (K : PySem.W.Frag) (w : World) (H : Hp) (F : AS) (_ : L2.St) : D → V → AS → Prop := RepV K w H F
def RB (_ : Hp) (_ : AS) (_ : L2.St) (x y : Bool) (O : AS) : Prop := x = y ∧ ∀ b, ¬ O b
def RN (_ : Hp) (_ : AS) (_ : L2.St) (x y : Option Int) (O : AS) : Prop := x = y ∧ ∀ b, ¬ O b
/-- rows of these, no two holding one thing -/
def RL {α β : Type} (R : Hp → AS → L2.St → α → β → AS → Prop) (H : Hp) (F : AS) (σ : L2.St) : List α → List β → AS → Prop
  | [], [], O => ∀ b, ¬ O b
  | x :: xs, y :: ys, O => ∃ O1 O2, R H F σ x y O1 ∧ RL R H F σ xs ys O2 ∧ Dj O1 O2 ∧ ∀ b, O b ↔ O1 b ∨ O2 b
  | _, _, _ => False
abbrev TOp (K : PySem.W.Frag) (w : World) (C : Ctx) (m : ME) : TE := TG K w (RO K w) (op C m)
abbrev TEv (K : PySem.W.Frag) (w : World) (C : Ctx) (m : ME) : TE := TG K w (RV K w) (ev C m)
abbrev TOps (K : PySem.W.Frag) (w : World) (C : Ctx) (m : MEs) : TA := TG K w (RL (RO K w)) (ops C m)
abbrev TEvs (K : PySem.W.Frag) (w : World) (C : Ctx) (m : MEs) : TA := TG K w (RL (RV K w)) (opv C m)
abbrev TTst (K : PySem.W.Frag) (w : World) (C : Ctx) (m : ME) : TT := TG K w RB (tst C m)

/-- behind a call: the parameters that were the callee's own -/
def FinR (K : PySem.W.Frag) (w : World) (H : Hp) (F : AS) : List (Option D) → List V → AS → Prop
  | [], [], O => ∀ b, ¬ O b
  | some d :: fs, v :: vs, O => ∃ O1 O2, RepV K w H F d v O1 ∧ FinR K w H F fs vs O2 ∧ Dj O1 O2 ∧ ∀ b, O b ↔ O1 b ∨ O2 b
  | none :: fs, _ :: vs, O => FinR K w H F fs vs O
  | _, _, _ => False
/-- a def's promise: what the small language says -/
def spM (K : PySem.W.Frag) (w : World) (cs : Calls) (f : Nat) (n : Nat) : Sp := fun vs H Q _ => vs.length = n ∧ ∃ ds F O r fin, RL (RV K w) H F [] ds vs O ∧ Good H F O ∧ cs f ds = some (r, fin) ∧
  ∀ v H' F' Or Oa, Hld H F O H' F' Or Oa → RepV K w H' F' r v Or → FinR K w H' F' fin vs Oa → Q v H'

/-- what is known of the def i -/
def FnAt (P : Program) (w : World) (K : PySem.W.Frag) (mg : Str → Option Value) (base : Heap) (g : GI) (cs : Calls) (k i : Nat) (x : Str) : Prop :=
  ∃ a fd ps, mg x = some (.ref a) ∧ PySem.W.keepIn K (.ref a) = true ∧ Binds K fd ps [] ∧ FnOk P w K mg base CX0 k a fd ps (spM K w cs i ps.length) ∧ (∀ ds r, cs i ds = some r → ds.length = ps.length) ∧ g.pars[i]? = some ps ∧
    (∀ (s : Shared) (us : List Value), us.length = ps.length → BindsTo s fd ⟨us, []⟩ (ps.zip us)) ∧ ∀ (s : Shared) (u : Value), ps.length = 1 → BindsTo s fd ⟨[], ps.zip [u]⟩ (ps.zip [u])
structure CtxOk (g : GI) (N : List Str) (sc : Scope) (C : Ctx) (X : Cx) : Prop where
  calm : X.calm = true
  nd : X.N.Nodup
  N : X.N = N
  vis : ∀ x, (sc.names.lookup x = some .local ∨ sc.names.lookup x = some .cell ∨ sc.names.lookup x = some .free) → Vis X.env.scope x
  loc : ∀ x, (sc.names.lookup x = some .local ∨ sc.names.lookup x = some .cell) → Loc X.env.scope x ∧ (X.fn x = true ∨ X.env.scope.names.lookup x = some .local)
  cf : ∀ x, (sc.names.lookup x = some .cell ∨ sc.names.lookup x = some .free) → (X.env.scope.names.lookup x = some .cell ∨ X.env.scope.names.lookup x = some .free)
  gl : ∀ x, sc.names.lookup x = some .globalImplicit → Gl X x
  con : ∀ x d, g.con x = some d → ∃ u v, X.mg x = some u ∧ RelV v u ∧ ∀ H F, Rep X.K X.w H F d v
  free : ∀ x, x ∈ g.free → X.mg x = none
  calls : ∃ k, Room k X.A ∧ ∀ i x, g.fns[i]? = some x → FnAt X.prog X.w X.K X.mg X.base g C.calls k i x

theorem CtxOk.units {g : GI} {N : List Str} {sc : Scope} {C : Ctx} {X : Cx} (c : CtxOk g N sc C X) : X.A.units + 64 < cLine := let ⟨_, r, _⟩ := c.calls; r.units

section
variable {g : GI} {N : List Str} {sc : Scope} {C : Ctx}
def J (g : GI) (N : List Str) (sc : Scope) (C : Ctx) (e : Expr) (m : ME) : Prop := ∀ X : Cx, CtxOk g N sc C X → PE X e (TOp X.K X.w C m)
def JT (g : GI) (N : List Str) (sc : Scope) (C : Ctx) (e : Expr) (m : ME) : Prop := ∀ X : Cx, CtxOk g N sc C X → PT X e (TTst X.K X.w C m)
def JA (g : GI) (N : List Str) (sc : Scope) (C : Ctx) (es : List Expr) (m : MEs) : Prop := ∀ X : Cx, CtxOk g N sc C X → PA X es (TOps X.K X.w C m)
def JV (g : GI) (N : List Str) (sc : Scope) (C : Ctx) (es : List Expr) (m : MEs) : Prop := ∀ X : Cx, CtxOk g N sc C X → PA X es (TEvs X.K X.w C m)
end

section
variable {X : Cx}
theorem PE.imp {e : Expr} {t t' : TE} (h : PE X e t) (i : ∀ σ H Q, t' σ H Q → t σ H Q) : PE X e t' := ⟨fun pins s σ H Q I q => h.run pins s σ H Q I (i σ H Q q)⟩
theorem PT.imp {e : Expr} {t t' : TT} (h : PT X e t) (i : ∀ σ H Q, t' σ H Q → t σ H Q) : PT X e t' := ⟨fun pins s σ H Q I q => h.run pins s σ H Q I (i σ H Q q)⟩
theorem PA.imp {es : List Expr} {t t' : TA} (h : PA X es t) (i : ∀ σ H Q, t' σ H Q → t σ H Q) : PA X es t' := ⟨fun pos pins s σ H Q I q => h.run pos pins s σ H Q I (i σ H Q q)⟩
theorem PE.absurd {e : Expr} {t : TE} (i : ∀ σ H Q, ¬ t σ H Q) : PE X e t := ⟨fun _ _ σ H Q _ q => (i σ H Q q).elim⟩
theorem PT.absurd {e : Expr} {t : TT} (i : ∀ σ H Q, ¬ t σ H Q) : PT X e t := ⟨fun _ _ σ H Q _ q => (i σ H Q q).elim⟩
theorem PA.absurd {es : List Expr} {t : TA} (i : ∀ σ H Q, ¬ t σ H Q) : PA X es t := ⟨fun _ _ _ σ H Q _ q => (i σ H Q q).elim⟩
end
theorem TG.absurd {K : PySem.W.Frag} {w : World} {α β : Type} {R : Hp → AS → L2.St → α → β → AS → Prop} {m : Env → Option (α × Env)} (h : ∀ env x, m env ≠ some x) {σ : L2.St} {H : Hp} {Q : β → Hp → Prop} : ¬ TG K w R m σ H Q :=
  fun ⟨env, _, _, x, e', _, _, q, _⟩ => h env (x, e') q

section
variable {K : PySem.W.Frag} {w : World} {H H' H1 H2 : Hp} {F F' F1 F2 O O' O1 O2 Ox Oe Ox1 Oe1 Ox2 Oe2 : AS} {d : D} {v : V} {σ : L2.St} {env env' env1 env2 : Env} {p : Opd}
theorem RO.get (r : RO K w H F σ p v Ox) (h : EnvR K w H F env σ Oe) (e : p.get env = some d) : ∃ Od, RepV K w H F d v Od ∧ ∀ b, Od b → Ox b ∨ Oe b := by
  cases p with
  | val x =>
    have e' : x = d := Option.some.inj e
    subst e'
    exact ⟨Ox, r, fun b q => .inl q⟩
  | plc i =>
    obtain ⟨u, Oi, h1, h2, h3⟩ := h.get (i := i) (d := d) e
    have r1 : σ[i]? = some (some v) := r.1
    rw [r1] at h1
    have : v = u := Option.some.inj (Option.some.inj h1)
    subst this
    exact ⟨Oi, h2, fun b q => .inr (h3 b q)⟩
theorem RO.past (h : Hld H F O H1 F1 Ox1 Oe1) (k : Hld H1 F1 Oe1 H2 F2 Ox2 Oe2) (r : RO K w H1 F1 σ p v Ox) (s : ∀ b, Ox b → Ox1 b) : RO K w H2 F2 σ p v Ox := by
  cases p with
  | val x => exact h.past (d := x) k r s
  | plc i => exact r
theorem RL.past {α β : Type} {R : Hp → AS → L2.St → α → β → AS → Prop} (hR : ∀ x y Ox, R H1 F1 σ x y Ox → (∀ b, Ox b → Ox1 b) → R H2 F2 σ x y Ox) : ∀ (xs : List α) (ys : List β) (Ox : AS), RL R H1 F1 σ xs ys Ox → (∀ b, Ox b → Ox1 b) → RL R H2 F2 σ xs ys Ox
  | [], [], _, r, _ => r
  | [], _ :: _, _, r, _ => False.elim r
  | _ :: _, [], _, r, _ => False.elim r
  | x :: xs, y :: ys, Ox, ⟨A, B, h1, h2, h3, h4⟩, s => ⟨A, B, hR x y A h1 fun b q => s b ((h4 b).mpr (.inl q)), RL.past hR xs ys B h2 fun b q => s b ((h4 b).mpr (.inr q)), h3, h4⟩
theorem RL.length {α β : Type} {R : Hp → AS → L2.St → α → β → AS → Prop} : ∀ {xs : List α} {ys : List β} {Ox : AS}, RL R H F σ xs ys Ox → xs.length = ys.length
  | [], [], _, _ => rfl
  | [], _ :: _, _, r => False.elim r
  | _ :: _, [], _, r => False.elim r
  | _ :: _, _ :: _, _, ⟨_, _, _, h2, _, _⟩ => congrArg (· + 1) (RL.length h2)
theorem RL.iff {α β : Type} {R : Hp → AS → L2.St → α → β → AS → Prop} : ∀ {xs : List α} {ys : List β} {Ox Oy : AS}, RL R H F σ xs ys Ox → (∀ b, Ox b ↔ Oy b) → RL R H F σ xs ys Oy
  | [], [], _, _, r, q => fun b z => r b ((q b).mpr z)
  | [], _ :: _, _, _, r, _ => False.elim r
  | _ :: _, [], _, _, r, _ => False.elim r
  | _ :: _, _ :: _, _, _, ⟨A, B, h1, h2, h3, h4⟩, q => ⟨A, B, h1, h2, h3, fun b => (q b).symm.trans (h4 b)⟩
/-- operands are looked at -/
theorem RL.gets (h : EnvR K w H F env σ Oe) : ∀ (ps : List Opd) (vs : List V) (Ox : AS) (ds : List D), RL (RO K w) H F σ ps vs Ox → gets env ps = some ds → Paired (fun d v => ∃ Od, RepV K w H F d v Od) ds vs
  | [], [], _, ds, _, e => by
    have e' : ([] : List D) = ds := Option.some.inj e
    subst e'
    exact .nil
  | [], _ :: _, _, _, r, _ => False.elim r
  | _ :: _, [], _, _, r, _ => False.elim r
  | p :: ps, v :: vs, Ox, ds, ⟨A, B, h1, h2, h3, h4⟩, e => by
    unfold Mp.gets at e
    split at e
    · rename_i d ds' e1 e2
      have e' : d :: ds' = ds := Option.some.inj e
      subst e'
      obtain ⟨Od, q, _⟩ := h1.get h e1
      exact .cons ⟨Od, q⟩ (RL.gets h ps vs B ds' h2 e2)
    · cases e

/-- the heap grows -/
def Grow (H H' : Hp) : Prop := ∀ b o, H b = some o → H' b = some o
theorem Grow.refl : Grow H H := fun _ _ h => h
theorem Grow.upd {p : Addr} {o : HO} (h : H p = none) : Grow H (upd H p o) := fun b u e => by
  rw [upd_ne (ne_of_none e h)]
  exact e
theorem Grow.trans (a : Grow H H1) (b : Grow H1 H2) : Grow H H2 := fun c o h => b c o (a c o h)
theorem Grow.stab (a : Grow H H') : Stab H F H' F := ⟨fun b o e _ => a b o e, fun _ h => h⟩
theorem RepV.grow (r : RepV K w H F d v Ox) (a : Grow H H') : RepV K w H' F d v Ox := by
  rcases r.cases with ⟨xs, b, vs, rfl, rfl, h, q, o⟩ | ⟨q, o, _⟩
  · unfold RepV
    exact ⟨b, vs, rfl, a _ _ h, Reps.stab a.stab xs vs q, o⟩
  · exact .of' (Rep.stab a.stab d v q) o
theorem EnvR.grow (h : EnvR K w H F env σ Oe) (a : Grow H H') : EnvR K w H' F env σ Oe := by
  obtain ⟨l, f, h1, h2, h3, h4⟩ := h
  exact ⟨l, f, fun i d e => let ⟨v, hv, r⟩ := h1 i d e; ⟨v, hv, r.grow a⟩, h2, h3, h4⟩
theorem RepV.ls (r : RepV K w H F d v Ox) : ∀ b, Ox b → ∃ xs, H b = some (.lst xs) := fun b q => by
  rcases r.cases with ⟨xs, a, vs, rfl, rfl, h, _, o⟩ | ⟨_, o, _⟩
  · rw [(o b).mp q]
    exact ⟨_, h⟩
  · exact (o b q).elim
theorem Hld.grow (g : Good H F Oe) (a : Grow H H') (f : ∀ b, Ox b → H b = none) (l : ∀ b, Ox b → ∃ xs, H' b = some (.lst xs)) : Hld H F Oe H' F Ox Oe where
  ext := ⟨fun b o e _ => a b o e, fun b h => by
      cases e : H b with
      | none => exact absurd e h
      | some o => rw [a b o e]; exact Option.some_ne_none _, fun _ h => h, fun _ h => .inl h, fun b h => h.elim (fun z => .inr (f b z)) .inl⟩
  dj := fun b x y => by
    obtain ⟨xs, e⟩ := g.ls b y
    rw [f b x] at e; cases e
  good := ⟨fun b h => by
      cases e : H b with
      | none => exact absurd e (g.fr b h)
      | some o => rw [a b o e]; exact Option.some_ne_none _, fun b h => h.elim (fun z y => g.fr b y (f b z)) (g.dj b), fun b h => h.elim (l b) fun z => let ⟨xs, e⟩ := g.ls b z; ⟨xs, a b _ e⟩⟩
/-- the end of a step: from what is held a new value is made -/
theorem TG.end {α : Type} {R : Hp → AS → L2.St → α → V → AS → Prop} {Q : VK} {x : α} (h : ∀ y H' F' Ox Oe, Hld H F O H' F' Ox Oe → R H' F' σ x y Ox → EnvR K w H' F' env' σ Oe → Q y H') (s : Hld H F O H1 F1 Ox1 Oe1) (er : EnvR K w H1 F1 env' σ Oe1)
    (a : Grow H1 H2) (f : ∀ b, Ox b → H1 b = none) (l : ∀ b, Ox b → ∃ xs, H2 b = some (.lst xs)) (r : R H2 F1 σ x v Ox) : Q v H2 :=
  h v H2 F1 Ox Oe1 ((s.step (Hld.grow s.goodE a f l)).drop fun b q => .inr q) r (er.grow a)
end

/-- an operation by values, two operands -/
def ValSim2 (K : PySem.W.Frag) (w : World) (r : R2) (f : D → D → Option D) : Prop := ∀ x y d, f x y = some d → ∀ (H : Hp) (F : AS) (vx vy : V) (Ox Oy : AS) (Q : VK), RepV K w H F x vx Ox → RepV K w H F y vy Oy →
  (∀ v H' Od, Grow H H' → (∀ b, Od b → H b = none) → RepV K w H' F d v Od → Q v H') → r vx vy H Q
def ValSim1 (K : PySem.W.Frag) (w : World) (r : V → Hp → VK → Prop) (f : D → Option D) : Prop := ∀ x d, f x = some d → ∀ (H : Hp) (F : AS) (vx : V) (Ox : AS) (Q : VK), RepV K w H F x vx Ox →
  (∀ v H' Od, Grow H H' → (∀ b, Od b → H b = none) → RepV K w H' F d v Od → Q v H') → r vx H Q
def ValSimL (K : PySem.W.Frag) (w : World) (r : List V → Hp → VK → Prop) (f : List D → Option D) : Prop := ∀ xs d, f xs = some d → ∀ (H : Hp) (F : AS) (vs : List V) (Q : VK), Paired (fun d v => ∃ Od, RepV K w H F d v Od) xs vs →
  (∀ v H' Od, Grow H H' → (∀ b, Od b → H b = none) → RepV K w H' F d v Od → Q v H') → r vs H Q

section
variable {g : GI} {N : List Str} {sc : Scope} {C : Ctx} {a b c : Expr} {ma mb mc : ME} {pos : Pos}
theorem j_bad : J g N sc C a .bad := fun X c => PE.absurd fun σ H Q => TG.absurd fun env x h => by simp [op] at h
theorem j_no : J g N sc C a .no := fun X c => PE.absurd fun σ H Q => TG.absurd fun env x h => by simp [op] at h
theorem j_var {i : Nat} {x : Str} (hi : N[i]? = some x) (hv : sc.names.lookup x = some .local ∨ sc.names.lookup x = some .cell ∨ sc.names.lookup x = some .free) (hd : (x == ("__debug__" : Str)) = false) (hc : (x == ("__classdict__" : Str)) = false) : J g N sc C (.Name x pos) (.var i) := fun X c => by
  refine PE.imp (pe_var (i := i) (by rw [c.N]; exact hi) (c.vis x hv) hd hc) fun σ H Q h => ?_
  obtain ⟨env, F, O, p, env', er, gd, e, q⟩ := h
  unfold op at e
  split at e
  · rename_i d hd
    cases e
    obtain ⟨v, Oi, h1, h2, h3⟩ := er.get hd
    exact ⟨v, h1, q v H F emp O (Hld.refl gd) ⟨h1, fun _ z => z⟩ er⟩
  · cases e
theorem j_k {d : D} {v : V} (h : ∀ X : Cx, CtxOk g N sc C X → PE X a (tC v) ∧ ∀ H F, Rep X.K X.w H F d v) : J g N sc C a (.k d) := fun X c => by
  obtain ⟨h1, h2⟩ := h X c
  refine PE.imp h1 fun σ H Q h => ?_
  obtain ⟨env, F, O, p, env', er, gd, e, q⟩ := h
  unfold op at e
  cases e
  exact q v H F emp O (Hld.refl gd) (.of (h2 H F)) er
theorem j_int {i : Int} {j : Nat} : J g N sc C (.Constant (.int i) j pos) (.k (.int i)) := j_k fun X c => ⟨pe_int, fun H F => by unfold Rep; rfl⟩
theorem j_bool {i : Bool} {j : Nat} : J g N sc C (.Constant (.bool i) j pos) (.k (.bl i)) := j_k fun X c => ⟨pe_bl, fun H F => by unfold Rep; rfl⟩
theorem j_none {j : Nat} : J g N sc C (.Constant .none j pos) (.k .non) := j_k fun X c => ⟨pe_non, fun H F => by unfold Rep; rfl⟩
theorem st_toList (x : Str) : st x.cps.toList = x := by
  cases x
  simp [st]
theorem j_str {x : Str} {j : Nat} : J g N sc C (.Constant (.str x) j pos) (.k (.str x.cps.toList)) := j_k fun X c => ⟨pe_str, fun H F => by unfold Rep; rw [st_toList]⟩
theorem k_pe {X : Cx} {d : D} {v : V} (h1 : PE X a (tC v)) (h2 : ∀ H F, Rep X.K X.w H F d v) : PE X a (TOp X.K X.w C (.k d)) := by
  refine PE.imp h1 fun σ H Q h => ?_
  obtain ⟨env, F, O, p, env', er, gd, e, q⟩ := h
  unfold op at e
  cases e
  exact q v H F emp O (Hld.refl gd) (.of (h2 H F)) er
theorem j_con {x : Str} {d : D} (h : g.con x = some d) (hs : sc.names.lookup x = some .globalImplicit) (hd : (x == ("__debug__" : Str)) = false) : J g N sc C (.Name x pos) (.k d) := fun X c => by
  obtain ⟨u, v, h1, h2, h3⟩ := c.con x d h
  exact k_pe (pe_glob (c.gl x hs) h1 h2 hd) h3
theorem j_bin {o : BOp} {opn : Operator} (ho : ∀ X : Cx, CtxOk g N sc C X → ∃ r, OpR X (binaryOp opn) r ∧ ValSim2 X.K X.w r (binop o)) (ha : J g N sc C a ma) (hb : J g N sc C b mb) : J g N sc C (.BinOp a opn b pos) (.bin o ma mb) := fun X c => by
  obtain ⟨r, h1, h2⟩ := ho X c
  refine PE.imp (pe_op h1 (ha X c) (hb X c)) fun σ H Q h => ?_
  obtain ⟨env, F, O, z, env', er, gd, e, q⟩ := h
  simp only [op, Option.bind_eq_bind, Option.bind_eq_some_iff, Prod.exists] at e
  obtain ⟨p, e1, ea, p2, e2, eb, x, ex, y, ey, d, ed, e⟩ := e
  cases e
  refine ⟨env, F, O, p, e1, er, gd, ea, fun vx H1 F1 Ox1 Oe1 s1 rx er1 => ?_⟩
  refine ⟨e1, F1, Oe1, p2, env', er1, s1.goodE, eb, fun vy H2 F2 Ox2 Oe2 s2 ry er2 => ?_⟩
  obtain ⟨A, qx, _⟩ := (RO.past s1 s2 rx fun _ z => z).get er2 ex
  obtain ⟨B, qy, _⟩ := ry.get er2 ey
  exact h2 x y d ed H2 F2 vx vy A B Q qx qy fun v H' Od gr fr rv => TG.end q (s1.step s2) er2 gr fr rv.ls rv
end
end Mp

end
section
set_option Elab.async false
set_option linter.all false
/-! Mp5: judgements for expressions: tests, displays, subscripts, arguments. -/
namespace Mp
open PySem PySem.Spec PyProof.Rows L2

section
variable {K : PySem.W.Frag} {w : World} {H H' : Hp} {F F' : AS}
theorem Reps.length : ∀ {ds : List D} {vs : List V}, Reps K w H F ds vs → ds.length = vs.length
  | [], [], _ => rfl
  | [], _ :: _, h => by unfold Reps at h; exact False.elim h
  | _ :: _, [], h => by unfold Reps at h; exact False.elim h
  | _ :: _, _ :: _, h => by unfold Reps at h; exact congrArg (· + 1) (Reps.length h.2)
theorem Reps.get : ∀ {ds : List D} {vs : List V} {i : Nat} {d : D}, Reps K w H F ds vs → ds[i]? = some d → ∃ v, vs[i]? = some v ∧ Rep K w H F d v
  | [], _, _, _, _, e => by simp at e
  | _ :: _, [], _, _, h, _ => by unfold Reps at h; exact False.elim h
  | x :: xs, v :: vs, 0, d, h, e => by
    unfold Reps at h
    have : x = d := by simpa using e
    subst this
    exact ⟨v, rfl, h.1⟩
  | x :: xs, v :: vs, i + 1, d, h, e => by
    unfold Reps at h
    exact Reps.get (i := i) h.2 (by simpa using e)
theorem Reps.append : ∀ {ds es : List D} {vs us : List V}, Reps K w H F ds vs → Reps K w H F es us → Reps K w H F (ds ++ es) (vs ++ us)
  | [], _, [], _, _, h => h
  | [], _, _ :: _, _, h, _ => by unfold Reps at h; exact False.elim h
  | _ :: _, _, [], _, h, _ => by unfold Reps at h; exact False.elim h
  | _ :: _, _, _ :: _, _, h, k => by
    rw [List.cons_append, List.cons_append]
    unfold Reps at h ⊢
    exact ⟨h.1, Reps.append h.2 k⟩
theorem Reps.take : ∀ {ds : List D} {vs : List V} (n : Nat), Reps K w H F ds vs → Reps K w H F (ds.take n) (vs.take n)
  | [], [], n, h => by simpa using h
  | [], _ :: _, _, h => by unfold Reps at h; exact False.elim h
  | _ :: _, [], _, h => by unfold Reps at h; exact False.elim h
  | _ :: _, _ :: _, 0, _ => by unfold Reps; trivial
  | _ :: _, _ :: _, n + 1, h => by
    rw [List.take_succ_cons, List.take_succ_cons]
    unfold Reps at h ⊢
    exact ⟨h.1, Reps.take n h.2⟩
theorem Reps.drop : ∀ {ds : List D} {vs : List V} (n : Nat), Reps K w H F ds vs → Reps K w H F (ds.drop n) (vs.drop n)
  | [], [], n, h => by simpa using h
  | [], _ :: _, _, h => by unfold Reps at h; exact False.elim h
  | _ :: _, [], _, h => by unfold Reps at h; exact False.elim h
  | _ :: _, _ :: _, 0, h => h
  | _ :: _, _ :: _, n + 1, h => by
    rw [List.drop_succ_cons, List.drop_succ_cons]
    unfold Reps at h
    exact Reps.drop n h.2
theorem Reps.set : ∀ {ds : List D} {vs : List V} (n : Nat) {d : D} {v : V}, Reps K w H F ds vs → Rep K w H F d v → Reps K w H F (ds.set n d) (vs.set n v)
  | [], [], n, _, _, h, _ => by simpa using h
  | [], _ :: _, _, _, _, h, _ => by unfold Reps at h; exact False.elim h
  | _ :: _, [], _, _, _, h, _ => by unfold Reps at h; exact False.elim h
  | _ :: _, _ :: _, 0, _, _, h, k => by
    rw [List.set_cons_zero, List.set_cons_zero]
    unfold Reps at h ⊢
    exact ⟨k, h.2⟩
  | _ :: _, _ :: _, n + 1, _, _, h, k => by
    rw [List.set_cons_succ, List.set_cons_succ]
    unfold Reps at h ⊢
    exact ⟨h.1, Reps.set n h.2 k⟩
theorem Reps.cons {d : D} {v : V} {ds : List D} {vs : List V} (h : Rep K w H F d v) (k : Reps K w H F ds vs) : Reps K w H F (d :: ds) (v :: vs) := by
  unfold Reps
  exact ⟨h, k⟩
theorem Reps.nil : Reps K w H F [] [] := by
  unfold Reps
  trivial
/-- a list that is read, whoever holds it -/
theorem RepV.lst {o : Bool} {xs : List D} {v : V} {O : AS} (r : RepV K w H F (.lst o xs) v O) : ∃ a vs, v = .ref a ∧ SqL K H a vs ∧ Reps K w H F xs vs := by
  rcases r.cases with ⟨ys, a, vs, e, rfl, h, q, _⟩ | ⟨q, _, n⟩
  · cases e
    exact ⟨a, vs, rfl, .of h, q⟩
  · cases o with
    | true => cases n
    | false =>
      unfold Rep at q
      obtain ⟨a, vs, e, l, q⟩ := q
      exact ⟨a, vs, e, l.sq, q⟩
theorem RepV.tup {xs : List D} {v : V} {O : AS} (r : RepV K w H F (.tup xs) v O) : ∃ a vs, v = .ref a ∧ SqT K H a vs ∧ Reps K w H F xs vs := by
  rcases r.cases with ⟨ys, a, vs, e, _⟩ | ⟨q, _, n⟩
  · cases e
  · unfold Rep at q
    exact q
theorem RepV.rep {d : D} {v : V} {O : AS} (r : RepV K w H F d v O) (n : isOwn d = false) : Rep K w H F d v := by
  rcases r.cases with ⟨ys, a, vs, e, _⟩ | ⟨q, _, _⟩
  · subst e; cases n
  · exact q
theorem RepV.non {v : V} {O : AS} (r : RepV K w H F .non v O) : v = .non := by have q := r.rep rfl; unfold Rep at q; exact q
theorem RepV.bl {b : Bool} {v : V} {O : AS} (r : RepV K w H F (.bl b) v O) : v = .bl b := by have q := r.rep rfl; unfold Rep at q; exact q
theorem RepV.int {i : Int} {v : V} {O : AS} (r : RepV K w H F (.int i) v O) : v = .int i := by have q := r.rep rfl; unfold Rep at q; exact q
theorem RepV.str {t : Txt} {v : V} {O : AS} (r : RepV K w H F (.str t) v O) : v = .str (st t) := by have q := r.rep rfl; unfold Rep at q; exact q
theorem RepV.ty {n : String} {v : V} {O : AS} (r : RepV K w H F (.ty n) v O) : v = .ty n := by have q := r.rep rfl; unfold Rep at q; exact q
theorem rep_int {i : Int} : Rep K w H F (.int i) (.int i) := by unfold Rep; rfl
theorem rep_bl {i : Bool} : Rep K w H F (.bl i) (.bl i) := by unfold Rep; rfl
theorem rep_non : Rep K w H F .non .non := by unfold Rep; rfl
theorem rep_str {t : Txt} : Rep K w H F (.str t) (.str (st t)) := by unfold Rep; rfl
theorem rep_tup {xs : List D} {a : Addr} {vs : List V} (h : SqT K H a vs) (r : Reps K w H F xs vs) : Rep K w H F (.tup xs) (.ref a) := by
  unfold Rep
  exact ⟨a, vs, rfl, h, r⟩
theorem st_length (t : Txt) : (st t).length = t.length := by
  show t.toArray.size = t.length
  simp
theorem isEmpty_len {α β : Type} {xs : List α} {ys : List β} (h : xs.length = ys.length) : xs.isEmpty = ys.isEmpty := by
  cases xs <;> cases ys <;> first | rfl | (simp at h)
theorem truth_ok {d : D} {t : Bool} {v : V} {O : AS} (e : truth d = some t) (r : RepV K w H F d v O) : TruV K v H t := by
  cases d with
  | non =>
    rw [r.non]
    exact (Option.some.inj e).symm
  | bl b =>
    rw [r.bl]
    exact (Option.some.inj e).symm
  | int i =>
    rw [r.int]
    exact (Option.some.inj e).symm
  | str x =>
    rw [r.str]
    have e2 : (if small x.length = true then some (!x.isEmpty) else none) = some t := e
    by_cases h : small x.length = true
    · rw [if_pos h] at e2
      have h' : x.length ≤ 16777216 := of_decide_eq_true h
      refine ⟨by rw [st_length]; exact h', ?_⟩
      have e' := Option.some.inj e2
      rw [← e', st_length]
      cases x with
      | nil => rfl
      | cons a b =>
        show true = (((a :: b).length : Int) != 0)
        simp [bne]
        omega
    · rw [if_neg h] at e2
      cases e2
  | ty n => cases e
  | tup xs =>
    obtain ⟨a, vs, rfl, h, q⟩ := r.tup
    refine .inr (.inl ⟨vs, h, ?_⟩)
    rw [← Option.some.inj e, isEmpty_len q.length]
  | lst o xs =>
    obtain ⟨a, vs, rfl, h, q⟩ := r.lst
    refine .inl ⟨vs, h, ?_⟩
    rw [← Option.some.inj e, isEmpty_len q.length]
  | dct kvs => cases e
end

section
variable {K : PySem.W.Frag} {w : World} {H H' H1 H2 : Hp} {F F' F1 F2 O O' O1 O2 Ox Oe Ox1 Oe1 Ox2 Oe2 : AS} {d : D} {v : V} {σ : L2.St} {env env' env1 env2 : Env} {p : Opd}
theorem set_same {env : Env} {i : Nat} (h : gt env i = some d) : env.set i (some d) = env := by
  have hl := gt_lt h
  unfold gt at h
  split at h
  · rename_i x e
    cases h
    apply List.ext_getElem?
    intro j
    by_cases q : i = j
    · subst q
      rw [List.getElem?_set_self hl, e]
    · rw [List.getElem?_set_ne q]
  · cases h
/-- what a slot holds is shared from now on -/
theorem EnvR.freeze (er : EnvR K w H F env σ O) (g : Good H F O) {i : Nat} (e : gt env i = some d) : ∃ v F' O', σ[i]? = some (some v) ∧ Hld H F O H F' emp O' ∧ EnvR K w H F' (env.set i (some (frz d))) σ O' ∧ Rep K w H F' (frz d) v := by
  obtain ⟨Oi, Or, h1, h2, h3, _, h5⟩ := er.split i
  obtain ⟨v, hv, r⟩ := h3 d e
  rcases r.cases with ⟨xs, a, vs, rfl, rfl, h, q, o⟩ | ⟨q, o, n⟩
  · have ho : O a := (h1 a).mpr (.inl ((o a).mpr rfl))
    have st' : Stab H F H (fun b => F b ∨ b = a) := ⟨fun _ _ z _ => z, fun _ z => .inl z⟩
    have rep : Rep K w H (fun b => F b ∨ b = a) (.lst false xs) (.ref a) := by
      unfold Rep
      exact ⟨a, vs, rfl, .inl ⟨.inr rfl, .of h⟩, Reps.stab st' xs vs q⟩
    have hl : Hld H F O H (fun b => F b ∨ b = a) emp Or := by
      refine ⟨⟨fun _ _ z _ => z, fun _ z => z, fun _ z => .inl z, fun b z => ?_, fun b z => ?_⟩, fun b z _ => z, fun b z => ?_, fun b z => ?_, fun b z => ?_⟩
      · rcases z with z | z
        · exact .inl z
        · rw [z]; exact .inr (.inl ho)
      · rcases z with z | z
        · exact z.elim
        · exact .inl ((h1 b).mpr (.inr z))
      · rcases z with z | z
        · exact g.fr b z
        · rw [z, h]; exact Option.some_ne_none _
      · rcases z with z | z
        · exact z.elim
        · rintro (y | y)
          · exact g.dj b ((h1 b).mpr (.inr z)) y
          · exact h2 b ((o b).mpr y) z
      · rcases z with z | z
        · exact z.elim
        · exact g.ls b ((h1 b).mpr (.inr z))
    refine ⟨.ref a, _, Or, hv, hl, ?_, rep⟩
    obtain ⟨l, f, k1, k2, k3, k4⟩ := er
    have fi : ∀ b, f i b ↔ b = a := by
      obtain ⟨v', hv', r'⟩ := k1 i _ e
      rw [hv] at hv'
      cases hv'
      rcases r'.cases with ⟨xs', a', vs', e1, e2, _, _, o'⟩ | ⟨_, _, n⟩
      · cases e2
        exact o'
      · cases n
    refine ⟨by simpa using l, fun j => if j = i then emp else f j, fun j d' e' => ?_, fun j e' b => ?_, fun j k n b x y => ?_, fun b => ?_⟩
    · by_cases q' : j = i
      · subst q'
        rw [gt_set_self (gt_lt e)] at e'
        cases e'
        exact ⟨_, hv, .of' rep (by simp [emp])⟩
      · rw [gt_set_ne (Ne.symm q')] at e'
        obtain ⟨v', hv', r'⟩ := k1 j d' e'
        refine ⟨v', hv', ?_⟩
        dsimp only
        rw [if_neg q']
        rcases r'.cases with ⟨xs', a', vs', rfl, rfl, hh, qq, oo⟩ | ⟨qq, oo, _⟩
        · unfold RepV
          exact ⟨a', vs', rfl, hh, Reps.stab st' _ _ qq, oo⟩
        · exact .of' (Rep.stab st' _ _ qq) oo
    · by_cases q' : j = i
      · simp [q', emp]
      · rw [gt_set_ne (Ne.symm q')] at e'
        dsimp only
        rw [if_neg q']
        exact k2 j e' b
    · dsimp only at x y
      by_cases q' : j = i
      · rw [if_pos q'] at x; exact x
      · by_cases q2 : k = i
        · rw [if_pos q2] at y; exact y
        · rw [if_neg q'] at x
          rw [if_neg q2] at y
          exact k3 j k n b x y
    · constructor
      · intro z
        obtain ⟨j, hj⟩ := (k4 b).mp ((h1 b).mpr (.inr z))
        have nj : j ≠ i := by
          rintro rfl
          exact h2 b ((o b).mpr ((fi b).mp hj)) z
        exact ⟨j, by dsimp only; rw [if_neg nj]; exact hj⟩
      · rintro ⟨j, hj⟩
        by_cases q' : j = i
        · rw [if_pos q'] at hj; exact hj.elim
        · rw [if_neg q'] at hj
          rcases (h1 b).mp ((k4 b).mpr ⟨j, hj⟩) with z | z
          · exact (k3 j i q' b hj ((fi b).mpr ((o b).mp z))).elim
          · exact z
  · have fd : frz d = d := by
      cases d with
      | lst b xs =>
        cases b with
        | true => cases n
        | false => rfl
      | _ => rfl
    rw [fd, set_same e]
    exact ⟨v, F, O, hv, Hld.refl g, er, q⟩
/-- an operand taken as a value -/
theorem TEv.of {C : Ctx} {m : ME} {σ : L2.St} {H : Hp} {Q : VK} (h : TEv K w C m σ H Q) : TOp K w C m σ H Q := by
  obtain ⟨env, F, O, d, env', er, gd, e, q⟩ := h
  simp only [ev, Option.bind_eq_bind, Option.bind_eq_some_iff, Prod.exists] at e
  obtain ⟨p, e1, ea, e⟩ := e
  refine ⟨env, F, O, p, e1, er, gd, ea, fun vx H1 F1 Ox1 Oe1 s1 rx er1 => ?_⟩
  cases p with
  | val x =>
    cases e
    exact q vx H1 F1 Ox1 Oe1 s1 rx er1
  | plc i =>
    simp only [Opd.take] at e
    split at e
    · rename_i x hx
      cases e
      obtain ⟨u, F2, O2, hu, s2, er2, r2⟩ := er1.freeze s1.goodE hx
      have r1 : σ[i]? = some (some vx) := rx.1
      rw [r1] at hu
      have : vx = u := Option.some.inj (Option.some.inj hu)
      subst this
      exact q vx H1 F2 emp O2 ((s1.step s2).drop fun b z => z.elim) (.of r2) er2
    · cases e
end

section
variable {g : GI} {N : List Str} {sc : Scope} {C : Ctx} {a b c : Expr} {ma mb mc : ME} {pos : Pos} {es : List Expr} {ms : MEs}
theorem J.ev (h : J g N sc C a ma) {X : Cx} (c : CtxOk g N sc C X) : PE X a (TEv X.K X.w C ma) := PE.imp (h X c) fun _ _ _ q => q.of
theorem j_neg (ha : J g N sc C a ma) : J g N sc C (.UnaryOp .USub a pos) (.neg ma) := fun X c => by
  refine PE.imp (pe_un un_neg (ha X c)) fun σ H Q h => ?_
  obtain ⟨env, F, O, z, env', er, gd, e, q⟩ := h
  simp only [op, Option.bind_eq_bind, Option.bind_eq_some_iff, Prod.exists] at e
  obtain ⟨p, e1, ea, x, ex, d, ed, e⟩ := e
  cases e
  refine ⟨env, F, O, p, env', er, gd, ea, fun vx H1 F1 Ox1 Oe1 s1 rx er1 => ?_⟩
  obtain ⟨A, qx, _⟩ := rx.get er1 ex
  cases x with
  | int i =>
    rw [qx.int]
    have ed' : D.int (-i) = d := Option.some.inj ed
    subst ed'
    exact ⟨i, rfl, TG.end q s1 er1 Grow.refl (fun _ z => z.elim) (fun _ z => z.elim) (.of rep_int)⟩
  | _ => cases ed
theorem j_cmp {o : COp} {opn : CmpOp} (ho : ∀ X : Cx, CtxOk g N sc C X → ∃ r, OpR X (compareOp opn) r ∧ ValSim2 X.K X.w r (fun x y => (cmpop o x y).map .bl)) (hm : behindInMarks opn b = false) (ha : J g N sc C a ma) (hb : J g N sc C b mb) : J g N sc C (.Compare a [opn] [b] pos) (.cmp o ma mb) := fun X c => by
  obtain ⟨r, h1, h2⟩ := ho X c
  refine PE.imp (pe_cmpR h1 (ha X c) (hb X c) hm) fun σ H Q h => ?_
  obtain ⟨env, F, O, z, env', er, gd, e, q⟩ := h
  simp only [op, Option.bind_eq_bind, Option.bind_eq_some_iff, Prod.exists] at e
  obtain ⟨p, e1, ea, p2, e2, eb, x, ex, y, ey, d, ed, e⟩ := e
  cases e
  refine ⟨env, F, O, p, e1, er, gd, ea, fun vx H1 F1 Ox1 Oe1 s1 rx er1 => ?_⟩
  refine ⟨e1, F1, Oe1, p2, env', er1, s1.goodE, eb, fun vy H2 F2 Ox2 Oe2 s2 ry er2 => ?_⟩
  obtain ⟨A, qx, _⟩ := (RO.past s1 s2 rx fun _ z => z).get er2 ex
  obtain ⟨B, qy, _⟩ := ry.get er2 ey
  exact h2 x y (.bl d) (by show (cmpop o x y).map D.bl = _; rw [ed]; rfl) H2 F2 vx vy A B Q qx qy fun v H' Od gr fr rv => TG.end q (s1.step s2) er2 gr fr rv.ls rv
theorem j_chain {o o' : COp} {opn opn' : CmpOp} (ho : ∀ X : Cx, CtxOk g N sc C X → ∃ r, OpR X (compareOp opn) r ∧ ValSim2 X.K X.w r (fun x y => (cmpop o x y).map .bl)) (ho' : ∀ X : Cx, CtxOk g N sc C X → ∃ r, OpR X (compareOp opn') r ∧ ValSim2 X.K X.w r (fun x y => (cmpop o' x y).map .bl))
    (hm : lastMarks [opn, opn'] [b, c] = false) (ha : J g N sc C a ma) (hb : J g N sc C b mb) (hc : J g N sc C c mc) : J g N sc C (.Compare a [opn, opn'] [b, c] pos) (.chain o o' ma mb mc) := fun X cx => by
  obtain ⟨r, h1, h2⟩ := ho X cx
  obtain ⟨r', h1', h2'⟩ := ho' X cx
  refine PE.imp (pe_chain h1 h1' (ha X cx) (hb X cx) (hc X cx) hm) fun σ H Q h => ?_
  obtain ⟨env, F, O, z, env', er, gd, e, q⟩ := h
  simp only [op, Option.bind_eq_bind, Option.bind_eq_some_iff, Prod.exists] at e
  obtain ⟨p, e1, ea, p2, e2, eb, x, ex, y, ey, d, ed, e⟩ := e
  refine ⟨env, F, O, p, e1, er, gd, ea, fun vx H1 F1 Ox1 Oe1 s1 rx er1 => ?_⟩
  refine ⟨e1, F1, Oe1, p2, e2, er1, s1.goodE, eb, fun vy H2 F2 Ox2 Oe2 s2 ry er2 => ?_⟩
  obtain ⟨A, qx, _⟩ := (RO.past s1 s2 rx fun _ z => z).get er2 ex
  obtain ⟨B, qy, _⟩ := ry.get er2 ey
  refine h2 x y (.bl d) (by show (cmpop o x y).map D.bl = _; rw [ed]; rfl) H2 F2 vx vy A B _ qx qy fun v H' Od gr fr rv => ⟨d, rv.bl, ?_⟩
  cases d with
  | false =>
    rw [if_neg Bool.false_ne_true] at e ⊢
    cases e
    exact TG.end q (s1.step s2) er2 gr (fun _ z => z.elim) (fun _ z => z.elim) (.of rep_bl)
  | true =>
    rw [if_pos rfl] at e ⊢
    simp only [Option.bind_eq_some_iff, Prod.exists] at e
    obtain ⟨p3, e3, ec, y', ey', z', ez, d', ed', e⟩ := e
    cases e
    have s2' := (s1.step s2).step (Hld.grow (Ox := emp) (s1.step s2).goodE gr (fun _ z => z.elim) (fun _ z => z.elim))
    have er2' := er2.grow gr
    refine ⟨e2, F2, Oe2, p3, env', er2', s2'.goodE, ec, fun vz H3 F3 Ox3 Oe3 s3 rz er3 => ?_⟩
    have ry2 : RO X.K X.w H' F2 σ p2 vy Ox2 := by
      cases p2 with
      | val u => exact RepV.grow (d := u) ry gr
      | plc i => exact ry
    obtain ⟨B', qy', _⟩ := (RO.past s2' s3 ry2 fun b z => .inl (.inr z)).get er3 ey'
    obtain ⟨E, qz, _⟩ := rz.get er3 ez
    exact h2' y' z' (.bl d') (by show (cmpop o' y' z').map D.bl = _; rw [ed']; rfl) H3 F3 vy vz B' E Q qy' qz fun v3 H4 Od4 gr4 fr4 rv4 => TG.end q (s2'.step s3) er3 gr4 fr4 rv4.ls rv4
theorem j_one {o : BoolOp} (h : J g N sc C a ma) : J g N sc C (.BoolOp o [a] pos) ma := fun X c => pe_one (h X c)
theorem j_and {rest : List Expr} (ha : J g N sc C a ma) (hb : J g N sc C (.BoolOp .And (b :: rest) pos) mb) : J g N sc C (.BoolOp .And (a :: b :: rest) pos) (.and ma mb) := fun X c => by
  refine PE.imp (pe_andT (ha X c) (hb X c)) fun σ H Q h => ?_
  obtain ⟨env, F, O, z, env', er, gd, e, q⟩ := h
  simp only [op, Option.bind_eq_bind, Option.bind_eq_some_iff, Prod.exists] at e
  obtain ⟨p, e1, ea, x, ex, t, et, e⟩ := e
  refine ⟨env, F, O, p, e1, er, gd, ea, fun vx H1 F1 Ox1 Oe1 s1 rx er1 => ?_⟩
  obtain ⟨A, qx, _⟩ := rx.get er1 ex
  refine ⟨t, truth_ok et qx, ?_⟩
  cases t with
  | true =>
    rw [if_pos rfl] at e ⊢
    exact ⟨e1, F1, Oe1, z, env', er1, s1.goodE, e, fun vy H2 F2 Ox2 Oe2 s2 ry er2 => q vy H2 F2 Ox2 Oe2 ((s1.step s2).drop fun b z => .inr z) ry er2⟩
  | false =>
    rw [if_neg Bool.false_ne_true] at e ⊢
    cases e
    exact q vx H1 F1 Ox1 Oe1 s1 rx er1
theorem j_or {rest : List Expr} (ha : J g N sc C a ma) (hb : J g N sc C (.BoolOp .Or (b :: rest) pos) mb) : J g N sc C (.BoolOp .Or (a :: b :: rest) pos) (.or ma mb) := fun X c => by
  refine PE.imp (pe_orT (ha X c) (hb X c)) fun σ H Q h => ?_
  obtain ⟨env, F, O, z, env', er, gd, e, q⟩ := h
  simp only [op, Option.bind_eq_bind, Option.bind_eq_some_iff, Prod.exists] at e
  obtain ⟨p, e1, ea, x, ex, t, et, e⟩ := e
  refine ⟨env, F, O, p, e1, er, gd, ea, fun vx H1 F1 Ox1 Oe1 s1 rx er1 => ?_⟩
  obtain ⟨A, qx, _⟩ := rx.get er1 ex
  refine ⟨t, truth_ok et qx, ?_⟩
  cases t with
  | false =>
    rw [if_neg Bool.false_ne_true] at e ⊢
    exact ⟨e1, F1, Oe1, z, env', er1, s1.goodE, e, fun vy H2 F2 Ox2 Oe2 s2 ry er2 => q vy H2 F2 Ox2 Oe2 ((s1.step s2).drop fun b z => .inr z) ry er2⟩
  | true =>
    rw [if_pos rfl] at e ⊢
    cases e
    exact q vx H1 F1 Ox1 Oe1 s1 rx er1
theorem j_not (ha : J g N sc C a ma) : J g N sc C (.UnaryOp .Not a pos) (.not ma) := fun X c => by
  refine PE.imp (pe_notT (ha X c)) fun σ H Q h => ?_
  obtain ⟨env, F, O, z, env', er, gd, e, q⟩ := h
  simp only [op, Option.bind_eq_bind, Option.bind_eq_some_iff, Prod.exists] at e
  obtain ⟨p, e1, ea, x, ex, t, et, e⟩ := e
  cases e
  refine ⟨env, F, O, p, env', er, gd, ea, fun vx H1 F1 Ox1 Oe1 s1 rx er1 => ?_⟩
  obtain ⟨A, qx, _⟩ := rx.get er1 ex
  exact ⟨t, truth_ok et qx, TG.end q s1 er1 Grow.refl (fun _ z => z.elim) (fun _ z => z.elim) (.of rep_bl)⟩
/-! tests -/
theorem TTst.val {K : PySem.W.Frag} {w : World} {σ : L2.St} {H : Hp} {Q : Bool → Hp → Prop} (h : TTst K w C ma σ H Q) : TOp K w C ma σ H fun x H' => ∃ k, TruV K x H' k ∧ Q k H' := by
  obtain ⟨env, F, O, z, env', er, gd, e, q⟩ := h
  simp only [tst, Option.bind_eq_bind, Option.bind_eq_some_iff, Prod.exists] at e
  obtain ⟨p, e1, ea, x, ex, t, et, e⟩ := e
  cases e
  refine ⟨env, F, O, p, env', er, gd, ea, fun vx H1 F1 Ox1 Oe1 s1 rx er1 => ?_⟩
  obtain ⟨A, qx, _⟩ := rx.get er1 ex
  exact ⟨z, truth_ok et qx, q z H1 F1 emp Oe1 s1.zero ⟨rfl, fun _ z => z⟩ er1⟩
theorem jt_val (ha : J g N sc C a ma) (he : ∀ (env : PySem.Env) whole, isTrue a env whole = (do let v ← whole; standAt a.pos; holding [v] (truthy v))) : JT g N sc C a ma := fun X c =>
  PT.imp (pt_truth (ha X c) (he X.env)) fun σ H Q h => h.val
theorem jt_cmp {o : COp} {opn : CmpOp} (ho : ∀ X : Cx, CtxOk g N sc C X → ∃ r, OpR X (compareOp opn) r ∧ ValSim2 X.K X.w r (fun x y => (cmpop o x y).map .bl)) (hm : behindInMarks opn b = false) (ha : J g N sc C a ma) (hb : J g N sc C b mb) : JT g N sc C (.Compare a [opn] [b] pos) (.cmp o ma mb) := fun X c => by
  obtain ⟨r, h1, h2⟩ := ho X c
  refine PT.imp (pt_cmpR h1 (ha X c) (hb X c) hm) fun σ H Q h => ?_
  obtain ⟨env, F, O, z, env', er, gd, e, q⟩ := h
  simp only [tst, op, Option.bind_eq_bind, Option.bind_eq_some_iff, Prod.exists] at e
  obtain ⟨p0, e0, ⟨p, e1, ea, p2, e2, eb, x, ex, y, ey, d, ed, e⟩, x0, ex0, t0, et0, ee⟩ := e
  cases e
  cases ee
  have hx0 : x0 = .bl d := (Option.some.inj ex0).symm
  subst hx0
  have ht : d = z := Option.some.inj et0
  subst ht
  refine ⟨env, F, O, p, e1, er, gd, ea, fun vx H1 F1 Ox1 Oe1 s1 rx er1 => ?_⟩
  refine ⟨e1, F1, Oe1, p2, env', er1, s1.goodE, eb, fun vy H2 F2 Ox2 Oe2 s2 ry er2 => ?_⟩
  obtain ⟨A, qx, _⟩ := (RO.past s1 s2 rx fun _ z => z).get er2 ex
  obtain ⟨B, qy, _⟩ := ry.get er2 ey
  refine h2 x y (.bl d) (by show (cmpop o x y).map D.bl = _; rw [ed]; rfl) H2 F2 vx vy A B _ qx qy fun v H' Od gr fr rv => ⟨d, rv.bl, ?_⟩
  exact q d H' F2 emp Oe2 ((s1.step s2).step (Hld.grow (Ox := emp) (s1.step s2).goodE gr (fun _ z => z.elim) (fun _ z => z.elim))).zero ⟨rfl, fun _ z => z⟩ (er2.grow gr)
theorem jt_of {K : PySem.W.Frag} {w : World} {H : Hp} {σ : L2.St} {Q : Bool → Hp → Prop} {m m' : ME} (h : TTst K w C m σ H Q) (e : ∀ env r, tst C m env = some r → tst C m' env = some r) : TTst K w C m' σ H Q :=
  let ⟨env, F, O, z, env', er, gd, k, q⟩ := h
  ⟨env, F, O, z, env', er, gd, e env _ k, q⟩
theorem jt_chain {o o' : COp} {opn opn' : CmpOp} (ho : ∀ X : Cx, CtxOk g N sc C X → ∃ r, OpR X (compareOp opn) r ∧ ValSim2 X.K X.w r (fun x y => (cmpop o x y).map .bl)) (ho' : ∀ X : Cx, CtxOk g N sc C X → ∃ r, OpR X (compareOp opn') r ∧ ValSim2 X.K X.w r (fun x y => (cmpop o' x y).map .bl))
    (hm : lastMarks [opn, opn'] [b, c] = false) (ha : J g N sc C a ma) (hb : J g N sc C b mb) (hc : J g N sc C c mc) : JT g N sc C (.Compare a [opn, opn'] [b, c] pos) (.chain o o' ma mb mc) := fun X cx => by
  obtain ⟨r, h1, h2⟩ := ho X cx
  obtain ⟨r', h1', h2'⟩ := ho' X cx
  refine PT.imp (pt_chain h1 h1' (ha X cx) (hb X cx) (hc X cx) hm) fun σ H Q h => ?_
  obtain ⟨env, F, O, z, env', er, gd, e, q⟩ := h
  simp only [tst, op, Option.bind_eq_bind, Option.bind_eq_some_iff, Prod.exists] at e
  obtain ⟨p0, e0, ⟨p, e1, ea, p2, e2, eb, x, ex, y, ey, d, ed, e⟩, x0, ex0, t0, et0, ee⟩ := e
  cases ee
  refine ⟨env, F, O, p, e1, er, gd, ea, fun vx H1 F1 Ox1 Oe1 s1 rx er1 => ?_⟩
  refine ⟨e1, F1, Oe1, p2, e2, er1, s1.goodE, eb, fun vy H2 F2 Ox2 Oe2 s2 ry er2 => ?_⟩
  obtain ⟨A, qx, _⟩ := (RO.past s1 s2 rx fun _ z => z).get er2 ex
  obtain ⟨B, qy, _⟩ := ry.get er2 ey
  refine h2 x y (.bl d) (by show (cmpop o x y).map D.bl = _; rw [ed]; rfl) H2 F2 vx vy A B _ qx qy fun v H' Od gr fr rv => ⟨d, rv.bl, ?_⟩
  have s2' := (s1.step s2).step (Hld.grow (Ox := emp) (s1.step s2).goodE gr (fun _ z => z.elim) (fun _ z => z.elim))
  have er2' := er2.grow gr
  cases d with
  | false =>
    rw [if_neg Bool.false_ne_true] at e ⊢
    cases e
    have hx0 : x0 = .bl false := (Option.some.inj ex0).symm
    subst hx0
    have ht : false = z := Option.some.inj et0
    subst ht
    exact ⟨false, rfl, q false H' F2 emp Oe2 s2'.zero ⟨rfl, fun _ z => z⟩ er2'⟩
  | true =>
    rw [if_pos rfl] at e ⊢
    simp only [Option.bind_eq_some_iff, Prod.exists] at e
    obtain ⟨p3, e3, ec, y', ey', z', ez, d', ed', e⟩ := e
    cases e
    have hx0 : x0 = .bl d' := (Option.some.inj ex0).symm
    subst hx0
    have ht : d' = z := Option.some.inj et0
    subst ht
    refine ⟨e2, F2, Oe2, p3, env', er2', s2'.goodE, ec, fun vz H3 F3 Ox3 Oe3 s3 rz er3 => ?_⟩
    have ry2 : RO X.K X.w H' F2 σ p2 vy Ox2 := by
      cases p2 with
      | val u => exact RepV.grow (d := u) ry gr
      | plc i => exact ry
    obtain ⟨B', qy', _⟩ := (RO.past s2' s3 ry2 fun b z => .inl (.inr z)).get er3 ey'
    obtain ⟨E, qz, _⟩ := rz.get er3 ez
    exact h2' y' z' (.bl d') (by show (cmpop o' y' z').map D.bl = _; rw [ed']; rfl) H3 F3 vy vz B' E _ qy' qz fun v3 H4 Od4 gr4 fr4 rv4 => ⟨d', rv4.bl, q d' H4 F3 emp Oe3 ((s2'.step s3).step (Hld.grow (Ox := emp) (s2'.step s3).goodE gr4 (fun _ z => z.elim) (fun _ z => z.elim))).zero ⟨rfl, fun _ z => z⟩ (er3.grow gr4)⟩
theorem jt_not (ha : JT g N sc C a ma) : JT g N sc C (.UnaryOp .Not a pos) (.not ma) := fun X c => by
  refine PT.imp (pt_not (ha X c)) fun σ H Q h => ?_
  obtain ⟨env, F, O, z, env', er, gd, e, q⟩ := h
  simp only [tst, op, Option.bind_eq_bind, Option.bind_eq_some_iff, Prod.exists] at e
  obtain ⟨p0, e0, ⟨p, e1, ea, x, ex, t, et, e⟩, x0, ex0, t0, et0, ee⟩ := e
  cases e
  cases ee
  have hx0 : x0 = .bl (!t) := (Option.some.inj ex0).symm
  subst hx0
  have ht : (!t) = z := Option.some.inj et0
  subst ht
  refine ⟨env, F, O, t, env', er, gd, by simp [tst, ea, ex, et], fun y H1 F1 Ox1 Oe1 s1 rx er1 => ?_⟩
  obtain ⟨rfl, n⟩ := rx
  exact q (!t) H1 F1 Ox1 Oe1 s1 ⟨rfl, n⟩ er1
def JW (g : GI) (N : List Str) (sc : Scope) (C : Ctx) (e : Expr) (m : ME) : Prop := ∀ X : Cx, CtxOk g N sc C X → PW X e (TTst X.K X.w C m)
theorem jw_one_and (ha : JT g N sc C a ma) : JW g N sc C (.BoolOp .And [a] pos) ma := fun X c => pw_and1 (ha X c)
theorem jw_one_or (ha : JT g N sc C a ma) : JW g N sc C (.BoolOp .Or [a] pos) ma := fun X c => pw_or1 (ha X c)
theorem PW.imp {X : Cx} {e : Expr} {t t' : TT} (h : PW X e t) (i : ∀ σ H Q, t' σ H Q → t σ H Q) : PW X e t' := ⟨fun wh pins s σ H Q I q => h.run wh pins s σ H Q I (i σ H Q q)⟩
theorem jw_and {rest : List Expr} (ha : JT g N sc C a ma) (hb : JW g N sc C (.BoolOp .And (b :: rest) pos) mb) : JW g N sc C (.BoolOp .And (a :: b :: rest) pos) (.and ma mb) := fun X c => by
  refine PW.imp (pw_and (ha X c) (hb X c)) fun σ H Q h => ?_
  obtain ⟨env, F, O, z, env', er, gd, e, q⟩ := h
  simp only [tst, op, Option.bind_eq_bind, Option.bind_eq_some_iff, Prod.exists] at e
  obtain ⟨p0, e0, ⟨p, e1, ea, x, ex, t, et, e⟩, x0, ex0, t0, et0, ee⟩ := e
  cases ee
  refine ⟨env, F, O, t, e1, er, gd, by simp [tst, ea, ex, et], fun y H1 F1 Ox1 Oe1 s1 rx er1 => ?_⟩
  obtain ⟨rfl, n⟩ := rx
  cases t with
  | true =>
    rw [if_pos rfl] at e ⊢
    exact ⟨e1, F1, Oe1, z, env', er1, s1.goodE, by simp [tst, e, ex0, et0], fun vy H2 F2 Ox2 Oe2 s2 ry er2 => q vy H2 F2 Ox2 Oe2 ((s1.step s2).drop fun b z => .inr z) ry er2⟩
  | false =>
    rw [if_neg Bool.false_ne_true] at e ⊢
    cases e
    rw [ex] at ex0
    cases ex0
    rw [et] at et0
    cases et0
    exact q false H1 F1 Ox1 Oe1 s1 ⟨rfl, n⟩ er1
theorem jw_or {rest : List Expr} (ha : JT g N sc C a ma) (hb : JW g N sc C (.BoolOp .Or (b :: rest) pos) mb) : JW g N sc C (.BoolOp .Or (a :: b :: rest) pos) (.or ma mb) := fun X c => by
  refine PW.imp (pw_or (ha X c) (hb X c)) fun σ H Q h => ?_
  obtain ⟨env, F, O, z, env', er, gd, e, q⟩ := h
  simp only [tst, op, Option.bind_eq_bind, Option.bind_eq_some_iff, Prod.exists] at e
  obtain ⟨p0, e0, ⟨p, e1, ea, x, ex, t, et, e⟩, x0, ex0, t0, et0, ee⟩ := e
  cases ee
  refine ⟨env, F, O, t, e1, er, gd, by simp [tst, ea, ex, et], fun y H1 F1 Ox1 Oe1 s1 rx er1 => ?_⟩
  obtain ⟨rfl, n⟩ := rx
  cases t with
  | false =>
    rw [if_neg Bool.false_ne_true] at e ⊢
    exact ⟨e1, F1, Oe1, z, env', er1, s1.goodE, by simp [tst, e, ex0, et0], fun vy H2 F2 Ox2 Oe2 s2 ry er2 => q vy H2 F2 Ox2 Oe2 ((s1.step s2).drop fun b z => .inr z) ry er2⟩
  | true =>
    rw [if_pos rfl] at e ⊢
    cases e
    rw [ex] at ex0
    cases ex0
    rw [et] at et0
    cases et0
    exact q true H1 F1 Ox1 Oe1 s1 ⟨rfl, n⟩ er1
theorem JW.t (h : JW g N sc C a ma) : JT g N sc C a ma := fun X c => (h X c).pt
theorem j_ite (hc : JT g N sc C c mc) (ha : J g N sc C a ma) (hb : J g N sc C b mb) : J g N sc C (.IfExp c a b pos) (.ite mc ma mb) := fun X cx => by
  refine PE.imp (pe_ifExp (hc X cx) (ha X cx) (hb X cx)) fun σ H Q h => ?_
  obtain ⟨env, F, O, z, env', er, gd, e, q⟩ := h
  simp only [op, Option.bind_eq_bind, Option.bind_eq_some_iff, Prod.exists] at e
  obtain ⟨p, e1, ea, x, ex, t, et, e⟩ := e
  refine ⟨env, F, O, t, e1, er, gd, by simp [tst, ea, ex, et], fun y H1 F1 Ox1 Oe1 s1 rx er1 => ?_⟩
  obtain ⟨rfl, n⟩ := rx
  have fin : ∀ m, op C m e1 = some (z, env') → TOp X.K X.w C m σ H1 Q := fun m hm => ⟨e1, F1, Oe1, z, env', er1, s1.goodE, hm, fun vy H2 F2 Ox2 Oe2 s2 ry er2 => q vy H2 F2 Ox2 Oe2 ((s1.step s2).drop fun b z => .inr z) ry er2⟩
  cases t with
  | true =>
    rw [if_pos rfl] at e ⊢
    exact fin _ e
  | false =>
    rw [if_neg Bool.false_ne_true] at e ⊢
    exact fin _ e
/-! arguments -/
theorem ja_nil : JA g N sc C [] .nil := fun X c => PA.imp pa_nil fun σ H Q h => by
  obtain ⟨env, F, O, z, env', er, gd, e, q⟩ := h
  unfold ops at e
  cases e
  exact q [] H F emp O (Hld.refl gd) (fun _ z => z) er
theorem jv_nil : JV g N sc C [] .nil := fun X c => PA.imp pa_nil fun σ H Q h => by
  obtain ⟨env, F, O, z, env', er, gd, e, q⟩ := h
  unfold opv at e
  cases e
  exact q [] H F emp O (Hld.refl gd) (fun _ z => z) er
theorem ja_cons (hs : ∀ env : PySem.Env, starEach (a :: es) env = (false, eval a env) :: starEach es env) (ha : J g N sc C a ma) (hb : JA g N sc C es ms) : JA g N sc C (a :: es) (.cons ma ms) := fun X c => by
  refine PA.imp (pa_cons (ha X c) (hb X c) (hs _)) fun σ H Q h => ?_
  obtain ⟨env, F, O, z, env', er, gd, e, q⟩ := h
  simp only [ops, Option.bind_eq_bind, Option.bind_eq_some_iff, Prod.exists] at e
  obtain ⟨p, e1, ea, ps, e2, eb, e⟩ := e
  cases e
  refine ⟨env, F, O, p, e1, er, gd, ea, fun vx H1 F1 Ox1 Oe1 s1 rx er1 => ?_⟩
  refine ⟨e1, F1, Oe1, ps, env', er1, s1.goodE, eb, fun vy H2 F2 Ox2 Oe2 s2 ry er2 => ?_⟩
  exact q (vx :: vy) H2 F2 (uni Ox1 Ox2) Oe2 (s1.step s2) ⟨Ox1, Ox2, RO.past s1 s2 rx fun _ z => z, ry, fun b x y => s1.far s2 b x (.inl y), fun _ => .rfl⟩ er2
theorem jv_cons (hs : ∀ env : PySem.Env, starEach (a :: es) env = (false, eval a env) :: starEach es env) (ha : J g N sc C a ma) (hb : JV g N sc C es ms) : JV g N sc C (a :: es) (.cons ma ms) := fun X c => by
  refine PA.imp (pa_cons (ha.ev c) (hb X c) (hs _)) fun σ H Q h => ?_
  obtain ⟨env, F, O, z, env', er, gd, e, q⟩ := h
  simp only [opv, Option.bind_eq_bind, Option.bind_eq_some_iff, Prod.exists] at e
  obtain ⟨p, e1, ea, d, e1', ed, ps, e2, eb, e⟩ := e
  cases e
  refine ⟨env, F, O, d, e1', er, gd, by simp [ev, ea, ed], fun vx H1 F1 Ox1 Oe1 s1 rx er1 => ?_⟩
  refine ⟨e1', F1, Oe1, ps, env', er1, s1.goodE, eb, fun vy H2 F2 Ox2 Oe2 s2 ry er2 => ?_⟩
  exact q (vx :: vy) H2 F2 (uni Ox1 Ox2) Oe2 (s1.step s2) ⟨Ox1, Ox2, s1.past (d := d) s2 rx fun _ z => z, ry, fun b x y => s1.far s2 b x (.inl y), fun _ => .rfl⟩ er2
end
end Mp

end
section
set_option Elab.async false
set_option linter.all false
/-! Mp6: displays, subscripts, slices, calls of the program's own defs. -/
namespace Mp
open PySem PySem.Spec PyProof.Rows L2

theorem small_line {n : Nat} (h : small n = true) : n ≤ sizeLine := of_decide_eq_true h

section
variable {K : PySem.W.Frag} {w : World} {H H' H1 H2 : Hp} {F F' F1 F2 O O' O1 O2 Ox Oe Ox1 Oe1 Ox2 Oe2 : AS} {d : D} {v : V} {σ : L2.St} {env env' env1 env2 : Env} {p : Opd}
theorem Stab.more (h : ∀ b, F b → F' b) : Stab H F H F' := ⟨fun _ _ e _ => e, h⟩
theorem RepV.frz (r : RepV K w H F d v Ox) : Rep K w H (fun b => F b ∨ Ox b) (frz d) v := by
  rcases r.cases with ⟨xs, a, vs, rfl, rfl, h, q, o⟩ | ⟨q, o, n⟩
  · have k : Rep K w H (fun b => F b ∨ Ox b) (.lst false xs) (.ref a) := by
      unfold Rep
      exact ⟨a, vs, rfl, .inl ⟨.inr ((o a).mpr rfl), .of h⟩, Reps.stab (.more fun _ => .inl) xs vs q⟩
    exact k
  · have fd : Mp.frz d = d := by
      cases d with
      | lst b xs =>
        cases b with
        | true => cases n
        | false => rfl
      | _ => rfl
    rw [fd]
    exact Rep.stab (.more fun _ => .inl) d v q
theorem RL.frz : ∀ {ds : List D} {vs : List V} {Ox : AS}, RL (RV K w) H F σ ds vs Ox → Reps K w H (fun b => F b ∨ Ox b) (ds.map frz) vs
  | [], [], _, _ => .nil
  | [], _ :: _, _, r => False.elim r
  | _ :: _, [], _, r => False.elim r
  | d :: ds, v :: vs, Ox, ⟨A, B, h1, h2, _, h4⟩ => .cons (Rep.stab (.more fun b q => q.elim .inl fun z => .inr ((h4 b).mpr (.inl z))) _ _ (RepV.frz h1)) (Reps.stab (.more fun b q => q.elim .inl fun z => .inr ((h4 b).mpr (.inr z))) _ _ (RL.frz h2))
theorem EnvR.more (h : EnvR K w H F env σ O) (s : ∀ b, F b → F' b) : EnvR K w H F' env σ O := by
  obtain ⟨l, f, h1, h2, h3, h4⟩ := h
  refine ⟨l, f, fun i d e => ?_, h2, h3, h4⟩
  obtain ⟨v, hv, r⟩ := h1 i d e
  refine ⟨v, hv, ?_⟩
  rcases r.cases with ⟨xs, a, vs, rfl, rfl, hh, q, o⟩ | ⟨q, o, _⟩
  · unfold RepV
    exact ⟨a, vs, rfl, hh, Reps.stab (.more s) _ _ q, o⟩
  · exact .of' (Rep.stab (.more s) _ _ q) o
/-- what was held is shared from now on -/
theorem Hld.share (h : Hld H F O H1 F1 Ox Oe) : Hld H F O H1 (fun b => F1 b ∨ Ox b) emp Oe where
  ext := ⟨h.ext.keep, h.ext.dom, fun b q => .inl (h.ext.sub b q), fun b q => q.elim (h.ext.new b) fun z => .inr (h.ext.own b (.inl z)), fun b q => q.elim (fun z => z.elim) fun z => h.ext.own b (.inr z)⟩
  dj := fun _ z _ => z
  good := ⟨fun b q => q.elim (h.good.fr b) fun z => by
      obtain ⟨xs, e⟩ := h.good.ls b (.inl z)
      rw [e]
      exact Option.some_ne_none _, fun b q => q.elim (fun z => z.elim) fun z y => y.elim (h.good.dj b (.inr z)) fun x => h.dj b x z, fun b q => q.elim (fun z => z.elim) fun z => h.good.ls b (.inr z)⟩
end

section
variable {g : GI} {N : List Str} {sc : Scope} {C : Ctx} {a b c : Expr} {ma mb mc ml mh : ME} {pos : Pos} {es : List Expr} {ms : MEs}
theorem j_tup {k : Nat} (h : JV g N sc C es ms) : J g N sc C (.Tuple es k pos) (.tup ms) := fun X c => by
  refine PE.imp (pe_tup (h X c)) fun σ H Q h => ?_
  obtain ⟨env, F, O, z, env', er, gd, e, q⟩ := h
  simp only [op, Option.bind_eq_bind, Option.bind_eq_some_iff, Prod.exists] at e
  obtain ⟨ds, e1, ea, e⟩ := e
  by_cases hs : small ds.length = true
  · rw [if_pos hs] at e
    cases e
    refine ⟨env, F, O, ds, env', er, gd, ea, fun vs H1 F1 Ox1 Oe1 s1 rx er1 => ?_⟩
    refine ⟨by rw [← RL.length rx]; exact small_line hs, fun p np => ?_⟩
    have gr : Grow H1 (upd H1 p (.tup vs)) := Grow.upd np
    refine TG.end q s1.share (er1.more fun _ => .inl) gr (Ox := emp) (fun _ z => z.elim) (fun _ z => z.elim) ?_
    exact RepV.of (rep_tup (.of upd_same) (Reps.stab gr.stab _ _ (RL.frz rx)))
  · rw [if_neg hs] at e
    cases e
theorem j_lst (h : JV g N sc C es ms) : J g N sc C (.List es pos) (.lst ms) := fun X c => by
  refine PE.imp (pe_lst (h X c)) fun σ H Q h => ?_
  obtain ⟨env, F, O, z, env', er, gd, e, q⟩ := h
  simp only [op, Option.bind_eq_bind, Option.bind_eq_some_iff, Prod.exists] at e
  obtain ⟨ds, e1, ea, e⟩ := e
  by_cases hs : small ds.length = true
  · rw [if_pos hs] at e
    cases e
    refine ⟨env, F, O, ds, env', er, gd, ea, fun vs H1 F1 Ox1 Oe1 s1 rx er1 => ?_⟩
    refine ⟨by rw [← RL.length rx]; exact small_line hs, fun p np => ?_⟩
    have gr : Grow H1 (upd H1 p (.lst vs)) := Grow.upd np
    have r : RepV X.K X.w (upd H1 p (.lst vs)) (fun b => F1 b ∨ Ox1 b) (.lst true (ds.map frz)) (.ref p) (fun b => b = p) := RepV.own upd_same (Reps.stab gr.stab _ _ (RL.frz rx))
    exact TG.end q s1.share (er1.more fun _ => .inl) gr (fun b z => by rw [z]; exact np) r.ls r
  · rw [if_neg hs] at e
    cases e
theorem j_ix (ho : ∀ X : Cx, CtxOk g N sc C X → ∃ r, IxR X r ∧ ValSim2 X.K X.w r ixD) (hp : PlainIx b) (ha : J g N sc C a ma) (hb : J g N sc C b mb) : J g N sc C (.Subscript a b pos) (.ix ma mb) := fun X c => by
  obtain ⟨r, h1, h2⟩ := ho X c
  refine PE.imp (pe_ix h1 (ha X c) (hb X c) hp) fun σ H Q h => ?_
  obtain ⟨env, F, O, z, env', er, gd, e, q⟩ := h
  simp only [op, Option.bind_eq_bind, Option.bind_eq_some_iff, Prod.exists] at e
  obtain ⟨p, e1, ea, p2, e2, eb, x, ex, y, ey, d, ed, e⟩ := e
  cases e
  refine ⟨env, F, O, p, e1, er, gd, ea, fun vx H1 F1 Ox1 Oe1 s1 rx er1 => ?_⟩
  refine ⟨e1, F1, Oe1, p2, env', er1, s1.goodE, eb, fun vy H2 F2 Ox2 Oe2 s2 ry er2 => ?_⟩
  obtain ⟨A, qx, _⟩ := (RO.past s1 s2 rx fun _ z => z).get er2 ex
  obtain ⟨B, qy, _⟩ := ry.get er2 ey
  exact h2 x y d ed H2 F2 vx vy A B Q qx qy fun v H' Od gr fr rv => TG.end q (s1.step s2) er2 gr fr rv.ls rv
def JP (g : GI) (N : List Str) (sc : Scope) (C : Ctx) (e : Option Expr) (m : ME) : Prop := ∀ X : Cx, CtxOk g N sc C X → PO X e (TG X.K X.w RN (opt C m))
theorem PO.imp {X : Cx} {e : Option Expr} {t t' : L2.TO} (h : PO X e t) (i : ∀ σ H Q, t' σ H Q → t σ H Q) : PO X e t' := ⟨fun pins s σ H Q I q => h.run pins s σ H Q I (i σ H Q q)⟩
theorem jp_none : JP g N sc C none .no := fun X c => PO.imp po_none fun σ H Q h => by
  obtain ⟨env, F, O, z, env', er, gd, e, q⟩ := h
  unfold opt at e
  cases e
  exact q none H F emp O (Hld.refl gd) ⟨rfl, fun _ z => z⟩ er
theorem opt_ne {m : ME} (h : m ≠ .no) (env : Env) : opt C m env = (do
    let (p, e1) ← op C m env
    match p.get e1 with
    | some (.int i) => some (some i, e1)
    | _ => none) := by
  unfold opt
  split
  · exact absurd rfl h
  · rfl
theorem jp_some (hn : ma ≠ .no) (ha : J g N sc C a ma) : JP g N sc C (some a) ma := fun X c => PO.imp (po_some (ha X c)) fun σ H Q h => by
  obtain ⟨env, F, O, z, env', er, gd, e, q⟩ := h
  rw [opt_ne hn] at e
  simp only [Option.bind_eq_bind, Option.bind_eq_some_iff, Prod.exists] at e
  obtain ⟨p, e1, ea, e⟩ := e
  split at e
  · rename_i i ei
    cases e
    refine ⟨env, F, O, p, env', er, gd, ea, fun vx H1 F1 Ox1 Oe1 s1 rx er1 => ?_⟩
    obtain ⟨A, qx, _⟩ := rx.get er1 ei
    exact ⟨i, qx.int, q (some i) H1 F1 emp Oe1 s1.zero ⟨rfl, fun _ z => z⟩ er1⟩
  · cases e
def ValSimS (K : PySem.W.Frag) (w : World) (r : V → Option Int → Option Int → Hp → VK → Prop) : Prop := ∀ lo hi x d, sliceD lo hi x = some d → ∀ (H : Hp) (F : AS) (vx : V) (Ox : AS) (Q : VK), RepV K w H F x vx Ox →
  (∀ v H' Od, Grow H H' → (∀ b, Od b → H b = none) → RepV K w H' F d v Od → Q v H') → r vx lo hi H Q
theorem j_slice {lo hi : Option Expr} {p2 : Pos} (ho : ∀ X : Cx, CtxOk g N sc C X → ∃ r, SlR X r ∧ ValSimS X.K X.w r) (ha : J g N sc C a ma) (hl : JP g N sc C lo ml) (hh : JP g N sc C hi mh) : J g N sc C (.Subscript a (.Slice lo hi none p2) pos) (.slice ma ml mh) := fun X c => by
  obtain ⟨r, h1, h2⟩ := ho X c
  refine PE.imp (pe_slice h1 (ha X c) (hl X c) (hh X c)) fun σ H Q h => ?_
  obtain ⟨env, F, O, z, env', er, gd, e, q⟩ := h
  simp only [op, Option.bind_eq_bind, Option.bind_eq_some_iff, Prod.exists] at e
  obtain ⟨p, e1, ea, l, e2, el, u, e3, eu, x, ex, d, ed, e⟩ := e
  cases e
  refine ⟨env, F, O, p, e1, er, gd, ea, fun vx H1 F1 Ox1 Oe1 s1 rx er1 => ?_⟩
  refine ⟨e1, F1, Oe1, l, e2, er1, s1.goodE, el, fun vl H2 F2 Ox2 Oe2 s2 ry er2 => ?_⟩
  obtain ⟨rfl, n2⟩ := ry
  refine ⟨e2, F2, Oe2, u, env', er2, s2.goodE, eu, fun vu H3 F3 Ox3 Oe3 s3 rz er3 => ?_⟩
  obtain ⟨rfl, n3⟩ := rz
  have rx2 := RO.past s1 s2 rx fun _ z => z
  obtain ⟨A, qx, _⟩ := (RO.past (s1.step s2) s3 rx2 fun b z => .inl z).get er3 ex
  exact h2 l u x d ed H3 F3 vx A Q qx fun v H' Od gr fr rv => TG.end q ((s1.step s2).step s3) er3 gr fr rv.ls rv
end

/-! ### values of subscripts -/
section
variable {K : PySem.W.Frag} {w : World} {H : Hp} {F : AS}
theorem atI_of {xs : List D} {vs : List V} {i : Int} {d : D} (h : Reps K w H F xs vs) (e : at? xs i = some d) : ∃ v, atI vs i = some v ∧ Rep K w H F d v := by
  unfold at? at e
  unfold atI
  have hl := h.length
  by_cases h0 : 0 ≤ i
  · rw [if_pos h0] at e
    obtain ⟨v, hv, r⟩ := h.get e
    have hi : i.toNat < vs.length := (List.getElem?_eq_some_iff.mp hv).1
    refine ⟨v, ?_, r⟩
    unfold ixN
    rw [if_pos h0, if_pos (show i < (vs.length : Int) by omega)]
    exact hv
  · rw [if_neg h0] at e
    by_cases h1 : -(xs.length : Int) ≤ i
    · rw [if_pos h1] at e
      obtain ⟨v, hv, r⟩ := h.get e
      refine ⟨v, ?_, r⟩
      unfold ixN
      rw [if_neg h0, if_pos (show -(vs.length : Int) ≤ i by omega)]
      rw [hl] at hv
      exact hv
    · rw [if_neg h1] at e
      cases e
theorem atI_same {α : Type} {xs : List α} {i : Int} {d : α} (e : at? xs i = some d) : atI xs i = some d := by
  unfold at? at e
  unfold atI ixN
  by_cases h0 : 0 ≤ i
  · rw [if_pos h0] at e ⊢
    have hi : i.toNat < xs.length := (List.getElem?_eq_some_iff.mp e).1
    rw [if_pos (show i < (xs.length : Int) by omega)]
    exact e
  · rw [if_neg h0] at e ⊢
    by_cases h1 : -(xs.length : Int) ≤ i
    · rw [if_pos h1] at e ⊢
      exact e
    · rw [if_neg h1] at e
      cases e
theorem Repd.get {a : Addr} : ∀ {kvs : List (Txt × D)} {k : Txt} {d : D}, Repd K w H F a kvs → kvs.lookup k = some d → ∃ u v, PySem.W.nsIn K a (st k) = some (some u) ∧ RelV v u ∧ Rep K w H F d v
  | [], _, _, _, e => by cases e
  | (k', d') :: r, k, d, h, e => by
    unfold Repd at h
    rw [List.lookup_cons] at e
    cases q : (k == k') with
    | true =>
      rw [q] at e
      have e1 : d' = d := Option.some.inj e
      have e2 : k = k' := eq_of_beq q
      subst e1 e2
      exact h.1
    | false =>
      rw [q] at e
      exact Repd.get h.2 e
theorem RepV.dct {kvs : List (Txt × D)} {v : V} {O : AS} (r : RepV K w H F (.dct kvs) v O) : ∃ a, v = .ref a ∧ KDs K w a (kvs.map (·.1)) ∧ Repd K w H F a kvs := by
  have q := r.rep rfl
  unfold Rep at q
  exact q
theorem ixD_sim : ValSim2 K w (fun x y H Q => rIx K x y H Q ∨ rIxD K w x y H Q) ixD := by
  intro x y d e H F vx vy Ox Oy Q rx ry k
  have fin : ∀ {d' : D} {v : V}, d' = d → Rep K w H F d' v → Q v H := fun e r => by
    subst e
    exact k _ H emp Grow.refl (fun _ z => z.elim) (.of r)
  cases x with
  | tup xs =>
    cases y with
    | int i =>
      obtain ⟨a, vs, rfl, h, q⟩ := rx.tup
      obtain ⟨v, hv, r⟩ := atI_of q e
      exact .inl (.inr (.inl ⟨a, vs, i, v, rfl, ry.int, h, hv, fin rfl r⟩))
    | _ => cases e
  | lst o xs =>
    cases y with
    | int i =>
      obtain ⟨a, vs, rfl, h, q⟩ := rx.lst
      obtain ⟨v, hv, r⟩ := atI_of q e
      exact .inl (.inl ⟨a, vs, i, v, rfl, ry.int, h, hv, fin rfl r⟩)
    | _ => cases e
  | str t =>
    cases y with
    | int i =>
      have e' : (if small t.length = true then (at? t i).map (fun c => D.str [c]) else none) = some d := e
      by_cases hs : small t.length = true
      · rw [if_pos hs] at e'
        obtain ⟨c, hc, e2⟩ := Option.map_eq_some_iff.mp e'
        refine .inl (.inr (.inr ⟨st t, i, c, rx.str, ry.int, by rw [st_length]; exact small_line hs, atI_same hc, fin e2 rep_str⟩))
      · rw [if_neg hs] at e'
        cases e'
    | _ => cases e
  | dct kvs =>
    cases y with
    | str t =>
      obtain ⟨a, rfl, ⟨es, n, kd, _⟩, r⟩ := rx.dct
      obtain ⟨u, v, h1, h2, h3⟩ := r.get e
      exact .inr ⟨a, st t, v, rfl, ry.str, ⟨es, n, u, kd.at_, kd.lit, h1, h2⟩, fin rfl h3⟩
    | _ => cases e
  | _ => cases e
theorem ix_ok {X : Cx} : ∃ r, IxR X r ∧ ValSim2 X.K X.w r ixD := ⟨_, ix_seq.or ix_kdict, ixD_sim⟩
theorem sIx_eq (n d : Nat) (o : Option Int) : Mp.sIx n d o = HT.sIx n d o := by cases o <;> rfl
theorem cut_reps {xs : List D} {vs : List V} {lo hi : Option Int} (h : Reps K w H F xs vs) : Reps K w H F (cut xs lo hi) (cutV vs lo hi) := by
  unfold cut cutV
  rw [← h.length, sIx_eq, sIx_eq]
  exact Reps.take _ (Reps.drop _ h)
theorem cut_whole {α : Type} {xs : List α} {lo hi : Option Int} (h : HT.sIx xs.length 0 lo = 0 ∧ HT.sIx xs.length xs.length hi = xs.length) : cut xs lo hi = xs := by
  unfold cut
  rw [sIx_eq, sIx_eq, h.1, h.2]
  simp
theorem cutS_eq (t : Txt) (lo hi : Option Int) : cutS (st t) lo hi = st (cut t lo hi) := by
  unfold cutS cut
  rw [st_length, sIx_eq, sIx_eq]
  rfl
theorem sliceD_sim : ValSimS K w (fun x lo hi H Q => rSlA K x lo hi H Q ∨ (rSlL K x lo hi H Q ∨ rSlS x lo hi H Q)) := by
  intro lo hi x d e H F vx Ox Q rx k
  cases x with
  | tup xs =>
    have e' : D.tup (cut xs lo hi) = d := Option.some.inj e
    subst e'
    obtain ⟨a, vs, rfl, h, q⟩ := rx.tup
    refine .inl ⟨a, vs, rfl, h, fun hw => ?_, fun hw p np => ?_⟩
    · rw [← q.length] at hw
      have k2 := k (.ref a) H emp Grow.refl (fun _ z => z.elim)
      rw [cut_whole hw] at k2
      exact k2 (.of (rep_tup h q))
    · exact k (.ref p) _ emp (Grow.upd np) (fun _ z => z.elim) (.of (rep_tup (.of upd_same) (Reps.stab (Grow.upd np).stab _ _ (cut_reps q))))
  | lst o xs =>
    have e' : D.lst true (cut xs lo hi) = d := Option.some.inj e
    subst e'
    obtain ⟨a, vs, rfl, h, q⟩ := rx.lst
    refine .inr (.inl ⟨a, vs, rfl, h, fun p np => ?_⟩)
    exact k (.ref p) _ _ (Grow.upd np) (fun b z => by rw [z]; exact np) (RepV.own upd_same (Reps.stab (Grow.upd np).stab _ _ (cut_reps q)))
  | str t =>
    have e' : (if small t.length = true then some (D.str (cut t lo hi)) else none) = some d := e
    by_cases hs : small t.length = true
    · rw [if_pos hs] at e'
      cases e'
      refine .inr (.inr ⟨st t, rx.str, by rw [st_length]; exact small_line hs, ?_⟩)
      rw [cutS_eq]
      exact k _ H emp Grow.refl (fun _ z => z.elim) (.of rep_str)
    · rw [if_neg hs] at e'
      cases e'
  | _ => cases e
theorem slice_ok {X : Cx} : ∃ r, SlR X r ∧ ValSimS X.K X.w r := ⟨_, sl_tupA.or (sl_list.or sl_str), sliceD_sim⟩
end
end Mp

end
section
set_option Elab.async false
set_option linter.all false
/-! Mp7: a call of an own def. -/
namespace Mp
open PySem PySem.Spec PyProof.Rows L2

section
variable {K : PySem.W.Frag} {w : World} {H H' H1 H2 : Hp} {F F' F1 F2 O O' O1 O2 Ox Oe Ox1 Oe1 Ox2 Oe2 : AS} {d : D} {v : V} {σ : L2.St} {env env' env1 env2 : Env}
/-- the slots of one's own among the operands -/
def plcs (env : Env) : List Opd → List Nat
  | [] => []
  | .plc i :: r => (match gt env i with
    | some d => if isOwn d then [i] else []
    | none => []) ++ plcs env r
  | .val _ :: r => plcs env r
theorem plcs_plc {i : Nat} {r : List Opd} : plcs env (.plc i :: r) = (match gt env i with
    | some d => if isOwn d then [i] else []
    | none => []) ++ plcs env r := rfl
theorem mem_plcs {i : Nat} : ∀ {ps : List Opd}, i ∈ plcs env ps → ∃ d, gt env i = some d ∧ isOwn d = true ∧ (ps.any (isPlc i)) = true
  | [], h => by cases h
  | .val x :: r, h => by
    obtain ⟨d, h1, h2, h3⟩ := mem_plcs (ps := r) h
    exact ⟨d, h1, h2, by rw [List.any_cons, h3, Bool.or_true]⟩
  | .plc j :: r, h => by
    rw [plcs_plc] at h
    rcases List.mem_append.mp h with h | h
    · split at h
      · rename_i d hd
        by_cases q : isOwn d = true
        · rw [if_pos q] at h
          have e : i = j := by simpa using h
          subst e
          exact ⟨d, hd, q, by simp [isPlc]⟩
        · rw [if_neg q] at h
          cases h
      · cases h
    · obtain ⟨d, h1, h2, h3⟩ := mem_plcs (ps := r) h
      exact ⟨d, h1, h2, by rw [List.any_cons, h3, Bool.or_true]⟩
/-- the arguments as the callee has them -/
theorem args_of {f : Nat → AS} (h1 : ∀ i d, gt env i = some d → ∃ v, σ[i]? = some (some v) ∧ RepV K w H F d v (f i)) (h3 : ∀ i j, i ≠ j → Dj (f i) (f j)) (h4 : ∀ b, Oe b ↔ ∃ i, f i b) :
    ∀ (ps : List Opd) (vs : List V) (Ox : AS) (ds : List D), RL (RO K w) H F σ ps vs Ox → Dj Ox Oe → gets env ps = some ds → ownOnce env ps = true →
      RL (RV K w) H F [] ds vs (fun b => Ox b ∨ ∃ i, i ∈ plcs env ps ∧ f i b)
  | [], [], Ox, ds, r, _, e, _ => by
    have e' : ([] : List D) = ds := Option.some.inj e
    subst e'
    exact fun b z => z.elim (r b) fun ⟨i, hi, _⟩ => by cases hi
  | [], _ :: _, _, _, r, _, _, _ => False.elim r
  | _ :: _, [], _, _, r, _, _, _ => False.elim r
  | p :: ps, v :: vs, Ox, ds, ⟨A, B, a1, a2, a3, a4⟩, dj, e, ow => by
    unfold gets at e
    split at e
    · rename_i d ds' e1 e2
      have e' : d :: ds' = ds := Option.some.inj e
      subst e'
      have djB : Dj B Oe := fun b x y => dj b ((a4 b).mpr (.inr x)) y
      cases p with
      | val x =>
        have ow' : ownOnce env ps = true := ow
        have ih := args_of h1 h3 h4 ps vs B ds' a2 djB e2 ow'
        have ex : x = d := Option.some.inj e1
        subst ex
        refine ⟨A, _, a1, ih, fun b x y => ?_, fun b => ?_⟩
        · rcases y with y | ⟨i, _, y⟩
          · exact a3 b x y
          · exact dj b ((a4 b).mpr (.inl x)) ((h4 b).mpr ⟨i, y⟩)
        · show (Ox b ∨ ∃ i, i ∈ plcs env ps ∧ f i b) ↔ A b ∨ (B b ∨ ∃ i, i ∈ plcs env ps ∧ f i b)
          rw [a4]
          exact ⟨fun z => z.elim (fun z => z.elim .inl fun z => .inr (.inl z)) fun z => .inr (.inr z), fun z => z.elim (fun z => .inl (.inl z)) fun z => z.elim (fun z => .inl (.inr z)) .inr⟩
      | plc i =>
        have e1' : gt env i = some d := e1
        unfold ownOnce at ow
        rw [e1'] at ow
        obtain ⟨ow1, ow2⟩ := Bool.and_eq_true_iff.mp ow
        have ih := args_of h1 h3 h4 ps vs B ds' a2 djB e2 ow2
        obtain ⟨u, hu, ru⟩ := h1 i d e1'
        have a1' : σ[i]? = some (some v) := a1.1
        rw [a1'] at hu
        have eu : v = u := Option.some.inj (Option.some.inj hu)
        subst eu
        have nA : ∀ b, ¬ A b := a1.2
        refine ⟨f i, _, ru, ih, fun b x y => ?_, fun b => ?_⟩
        · rcases y with y | ⟨j, hj, y⟩
          · exact djB b y ((h4 b).mpr ⟨i, x⟩)
          · by_cases q : i = j
            · subst q
              obtain ⟨d2, g1, g2, g3⟩ := mem_plcs hj
              rw [e1'] at g1
              cases g1
              dsimp only at ow1
              rw [g2, g3] at ow1
              cases ow1
            · exact h3 i j q b x y
        · show Ox b ∨ (∃ j, j ∈ plcs env (.plc i :: ps) ∧ f j b) ↔ f i b ∨ (B b ∨ ∃ j, j ∈ plcs env ps ∧ f j b)
          rw [a4, plcs_plc, e1']
          constructor
          · rintro ((z | z) | ⟨j, hj, z⟩)
            · exact (nA b z).elim
            · exact .inr (.inl z)
            · rcases List.mem_append.mp hj with hj | hj
              · have : j = i := by
                  by_cases q : isOwn d = true
                  · simpa [q] using hj
                  · simp [q] at hj
                subst this
                exact .inl z
              · exact .inr (.inr ⟨j, hj, z⟩)
          · rintro (z | z | ⟨j, hj, z⟩)
            · have q : isOwn d = true := by
                rcases ru.cases with ⟨xs, a, ws, rfl, _⟩ | ⟨_, o, _⟩
                · rfl
                · exact (o b z).elim
              exact .inr ⟨i, List.mem_append.mpr (.inl (by simp [q])), z⟩
            · exact .inl (.inr z)
            · exact .inr ⟨j, List.mem_append.mpr (.inr hj), z⟩
    · cases e
theorem ownOnce_tail {p : Opd} {ps : List Opd} (h : ownOnce env (p :: ps) = true) : ownOnce env ps = true := by
  cases p with
  | val x => exact h
  | plc i =>
    unfold ownOnce at h
    exact (Bool.and_eq_true_iff.mp h).2
/-- the slots behind a call: S are those whose lists still are at the callee's -/
theorem put_back {f0 : Nat → AS} : ∀ (ps : List Opd) (vs : List V) (fs : List (Option D)) (env : Env) (f : Nat → AS) (Ox Of : AS) (env2 : Env) (S : List Nat),
    env.length = σ.length → (∀ i d, i ∉ S → gt env i = some d → ∃ v, σ[i]? = some (some v) ∧ RepV K w H F d v (f i)) → (∀ i, gt env i = none → ∀ b, ¬ f i b) → (∀ i j, i ≠ j → Dj (f i) (f j)) → (∀ i ∈ S, ∀ b, ¬ f i b) →
    (∀ i b, f i b → ¬ Of b) → (∀ i ∈ S, i ∈ plcs env ps) → (∀ i ∈ plcs env ps, i ∈ S) → S.Nodup → (plcs env ps).Nodup → (∀ p v, (p, v) ∈ ps.zip vs → ∀ i, p = .plc i → σ[i]? = some (some v)) →
    FinR K w H F fs vs Of → putBack env ps fs = some env2 → ∃ f2 : Nat → AS, env2.length = σ.length ∧ (∀ i d, gt env2 i = some d → ∃ v, σ[i]? = some (some v) ∧ RepV K w H F d v (f2 i)) ∧ (∀ i, gt env2 i = none → ∀ b, ¬ f2 i b) ∧ (∀ i j, i ≠ j → Dj (f2 i) (f2 j)) ∧
      ∀ i b, f2 i b → f i b ∨ Of b := by
  intro ps
  induction ps with
  | nil =>
    intro vs fs env f Ox Of env2 S l h1 h2 h3 hS hf s1 s2 _ _ _ fr e
    have e' : env = env2 := Option.some.inj (by
      cases fs <;> exact e)
    subst e'
    exact ⟨f, l, fun i d hg => h1 i d (fun z => nomatch (s1 i z)) hg, h2, h3, fun i b q => .inl q⟩
  | cons p ps ih =>
    intro vs fs env f Ox Of env2 S l h1 h2 h3 hS hf s1 s2 nd nd2 hv fr e
    cases fs with
    | nil => cases p <;> cases e
    | cons fd fs =>
      cases vs with
      | nil => cases fd <;> exact False.elim fr
      | cons v vs =>
        have hv' : ∀ p v, (p, v) ∈ ps.zip vs → ∀ i, p = .plc i → σ[i]? = some (some v) := fun p v hm => hv p v (List.mem_cons_of_mem _ hm)
        -- what the tail of the finals holds
        have tail : ∃ Of2, FinR K w H F fs vs Of2 ∧ (∀ b, Of2 b → Of b) ∧ ∀ d, fd = some d → ∃ O1, RepV K w H F d v O1 ∧ Dj O1 Of2 ∧ ∀ b, O1 b → Of b := by
          cases fd with
          | none => exact ⟨Of, fr, fun _ z => z, fun _ z => by cases z⟩
          | some d =>
            obtain ⟨A, B, a1, a2, a3, a4⟩ := fr
            exact ⟨B, a2, fun b z => (a4 b).mpr (.inr z), fun d' z => by cases z; exact ⟨A, a1, a3, fun b z => (a4 b).mpr (.inl z)⟩⟩
        obtain ⟨Of2, fr2, sub2, hd2⟩ := tail
        have skip : putBack env ps fs = some env2 → plcs env (p :: ps) = plcs env ps → ∃ f2 : Nat → AS, env2.length = σ.length ∧ (∀ i d, gt env2 i = some d → ∃ v, σ[i]? = some (some v) ∧ RepV K w H F d v (f2 i)) ∧ (∀ i, gt env2 i = none → ∀ b, ¬ f2 i b) ∧ (∀ i j, i ≠ j → Dj (f2 i) (f2 j)) ∧
            ∀ i b, f2 i b → f i b ∨ Of b := fun e pe => by
          obtain ⟨f2, k1, k2, k3, k4, k5⟩ := ih vs fs env f Ox Of2 env2 S l h1 h2 h3 hS (fun i b x y => hf i b x (sub2 b y)) (fun i z => pe ▸ s1 i z) (fun i z => s2 i (pe ▸ z)) nd (pe ▸ nd2) hv' fr2 e
          exact ⟨f2, k1, k2, k3, k4, fun i b q => (k5 i b q).elim .inl fun z => .inr (sub2 b z)⟩
        cases p with
        | val x => exact skip e rfl
        | plc i =>
          unfold putBack at e
          cases hg : gt env i with
          | none =>
            rw [hg] at e
            cases e
          | some d =>
            rw [hg] at e
            by_cases q : isOwn d = true
            · cases fd with
              | none => simp [q] at e
              | some d' =>
                have e3 : putBack (env.set i (some d')) ps fs = some env2 := by simpa [q] using e
                have pc : plcs env (.plc i :: ps) = i :: plcs env ps := by
                  rw [plcs_plc, hg]
                  show (if isOwn d = true then [i] else []) ++ plcs env ps = i :: plcs env ps
                  rw [if_pos q] <;> rfl
                have iS : i ∈ S := s2 i (by rw [pc]; exact List.mem_cons_self)
                rw [pc] at nd2
                have inot : i ∉ plcs env ps := (List.nodup_cons.mp nd2).1
                obtain ⟨O1, r1, dj1, sub1⟩ := hd2 d' rfl
                have sv : σ[i]? = some (some v) := hv (.plc i) v List.mem_cons_self i rfl
                have hlt : i < env.length := gt_lt hg
                -- the tail's slots are others
                have pst : ∀ (qs : List Opd), i ∉ plcs env qs → plcs (env.set i (some d')) qs = plcs env qs ∨ (qs.any (isPlc i)) = true := by
                  intro qs
                  induction qs with
                  | nil => intro _; exact .inl rfl
                  | cons t qs ihq =>
                    intro hn
                    cases t with
                    | val y =>
                      rcases ihq hn with z | z
                      · exact .inl z
                      · exact .inr (by rw [List.any_cons, z, Bool.or_true])
                    | plc j =>
                      by_cases ej : i = j
                      · subst ej
                        refine .inr (by simp [isPlc])
                      · rw [plcs_plc] at hn
                        rw [plcs_plc, plcs_plc]
                        have hn2 : i ∉ plcs env qs := fun z => hn (List.mem_append.mpr (.inr z))
                        rw [gt_set_ne ej]
                        rcases ihq hn2 with z | z
                        · exact .inl (by rw [z])
                        · exact .inr (by rw [List.any_cons, z, Bool.or_true])
                have noi : (ps.any (isPlc i)) = true → i ∈ plcs env ps := by
                  clear pst ih skip fr2 hv hv' e3 e s1 s2 nd2 pc
                  intro hany
                  induction ps with
                  | nil => cases hany
                  | cons t qs ihq =>
                    have inot2 : i ∉ plcs env qs := fun z => inot (by cases t with
                      | val y => exact z
                      | plc j => exact List.mem_append.mpr (.inr z))
                    cases t with
                    | val y =>
                      have : (qs.any (isPlc i)) = true := by simpa [isPlc] using hany
                      exact ihq inot2 this
                    | plc j =>
                      by_cases ej : i = j
                      · subst ej
                        refine List.mem_append.mpr (.inl ?_)
                        rw [hg]
                        simp [q]
                      · have : (qs.any (isPlc i)) = true := by simpa [isPlc, ej] using hany
                        exact List.mem_append.mpr (.inr (ihq inot2 this))
                have pe : plcs (env.set i (some d')) ps = plcs env ps := (pst ps inot).elim id fun z => absurd (noi z) inot
                obtain ⟨f2, k1, k2, k3, k4, k5⟩ := ih vs fs (env.set i (some d')) (fun j => if j = i then O1 else f j) Ox Of2 env2 (S.erase i) (by simpa using l)
                  (fun j d2 hj g2 => by
                    by_cases ej : j = i
                    · subst ej
                      rw [gt_set_self hlt] at g2
                      cases g2
                      exact ⟨v, sv, by rw [if_pos rfl]; exact r1⟩
                    · rw [gt_set_ne (Ne.symm ej)] at g2
                      obtain ⟨u, hu, ru⟩ := h1 j d2 (fun z => hj ((List.mem_erase_of_ne ej).mpr z)) g2
                      exact ⟨u, hu, by rw [if_neg ej]; exact ru⟩)
                  (fun j g2 b => by
                    by_cases ej : j = i
                    · subst ej
                      rw [gt_set_self hlt] at g2
                      cases g2
                    · rw [gt_set_ne (Ne.symm ej)] at g2
                      rw [if_neg ej]
                      exact h2 j g2 b)
                  (fun j k n b x y => by
                    try dsimp only at x y
                    by_cases ej : j = i
                    · rw [if_pos ej] at x
                      by_cases ek : k = i
                      · exact n (ej.trans ek.symm)
                      · rw [if_neg ek] at y
                        exact hf k b y (sub1 b x)
                    · rw [if_neg ej] at x
                      by_cases ek : k = i
                      · rw [if_pos ek] at y
                        exact hf j b x (sub1 b y)
                      · rw [if_neg ek] at y
                        exact h3 j k n b x y)
                  (fun j hj b z => by
                    have hj2 := List.mem_of_mem_erase hj
                    try dsimp only at z
                    by_cases ej : j = i
                    · subst ej
                      exact (List.Nodup.not_mem_erase nd) hj
                    · rw [if_neg ej] at z
                      exact hS j hj2 b z)
                  (fun j b x y => by
                    try dsimp only at x
                    by_cases ej : j = i
                    · rw [if_pos ej] at x
                      exact dj1 b x y
                    · rw [if_neg ej] at x
                      exact hf j b x (sub2 b y))
                  (fun j hj => by
                    rw [pe]
                    have ej : j ≠ i := fun z => by
                      subst z
                      exact (List.Nodup.not_mem_erase nd) hj
                    have := s1 j (List.mem_of_mem_erase hj)
                    rw [pc] at this
                    exact (List.mem_cons.mp this).resolve_left ej)
                  (fun j hj => by
                    rw [pe] at hj
                    have ej : j ≠ i := fun z => by
                      subst z
                      exact inot hj
                    exact (List.mem_erase_of_ne ej).mpr (s2 j (by rw [pc]; exact List.mem_cons_of_mem _ hj)))
                  (nd.erase i) (by rw [pe]; exact (List.nodup_cons.mp nd2).2) hv' fr2 e3
                refine ⟨f2, k1, k2, k3, k4, fun j b z => ?_⟩
                rcases k5 j b z with y | y
                · try dsimp only at y
                  by_cases ej : j = i
                  · rw [if_pos ej] at y
                    exact .inr (sub1 b y)
                  · rw [if_neg ej] at y
                    exact .inl y
                · exact .inr (sub2 b y)
            · refine skip (by simpa [q] using e) ?_
              rw [plcs_plc, hg]
              show (if isOwn d = true then [i] else []) ++ plcs env ps = plcs env ps
              rw [if_neg q] <;> rfl
theorem plcs_nodup : ∀ {ps : List Opd}, ownOnce env ps = true → (plcs env ps).Nodup
  | [], _ => List.nodup_nil
  | .val _ :: r, h => plcs_nodup (ps := r) h
  | .plc i :: r, h => by
    have ih := plcs_nodup (ps := r) (ownOnce_tail h)
    unfold ownOnce at h
    rw [plcs_plc]
    cases hg : gt env i with
    | none => exact ih
    | some d =>
      rw [hg] at h
      by_cases q : isOwn d = true
      · show ((if isOwn d = true then [i] else []) ++ plcs env r).Nodup
        rw [if_pos q]
        refine List.nodup_cons.mpr ⟨fun hm => ?_, ih⟩
        obtain ⟨_, _, _, h3⟩ := mem_plcs hm
        dsimp only at h
        rw [h3, q] at h
        cases h
      · show ((if isOwn d = true then [i] else []) ++ plcs env r).Nodup
        rw [if_neg q]
        exact ih
theorem RL.slots : ∀ {ps : List Opd} {vs : List V} {Ox : AS}, RL (RO K w) H F σ ps vs Ox → ∀ p v, (p, v) ∈ ps.zip vs → ∀ i, p = .plc i → σ[i]? = some (some v)
  | [], _, _, _, _, _, h, _, _ => by cases h
  | _ :: _, [], _, r, _, _, _, _, _ => False.elim r
  | p :: ps, v :: vs, Ox, ⟨A, B, a1, a2, _, _⟩, p', v', h, i, e => by
    rcases List.mem_cons.mp h with h | h
    · cases h
      subst e
      exact a1.1
    · exact RL.slots a2 p' v' h i e
end

section
variable {g : GI} {N : List Str} {sc : Scope} {C : Ctx} {a b c : Expr} {ma mb mc ml mh : ME} {pos p0 : Pos} {es : List Expr} {ms : MEs}
/-- the reading of a call -/
theorem call_sim {K : PySem.W.Frag} {w : World} {σ : L2.St} {H : Hp} {Q : VK} {fi : Nat} {n : Nat} (hn : ∀ ds r, C.calls fi ds = some r → ds.length = n) (h : TOp K w C (.call fi ms) σ H Q) : tCall (spM K w C.calls fi n) [] E0 (TOps K w C ms) σ H Q := by
  obtain ⟨env, F, O, z, env', er, gd, e, q⟩ := h
  simp only [op, Option.bind_eq_bind, Option.bind_eq_some_iff, Prod.exists] at e
  obtain ⟨ps, e1, ea, e⟩ := e
  by_cases ow : ownOnce e1 ps = true
  · rw [if_pos ow] at e
    simp only [Option.bind_eq_some_iff, Prod.exists] at e
    obtain ⟨ds, hds, r, fin, hc, e2, hp, e⟩ := e
    cases e
    refine ⟨env, F, O, ps, e1, er, gd, ea, fun vs H1 F1 Ox1 Oe1 s1 rx er1 => ?_⟩
    show spM K w C.calls fi n (vs ++ []) H1 Q E0
    rw [List.append_nil]
    obtain ⟨l, f, h1, h2, h3, h4⟩ := er1
    have args := args_of h1 h3 h4 ps vs Ox1 ds rx s1.dj hds ow
    refine ⟨(RL.length args).symm.trans (hn ds _ hc), ds, F1, _, r, fin, args, s1.good.weak fun b z => z.elim .inl fun ⟨i, _, z⟩ => .inr ((h4 b).mpr ⟨i, z⟩), hc, fun v H' F' Or Oa s2 rv fr => ?_⟩
    -- the slots that the callee had not
    have gA : Good H1 F1 (fun b => Ox1 b ∨ ∃ i, i ∈ plcs e1 ps ∧ f i b) := s1.good.weak fun b z => z.elim .inl fun ⟨i, _, z⟩ => .inr ((h4 b).mpr ⟨i, z⟩)
    have far : ∀ i, i ∉ plcs e1 ps → Dj (f i) (fun b => Ox1 b ∨ ∃ i, i ∈ plcs e1 ps ∧ f i b) := fun i hi b x y => by
      rcases y with y | ⟨j, hj, y⟩
      · exact s1.dj b y ((h4 b).mpr ⟨i, x⟩)
      · exact h3 i j (fun z => hi (z ▸ hj)) b x y
    have fresh : ∀ i b, f i b → i ∉ plcs e1 ps → ¬ uni Or Oa b := fun i b x hi y => by
      rcases s2.ext.own b y with z | z
      · exact far i hi b x z
      · obtain ⟨xs, w⟩ := s1.good.ls b (.inr ((h4 b).mpr ⟨i, x⟩))
        rw [z] at w; cases w
    obtain ⟨f2, k1, k2, k3, k4, k5⟩ := put_back (K := K) (w := w) (H := H') (F := F') (σ := σ) (f0 := f) ps vs fin e1 (fun i => if i ∈ plcs e1 ps then emp else f i) Ox1 Oa env' (plcs e1 ps) l
      (fun i d hi hg => by
        obtain ⟨u, hu, ru⟩ := h1 i d hg
        refine ⟨u, hu, ?_⟩
        rw [if_neg hi]
        exact ru.ext s2.ext gA (far i hi))
      (fun i hg b => by
        by_cases hi : i ∈ plcs e1 ps
        · rw [if_pos hi]; exact fun z => z
        · rw [if_neg hi]; exact h2 i hg b)
      (fun i j n b x y => by
        try dsimp only at x y
        by_cases hi : i ∈ plcs e1 ps
        · rw [if_pos hi] at x; exact x
        · by_cases hj : j ∈ plcs e1 ps
          · rw [if_pos hj] at y; exact y
          · rw [if_neg hi] at x
            rw [if_neg hj] at y
            exact h3 i j n b x y)
      (fun i hi b z => by
        try dsimp only at z
        rw [if_pos hi] at z; exact z)
      (fun i b x y => by
        try dsimp only at x
        by_cases hi : i ∈ plcs e1 ps
        · rw [if_pos hi] at x; exact x
        · rw [if_neg hi] at x
          exact fresh i b x hi (.inr y))
      (fun _ z => z) (fun _ z => z) (plcs_nodup ow) (plcs_nodup ow) (RL.slots rx) fr hp
    -- what the slots hold now
    have hO : ∀ b, (∃ i, f2 i b) → (∃ i, i ∉ plcs e1 ps ∧ f i b) ∨ Oa b := fun b ⟨i, z⟩ => by
      rcases k5 i b z with y | y
      · try dsimp only at y
        by_cases hi : i ∈ plcs e1 ps
        · rw [if_pos hi] at y; exact y.elim
        · rw [if_neg hi] at y
          exact .inl ⟨i, hi, y⟩
      · exact .inr y
    refine q v H' F' Or (fun b => ∃ i, f2 i b) ?_ rv ⟨k1, f2, k2, k3, k4, fun _ => .rfl⟩
    have own1 : ∀ b, (∃ i, i ∉ plcs e1 ps ∧ f i b) → Oe1 b := fun b ⟨i, _, z⟩ => (h4 b).mpr ⟨i, z⟩
    have E2 : Ext H1 F1 (uni Ox1 Oe1) H' F' (uni Or Oa) := s2.ext.mono fun b z => z.elim .inl fun ⟨i, _, z⟩ => .inr ((h4 b).mpr ⟨i, z⟩)
    have E3 := s1.ext.trans E2
    refine ⟨⟨E3.keep, E3.dom, E3.sub, E3.new, fun b z => ?_⟩, fun b x y => ?_, s2.good.fr, fun b z => ?_, fun b z => ?_⟩
    · rcases z with z | z
      · exact E3.own b (.inl z)
      · rcases hO b z with z | z
        · exact s1.ext.own b (.inr (own1 b z))
        · exact E3.own b (.inr z)
    · rcases hO b y with ⟨i, hi, y⟩ | y
      · exact fresh i b y hi (.inl x)
      · exact s2.dj b x y
    · rcases z with z | z
      · exact s2.good.dj b (.inl z)
      · rcases hO b z with ⟨i, hi, z⟩ | z
        · intro y
          rcases s2.ext.new b y with y | y | y
          · exact s1.good.dj b (.inr ((h4 b).mpr ⟨i, z⟩)) y
          · exact far i hi b z y
          · obtain ⟨xs, w⟩ := s1.good.ls b (.inr ((h4 b).mpr ⟨i, z⟩))
            rw [y] at w; cases w
        · exact s2.good.dj b (.inr z)
    · rcases z with z | z
      · exact s2.good.ls b (.inl z)
      · rcases hO b z with ⟨i, hi, z⟩ | z
        · obtain ⟨xs, w⟩ := s1.good.ls b (.inr ((h4 b).mpr ⟨i, z⟩))
          exact ⟨xs, s2.ext.keep b _ w fun y => far i hi b z y⟩
        · exact s2.good.ls b (.inr z)
  · rw [if_neg ow] at e
    cases e
theorem j_call {x : Str} {fi : Nat} (hf : g.fns[fi]? = some x) (hs : sc.names.lookup x = some .globalImplicit) (hd : (x == ("__debug__" : Str)) = false) (he : ∀ env : PySem.Env, starEach (a :: es) env = (false, eval a env) :: starEach es env) (hpl : ∀ env : PySem.Env, (backTo pos (starEach es env)).any (·.1) = false) (ha : JA g N sc C (a :: es) ms) :
    J g N sc C (.Call (.Name x p0) (a :: es) [] pos) (.call fi ms) := fun X c => by
  obtain ⟨k, hr, hk⟩ := c.calls
  obtain ⟨ad, fd, ps, h1, h2, h3, h4, h5, h6, h7, h8⟩ := hk fi x hf
  exact PE.imp (pe_call h4 hr (c.gl x hs) h1 h2 h3 .nil pass0 (ha X c) hd (he _) (hpl _)) fun σ H Q h => call_sim h5 h
theorem j_call0 {x : Str} {fi : Nat} (hf : g.fns[fi]? = some x) (hs : sc.names.lookup x = some .globalImplicit) (hd : (x == ("__debug__" : Str)) = false) : J g N sc C (.Call (.Name x p0) [] [] pos) (.call fi .nil) := fun X c => by
  obtain ⟨k, hr, hk⟩ := c.calls
  obtain ⟨ad, fd, ps, h1, h2, h3, h4, h5, h6, h7, h8⟩ := hk fi x hf
  refine PE.imp (pe_call0 h4 hr (c.gl x hs) h1 h2 h3 .nil pass0 hd) fun σ H Q h => ?_
  obtain ⟨env, F, O, zs, env', er, gd, e, q⟩ := call_sim h5 h
  unfold ops at e
  cases e
  have k := q [] H F emp O (Hld.refl gd) (fun _ z => z) er
  exact k
/-- f(k = e), the one parameter by its name -/
theorem j_callk {x y : Str} {fi : Nat} {kpos : Pos} (hf : g.fns[fi]? = some x) (hp : g.pars[fi]? = some [y]) (hs : sc.names.lookup x = some .globalImplicit) (hd : (x == ("__debug__" : Str)) = false) (ha : J g N sc C a ma) :
    J g N sc C (.Call (.Name x p0) [] [⟨some y, a, kpos⟩] pos) (.call fi (.cons ma .nil)) := fun X c => by
  obtain ⟨k, hr, hk⟩ := c.calls
  obtain ⟨ad, fd, ps, h1, h2, h3, h4, h5, h6, h7, h8⟩ := hk fi x hf
  rw [hp] at h6
  have e6 := Option.some.inj h6
  subst e6
  have pa : PE X a (TOp X.K X.w C ma) := ha X c
  refine ⟨fun pins s σ H Q I h => ?_⟩
  have h' := call_sim h5 h
  refine wpAny_Call_Name_kw (ld_glob I (c.gl x hs) h1 ?_ hd)
  refine PySem.W.callWith_KW0 (h₀ := X.base) I.ok.mod.kin h2 (by rfl) ?_ (by rfl)
  obtain ⟨env, F, O, ps', env', er, gd, e, q⟩ := h'
  simp only [ops, Option.bind_eq_bind, Option.bind_eq_some_iff, Prod.exists] at e
  obtain ⟨p, e1, ea, qs, e2, eb, e⟩ := e
  cases eb
  cases e
  have run : TOp X.K X.w C ma σ H (fun v H1 => spM X.K X.w C.calls fi 1 [v] H1 Q E0) := ⟨env, F, O, p, _, er, gd, ea, fun vx H1 F1 Ox1 Oe1 s1 rx er1 => by
    have k2 := q [vx] H1 F1 Ox1 Oe1 s1 ⟨Ox1, emp, rx, fun _ z => z, fun _ _ z => z, fun b => ⟨.inl, fun z => z.elim id fun z => z.elim⟩⟩ er1
    exact k2⟩
  have pk : PK X [⟨some y, a, kpos⟩] (tCons (TOp X.K X.w C ma) tNil) := pk_cons pa pk_nil
  have run2 : tCons (TOp X.K X.w C ma) tNil σ H (fun vs H1 => spM X.K X.w C.calls fi 1 vs H1 Q E0) := run
  refine thn (pk.run pos pins s σ H _ I run2) fun ws s1 ⟨zs, H1, I1, rz, q1⟩ => ⟨I1.kIn, ?_⟩
  have hl : zs.length = 1 := q1.1
  have hw : ws.length = 1 := rz.length.symm.trans hl
  obtain ⟨u, rfl⟩ : ∃ u, ws = [u] := by
    rcases ws with _ | ⟨u, _ | ⟨u2, ws⟩⟩
    · cases hw
    · exact ⟨u, rfl⟩
    · cases hw
  refine wpAny_call (codeAny_mono (h4.run X.A X.stack s1 H1 ⟨[], [(y, u)]⟩ [u] zs Q E0 hr I1.env0 (h8 s1 u rfl) rz q1) fun r s' hq => ?_)
  cases r with
  | error e => exact pass0 pins σ H1 s1 e s' I1 hq
  | ok fl =>
    cases fl with
    | ret u => exact I1.after hq
    | next => exact False.elim hq
    | brk => exact False.elim hq
    | cont => exact False.elim hq
end
end Mp

end
section
set_option Elab.async false
set_option linter.all false
/-! Mp8: texts: find, split, join, as functions of lists of codes. -/
namespace Mp
open PySem PySem.Spec PyProof.Rows L2
open Builtin Builtin.Str StrLaws

theorem st_cps (t : Txt) : (st t).cps.toList = t := rfl
theorem at_one {t : Txt} {c k : Nat} : At (st t) (st [c]) t.length k ↔ t[k]? = some c := subAt_one (st t) c k
theorem find_eq (t : Txt) (c i : Nat) : (match occurrences (st t) (st [c]) i t.length 1 with | k :: _ => (k : Int) | [] => -1) = (match findFrom c i t with | some j => (j : Int) | none => -1) := by
  have key := occ_first (st t) (st [c]) t.length 1 (Nat.le_refl 1) (List.range' i (t.length + 1 - i)) i (fun k hk => by
    rw [List.mem_range'] at hk
    obtain ⟨j, _, e⟩ := hk
    omega)
  rw [occ_eq]
  rcases key with ⟨h0, hn⟩ | ⟨pre, a, post, e, h0, ha, hn⟩
  · rw [h0]
    have : findFrom c i t = none := by
      unfold findFrom
      rw [List.findIdx?_eq_none_iff.mpr (fun x hx => ?_)]
      · rfl
      · obtain ⟨j, hj⟩ := List.getElem?_of_mem hx
        rw [List.getElem?_drop] at hj
        have hlt := (List.getElem?_eq_some_iff.mp hj).1
        have h1 := hn (i + j) (by
          rw [List.mem_range']
          exact ⟨j, by omega, by omega⟩)
        rw [at_one, hj] at h1
        exact beq_eq_false_iff_ne.mpr fun q => h1 (by rw [q])
    rw [this]
  · have e1 : ∃ rest, (forIn (List.range' i (t.length + 1 - i)) ((#[] : Array Nat), i) (occBody (st t) (st [c]) t.length 1)).run.fst.toList = a :: rest := by
      generalize (forIn (List.range' i (t.length + 1 - i)) ((#[] : Array Nat), i) (occBody (st t) (st [c]) t.length 1)).run.fst = arr at h0
      rw [← Array.getElem?_toList] at h0
      cases hl : arr.toList with
      | nil => rw [hl] at h0; cases h0
      | cons x r =>
        rw [hl] at h0
        have : x = a := by simpa using h0
        subst this
        exact ⟨r, rfl⟩
    obtain ⟨rest, e1⟩ := e1
    rw [e1]
    have hpre : ∀ k, i ≤ k → k < a → k ∈ pre := by
      intro k h1 h2
      have hlen : pre.length = a - i := by
        have g1 : (List.range' i (t.length + 1 - i))[pre.length]? = some a := by rw [e]; simp
        have hL : t.length + 1 - i = pre.length + (post.length + 1) := by
          have := congrArg List.length e
          simpa using this
        rw [List.getElem?_range' (by omega)] at g1
        have : i + 1 * pre.length = a := by simpa using g1
        omega
      have g2 : (List.range' i (t.length + 1 - i))[k - i]? = pre[k - i]? := by rw [e, List.getElem?_append_left (by omega)]
      have hL : t.length + 1 - i = pre.length + (post.length + 1) := by
        have := congrArg List.length e
        simpa using this
      rw [List.getElem?_range' (by omega)] at g2
      have g3 : pre[k - i]? = some k := by
        rw [← g2]
        congr 1
        omega
      exact List.mem_of_getElem? g3
    have hia : i ≤ a := by
      have : a ∈ List.range' i (t.length + 1 - i) := by rw [e]; simp
      rw [List.mem_range'] at this
      obtain ⟨j, _, q⟩ := this
      omega
    have hta := at_one.mp ha
    have : findFrom c i t = some a := by
      unfold findFrom
      have : (t.drop i).findIdx? (· == c) = some (a - i) := by
        rw [List.findIdx?_eq_some_iff_getElem]
        have hlt := (List.getElem?_eq_some_iff.mp hta).1
        refine ⟨by rw [List.length_drop]; omega, ?_, fun j hj => ?_⟩
        · have g : (t.drop i)[a - i]? = some c := by
            rw [List.getElem?_drop]
            rw [show i + (a - i) = a by omega]
            exact hta
          rw [(List.getElem?_eq_some_iff.mp g).2]
          simp
        · have h1 := hn (i + j) (hpre (i + j) (by omega) (by omega))
          rw [at_one] at h1
          intro q
          refine h1 ?_
          have hj2 : j < (t.drop i).length := by rw [List.length_drop]; omega
          have g : (t.drop i)[j]? = some ((t.drop i)[j]) := List.getElem?_eq_getElem hj2
          rw [List.getElem?_drop] at g
          rw [g]
          exact congrArg some (eq_of_beq q)
      rw [this]
      show some (a - i + i) = some a
      congr 1
      omega
    rw [this]
theorem fromIndex_nat (n i : Nat) : fromIndex n (i : Int) = i := by
  unfold fromIndex
  rw [if_neg (by omega)]
  omega
theorem find3_eq (t : Txt) (c : Nat) (i : Int) (hi : 0 ≤ i) : Txt.find3 (st t) (st [c]) i = (match findFrom c i.toNat t with | some j => (j : Int) | none => -1) := by
  have e : i = ((i.toNat : Nat) : Int) := by omega
  unfold Txt.find3
  rw [e, fromIndex_nat, st_length, Int.toNat_natCast]
  exact find_eq t c i.toNat

theorem splitOn_none {c : Nat} : ∀ {u : Txt}, c ∉ u → splitOn c u = [u]
  | [], _ => rfl
  | x :: r, h => by
    have h1 : x ≠ c := fun q => h (by rw [q]; exact List.mem_cons_self)
    have h2 := splitOn_none (c := c) (u := r) fun q => h (List.mem_cons_of_mem _ q)
    unfold splitOn
    rw [if_neg h1, h2]
theorem splitOn_cut {c : Nat} {r : Txt} : ∀ {u : Txt}, c ∉ u → splitOn c (u ++ c :: r) = u :: splitOn c r
  | [], _ => by
    show splitOn c (c :: r) = [] :: splitOn c r
    rw [splitOn]
    exact if_pos rfl
  | x :: u, h => by
    have h1 : x ≠ c := fun q => h (by rw [q]; exact List.mem_cons_self)
    have h2 := splitOn_cut (c := c) (r := r) (u := u) fun q => h (List.mem_cons_of_mem _ q)
    show splitOn c (x :: (u ++ c :: r)) = (x :: u) :: splitOn c r
    rw [splitOn, if_neg h1, h2]
theorem strSub_st (t : Txt) (a b : Nat) : strSub (st t) a b = st ((t.drop a).take (b - a)) := by
  apply Str.ext'
  apply Array.toList_inj.mp
  rw [strSub_toList]
  rfl
theorem parts_eq (t : Txt) (c : Nat) : ∀ (cuts : List Nat) (a f : Nat), a ≤ t.length → ChainG (st t) (st [c]) t.length a cuts f → (∀ k, f ≤ k → ¬ At (st t) (st [c]) t.length k) → partsFrom (st t) 1 a cuts = (splitOn c (t.drop a)).map st
  | [], a, f, ha, h, hn => by
    have e : f = a := h
    subst e
    have hc : c ∉ t.drop f := fun hm => by
      obtain ⟨j, hj⟩ := List.getElem?_of_mem hm
      rw [List.getElem?_drop] at hj
      exact hn (f + j) (by omega) (at_one.mpr hj)
    rw [splitOn_none hc]
    show [strSub (st t) f (st t).length] = [st (t.drop f)]
    rw [strSub_st, st_length, List.take_of_length_le (by rw [List.length_drop]; exact Nat.le_refl _)]
  | k :: r, a, f, ha, ⟨h1, h2, h3, h4⟩, hn => by
    have hk := at_one.mp h2
    have hlt := (List.getElem?_eq_some_iff.mp hk).1
    have ih := parts_eq t c r (k + 1) f hlt h4 hn
    have e : t.drop a = (t.drop a).take (k - a) ++ c :: t.drop (k + 1) := by
      have e1 : (t.drop a).drop (k - a) = c :: t.drop (k + 1) := by
        rw [List.drop_drop, show a + (k - a) = k by omega]
        rw [List.drop_eq_getElem_cons hlt, (List.getElem?_eq_some_iff.mp hk).2]
      rw [← e1]
      exact (List.take_append_drop _ _).symm
    have hc : c ∉ (t.drop a).take (k - a) := fun hm => by
      obtain ⟨j, hj⟩ := List.getElem?_of_mem hm
      have hj2 : j < k - a := by
        have := (List.getElem?_eq_some_iff.mp hj).1
        rw [List.length_take] at this
        omega
      rw [List.getElem?_take_of_lt hj2, List.getElem?_drop] at hj
      exact h3 (a + j) (by omega) (by omega) (at_one.mpr hj)
    have e2 : splitOn c (t.drop a) = (t.drop a).take (k - a) :: splitOn c (t.drop (k + 1)) := by
      have := splitOn_cut (c := c) (r := t.drop (k + 1)) hc
      rw [← e] at this
      exact this
    rw [e2]
    show strSub (st t) a k :: partsFrom (st t) 1 (k + 1) r = st _ :: (splitOn c (t.drop (k + 1))).map st
    rw [ih, strSub_st]
theorem strKind_le (x : Str) : 1 ≤ Builtin.Str.strKind x := by
  unfold Builtin.Str.strKind
  split
  · exact Nat.le_refl _
  · split <;> decide
theorem strKind_one {c : Nat} (h : c < 256) : Builtin.Str.strKind (st [c]) = 1 := by
  unfold Builtin.Str.strKind
  rw [if_pos]
  simp [st, h]
theorem split_eq (t : Txt) {c : Nat} (h : c < 256) : Txt.split (st t) (st [c]) = (splitOn c t).map st := by
  unfold Txt.split
  rw [strKind_one h, st_length, st_length]
  have hk := strKind_le (st t)
  by_cases h0 : t.length < [c].length
  · rw [if_pos (by rw [decide_eq_true h0]; rfl)]
    have : t = [] := by
      cases t with
      | nil => rfl
      | cons a b =>
        have h0' : (b.length + 1) < 1 := h0
        omega
    subst this
    rfl
  · rw [if_neg (by
      rw [decide_eq_false h0, decide_eq_false (by omega)]
      exact Bool.false_ne_true)]
    obtain ⟨f, h1, h2⟩ := occ_tight (st t) (st [c]) (Nat.le_refl 1)
    rw [st_length] at h1 h2
    have e := parts_eq t c _ 0 f (Nat.zero_le _) h1 h2
    rw [List.drop_zero] at e
    by_cases h3 : (occurrences (st t) (st [c]) 0 t.length (t.length + 1)).isEmpty = true
    · rw [if_pos h3, ← e]
      rw [List.isEmpty_iff.mp h3]
      show [st t] = [strSub (st t) 0 (st t).length]
      rw [strSub_st, st_length]
      simp
    · rw [if_neg h3, partsBetween_eq]
      exact e
theorem st_append (a b : Txt) : st a ++ st b = st (a ++ b) := by
  apply Str.ext'
  apply Array.toList_inj.mp
  rw [Str.cps_append, Array.toList_append]
  rfl
theorem glued_aux (a : Txt) : ∀ (ys : List Txt) (acc : Txt), ys.foldl (fun (x : Array Nat) y => x ++ (st a).cps ++ (st y).cps) acc.toArray = (acc ++ (ys.map (a ++ ·)).flatten).toArray
  | [], acc => by simp
  | y :: ys, acc => by
    have ih := glued_aux a ys (acc ++ a ++ y)
    rw [List.foldl_cons]
    rw [show acc.toArray ++ (st a).cps ++ (st y).cps = (acc ++ a ++ y).toArray by simp [st], ih]
    simp
theorem joinT_eq (a : Txt) : ∀ (y : Txt) (ys : List Txt), joinT a (y :: ys) = y ++ (ys.map (a ++ ·)).flatten
  | y, [] => by simp [joinT]
  | y, z :: ys => by
    show y ++ a ++ joinT a (z :: ys) = _
    rw [joinT_eq a z ys]
    simp
theorem join_eq (a : Txt) (ys : List Txt) : Txt.join (st a) (ys.map st) = st (joinT a ys) := by
  unfold Txt.join glued
  cases ys with
  | nil => rfl
  | cons y ys =>
    apply Str.ext'
    show ((y :: ys).map st |>.drop 1).foldl _ _ = _
    rw [joinT_eq]
    have := glued_aux a ys y
    simp only [List.map_cons, List.drop_succ_cons, List.drop_zero, List.foldl_map]
    exact this
end Mp

end
section
set_option Elab.async false
set_option linter.all false
/-! Mp9: operations, comparisons, built-in functions, methods, by values. -/
namespace Mp
open PySem PySem.Spec PyProof.Rows L2

section
variable {K : PySem.W.Frag} {w : World}
theorem ValSim2.or {r r' : R2} {f f' : D → D → Option D} {g : D → D → Option D} (h : ValSim2 K w r f) (h' : ValSim2 K w r' f') (e : ∀ x y d, g x y = some d → f x y = some d ∨ f' x y = some d) : ValSim2 K w (fun x y H Q => r x y H Q ∨ r' x y H Q) g := by
  intro x y d hd H F vx vy Ox Oy Q rx ry k
  rcases e x y d hd with z | z
  · exact .inl (h x y d z H F vx vy Ox Oy Q rx ry k)
  · exact .inr (h' x y d z H F vx vy Ox Oy Q rx ry k)
/-- a result that needs no place -/
theorem done {d d' : D} {v : V} {H : Hp} {F : AS} {Q : VK} (k : ∀ v H' Od, Grow H H' → (∀ b, Od b → H b = none) → RepV K w H' F d v Od → Q v H') (e : d' = d) (r : Rep K w H F d' v) : Q v H := by
  subst e
  exact k _ H emp Grow.refl (fun _ z => z.elim) (.of r)

/-! ### arithmetic -/
def intOp (C : Int → Int → Bool) (f : Int → Int → Int) : D → D → Option D
  | .int i, .int j => if C i j = true then some (.int (f i j)) else none
  | _, _ => none
theorem intOp_sim {C : Int → Int → Bool} {P : Int → Int → Prop} {f : Int → Int → Int} (h : ∀ i j, C i j = true → P i j) : ValSim2 K w (rI P fun i j => .int (f i j)) (intOp C f) := by
  intro x y d e H F vx vy Ox Oy Q rx ry k
  cases x with
  | int i =>
    cases y with
    | int j =>
      have e' : (if C i j = true then some (D.int (f i j)) else none) = some d := e
      by_cases c : C i j = true
      · rw [if_pos c] at e'
        exact ⟨i, j, rx.int, ry.int, h i j c, done k (Option.some.inj e') rep_int⟩
      · rw [if_neg c] at e'
        cases e'
    | _ => cases e
  | _ => cases e
theorem intOp0_sim {f : Int → Int → Int} : ValSim2 K w (rI0 fun i j => .int (f i j)) (intOp (fun _ _ => true) f) := by
  intro x y d e H F vx vy Ox Oy Q rx ry k
  cases x with
  | int i =>
    cases y with
    | int j => exact ⟨i, j, rx.int, ry.int, done k (Option.some.inj e) rep_int⟩
    | _ => cases e
  | _ => cases e
theorem sub_ok {X : Cx} : ∃ r, OpR X (binaryOp .Sub) r ∧ ValSim2 X.K X.w r (binop .sub) := ⟨_, op_sub, fun x y d e => intOp0_sim x y d (by
  cases x <;> cases y <;> first | exact e | cases e)⟩
theorem mul_ok {X : Cx} : ∃ r, OpR X (binaryOp .Mult) r ∧ ValSim2 X.K X.w r (binop .mul) := ⟨_, op_mul, fun x y d e => intOp_sim (C := fun i j => decide ((-(2 ^ 64) < i ∧ i < 2 ^ 64) ∨ (-(2 ^ 64) < j ∧ j < 2 ^ 64))) (fun i j h => of_decide_eq_true h) x y d (by
  cases x <;> cases y <;> first | (cases e; done) | (simpa [binop, intOp] using e))⟩
theorem fdiv_ok {X : Cx} : ∃ r, OpR X (binaryOp .FloorDiv) r ∧ ValSim2 X.K X.w r (binop .fdiv) := ⟨_, op_fdiv, fun x y d e => intOp_sim (C := fun i j => decide (0 < j ∧ j < 1073741824)) (fun i j h => of_decide_eq_true h) x y d (by
  cases x <;> cases y <;> first | (cases e; done) | (simpa [binop, intOp] using e))⟩
theorem mod_ok {X : Cx} : ∃ r, OpR X (binaryOp .Mod) r ∧ ValSim2 X.K X.w r (binop .mod) := ⟨_, op_mod, fun x y d e => intOp_sim (C := fun i j => decide (0 < j)) (fun i j h => of_decide_eq_true h) x y d (by
  cases x <;> cases y <;> first | (cases e; done) | (simpa [binop, intOp] using e))⟩
theorem pow_ok {X : Cx} : ∃ r, OpR X (binaryOp .Pow) r ∧ ValSim2 X.K X.w r (binop .pow) := ⟨_, op_pow, fun x y d e => intOp_sim (C := fun i j => decide (0 ≤ j ∧ j ≤ 1000000 ∧ i.natAbs < 2 ^ 64)) (fun i j h => of_decide_eq_true h) x y d (by
  cases x <;> cases y <;> first | (cases e; done) | (simpa [binop, intOp] using e))⟩
/-- two lists, whoever holds them -/
def rCatL (K : PySem.W.Frag) : R2 := fun x y H Q => ∃ a b xs ys, x = .ref a ∧ y = .ref b ∧ SqL K H a xs ∧ SqL K H b ys ∧ xs.length + ys.length ≤ sizeLine ∧ ∀ p, H p = none → Q (.ref p) (upd H p (.lst (xs ++ ys)))
theorem op_catL {X : Cx} : OpR X (binaryOp .Add) (rCatL X.K) := by
  intro pins s σ H x y v u Q I rx ry h
  obtain ⟨a, b, xs, ys, rfl, rfl, hA, hB, hz, q⟩ := h
  cases rx
  cases ry
  obtain ⟨its, r, ⟨⟨cls, dd, data, sl⟩, n, ho, hc, hd, hs⟩, _⟩ := I.list hA
  obtain ⟨its2, r2, ⟨⟨cls2, dd2, data2, sl2⟩, n2, ho2, hc2, hd2, hs2⟩, _⟩ := I.list hB
  simp only at hc hs hc2 hs2
  subst hc hs hc2 hs2
  have e : its.toArray ++ its2.toArray = (its ++ its2).toArray := by simp
  have hl := r.length
  have hl2 := r2.length
  refine concat_meets ⟨_, ho, rfl⟩ ⟨_, ho2, rfl⟩ noFill_list_add seq_list_add PySem.F.slot_list_add PySem.F.entry_list_add (PySem.F.args_list_add_2 _ _) (list_addW a b its.toArray its2.toArray n n2 dd dd2 sl sl2 (by simp; omega)) ⟨ho, ho2, ?_⟩
  rw [e]
  exact ⟨.ref _, _, I.lnew (t' := s.toks) (r.append r2) (by rw [List.length_append]; omega), rfl, q _ I.fresh⟩
theorem add_ok {X : Cx} : ∃ r, OpR X (binaryOp .Add) r ∧ ValSim2 X.K X.w r (binop .add) := by
  refine ⟨_, op_add.or (op_add_str.or (op_catL.or op_catA)), ?_⟩
  intro x y d e H F vx vy Ox Oy Q rx ry k
  cases x with
  | int i =>
    cases y with
    | int j => exact .inl ⟨i, j, rx.int, ry.int, done k (Option.some.inj e) rep_int⟩
    | _ => cases e
  | str a =>
    cases y with
    | str b =>
      have e' : (if small (a.length + b.length) = true then some (D.str (a ++ b)) else none) = some d := e
      by_cases c : small (a.length + b.length) = true
      · rw [if_pos c] at e'
        refine .inr (.inl ⟨st a, st b, rx.str, ry.str, by rw [st_length, st_length]; exact small_line c, ?_⟩)
        rw [st_append]
        exact done k (Option.some.inj e') rep_str
      · rw [if_neg c] at e'
        cases e'
    | _ => cases e
  | lst o a =>
    cases y with
    | lst o2 b =>
      have e' : (if small (a.length + b.length) = true then some (D.lst true (a ++ b)) else none) = some d := e
      by_cases c : small (a.length + b.length) = true
      · rw [if_pos c] at e'
        cases e'
        obtain ⟨p, vs, rfl, h1, q1⟩ := rx.lst
        obtain ⟨p2, vs2, rfl, h2, q2⟩ := ry.lst
        refine .inr (.inr (.inl ⟨p, p2, vs, vs2, rfl, rfl, h1, h2, by rw [← q1.length, ← q2.length]; exact small_line c, fun t nt => ?_⟩))
        exact k _ _ _ (Grow.upd nt) (fun b z => by rw [z]; exact nt) (RepV.own upd_same (Reps.stab (Grow.upd nt).stab _ _ (q1.append q2)))
      · rw [if_neg c] at e'
        cases e'
    | _ => cases e
  | tup a =>
    cases y with
    | tup b =>
      have e' : (if small (a.length + b.length) = true then some (D.tup (a ++ b)) else none) = some d := e
      by_cases c : small (a.length + b.length) = true
      · rw [if_pos c] at e'
        cases e'
        obtain ⟨p, vs, rfl, h1, q1⟩ := rx.tup
        obtain ⟨p2, vs2, rfl, h2, q2⟩ := ry.tup
        have l1 := q1.length
        have l2 := q2.length
        refine .inr (.inr (.inr ⟨p, p2, vs, vs2, rfl, rfl, h1, h2, by rw [← l1, ← l2]; exact small_line c, fun ev => ?_, fun nv ew => ?_, fun nv nw t nt => ?_⟩))
        · subst ev
          have : a = [] := List.length_eq_zero_iff.mp (by simpa using l1)
          subst this
          exact done k rfl (rep_tup h2 q2)
        · subst ew
          have : b = [] := List.length_eq_zero_iff.mp (by simpa using l2)
          subst this
          refine done k (d' := .tup a) (by rw [List.append_nil]) (rep_tup h1 q1)
        · exact k _ _ emp (Grow.upd nt) (fun b z => z.elim) (.of (rep_tup (.of upd_same) (Reps.stab (Grow.upd nt).stab _ _ (q1.append q2))))
      · rw [if_neg c] at e'
        cases e'
    | _ => cases e
  | _ => cases e

/-! ### comparisons -/
mutual
theorem Rep.dp {H : Hp} {F : AS} : ∀ (d : D) (v : V) (p : PyData), Rep K w H F d v → py d = some p → Dp K H v p
  | .non, v, p, h, e => by
    unfold Rep at h
    unfold py at e
    cases e
    subst h
    exact .non
  | .bl b, v, p, h, e => by
    unfold Rep at h
    unfold py at e
    cases e
    subst h
    exact .bl b
  | .int i, v, p, h, e => by
    unfold Rep at h
    unfold py at e
    cases e
    subst h
    exact .int i
  | .str t, v, p, h, e => by
    unfold Rep at h
    unfold py at e
    cases e
    subst h
    exact .str _
  | .ty n, v, p, h, e => by
    unfold py at e
    cases e
  | .tup xs, v, p, h, e => by
    unfold Rep at h
    obtain ⟨a, vs, rfl, q, r⟩ := h
    unfold py at e
    obtain ⟨ps, e1, rfl⟩ := Option.map_eq_some_iff.mp e
    exact .tup q (Reps.dp xs vs ps r e1)
  | .lst true _, v, p, h, e => by
    unfold Rep at h
    exact h.elim
  | .lst false xs, v, p, h, e => by
    unfold Rep at h
    obtain ⟨a, vs, rfl, q, r⟩ := h
    unfold py at e
    obtain ⟨ps, e1, rfl⟩ := Option.map_eq_some_iff.mp e
    exact .lst q.sq (Reps.dp xs vs ps r e1)
  | .dct _, v, p, h, e => by
    unfold py at e
    cases e
theorem Reps.dp {H : Hp} {F : AS} : ∀ (ds : List D) (vs : List V) (ps : List PyData), Reps K w H F ds vs → pys ds = some ps → DpAll K H vs ps
  | [], [], ps, _, e => by
    unfold pys at e
    cases e
    exact .nil
  | [], _ :: _, _, h, _ => by
    unfold Reps at h
    exact h.elim
  | _ :: _, [], _, h, _ => by
    unfold Reps at h
    exact h.elim
  | d :: ds, v :: vs, ps, h, e => by
    unfold Reps at h
    unfold pys at e
    split at e
    · rename_i a as e1 e2
      cases e
      exact .cons (Rep.dp d v a h.1 e1) (Reps.dp ds vs as h.2 e2)
    · cases e
end
theorem RepV.dp {H : Hp} {F : AS} {d : D} {v : V} {O : AS} {p : PyData} (r : RepV K w H F d v O) (e : py d = some p) : Dp K H v p := by
  rcases r.cases with ⟨xs, a, vs, rfl, rfl, h, q, _⟩ | ⟨q, _, _⟩
  · unfold py at e
    obtain ⟨ps, e1, rfl⟩ := Option.map_eq_some_iff.mp e
    exact .lst (.of h) (Reps.dp xs vs ps q e1)
  · exact Rep.dp d v p q e
theorem eqD_dp {H : Hp} {F : AS} {x y : D} {vx vy : V} {Ox Oy : AS} {b : Bool} (e : eqD x y = some b) (rx : RepV K w H F x vx Ox) (ry : RepV K w H F y vy Oy) :
    ∃ d e, Dp K H vx d ∧ Dp K H vy e ∧ SeqAt.shaped d = true ∧ SeqAt.shaped e = true ∧ b = PyData.eqv d e := by
  unfold eqD at e
  split at e
  · rename_i p q e1 e2
    by_cases c : (SeqAt.shaped p && SeqAt.shaped q) = true
    · rw [if_pos c] at e
      obtain ⟨c1, c2⟩ := Bool.and_eq_true_iff.mp c
      exact ⟨p, q, rx.dp e1, ry.dp e2, c1, c2, (Option.some.inj e).symm⟩
    · rw [if_neg c] at e
      cases e
  · cases e
theorem eq_ok {X : Cx} (hu : X.A.units + 65 < cLine) : ∃ r, OpR X (compareOp .Eq) r ∧ ValSim2 X.K X.w r (fun x y => (cmpop .eq x y).map .bl) := by
  refine ⟨_, op_eqD (by omega), ?_⟩
  intro x y d e H F vx vy Ox Oy Q rx ry k
  obtain ⟨b, e1, e2⟩ := Option.map_eq_some_iff.mp e
  have e1' : eqD x y = some b := by
    unfold cmpop at e1
    exact e1
  obtain ⟨p, q, h1, h2, h3, h4, h5⟩ := eqD_dp e1' rx ry
  exact ⟨p, q, h1, h2, h3, h4, done k (by rw [← h5]; exact e2) rep_bl⟩
theorem ne_ok {X : Cx} (hu : X.A.units + 65 < cLine) : ∃ r, OpR X (compareOp .NotEq) r ∧ ValSim2 X.K X.w r (fun x y => (cmpop .ne x y).map .bl) := by
  refine ⟨_, op_neD (by omega), ?_⟩
  intro x y d e H F vx vy Ox Oy Q rx ry k
  obtain ⟨b, e1, e2⟩ := Option.map_eq_some_iff.mp e
  have e1' : (eqD x y).map not = some b := by
    unfold cmpop at e1
    exact e1
  obtain ⟨b', e3, e4⟩ := Option.map_eq_some_iff.mp e1'
  obtain ⟨p, q, h1, h2, h3, h4, h5⟩ := eqD_dp e3 rx ry
  exact ⟨p, q, h1, h2, h3, h4, done k (by rw [← h5, e4]; exact e2) rep_bl⟩
theorem lt_ok {X : Cx} : ∃ r, OpR X (compareOp .Lt) r ∧ ValSim2 X.K X.w r (fun x y => (cmpop .lt x y).map .bl) := by
  refine ⟨_, op_lt, ?_⟩
  intro x y d e H F vx vy Ox Oy Q rx ry k
  cases x with
  | int i =>
    cases y with
    | int j => exact ⟨i, j, rx.int, ry.int, done k (Option.some.inj e) rep_bl⟩
    | _ => cases e
  | _ => cases e
theorem le_ok {X : Cx} : ∃ r, OpR X (compareOp .LtE) r ∧ ValSim2 X.K X.w r (fun x y => (cmpop .le x y).map .bl) := by
  refine ⟨_, op_le, ?_⟩
  intro x y d e H F vx vy Ox Oy Q rx ry k
  cases x with
  | int i =>
    cases y with
    | int j => exact ⟨i, j, rx.int, ry.int, done k (Option.some.inj e) rep_bl⟩
    | _ => cases e
  | _ => cases e
theorem gt_ok {X : Cx} : ∃ r, OpR X (compareOp .Gt) r ∧ ValSim2 X.K X.w r (fun x y => (cmpop .gt x y).map .bl) := by
  refine ⟨_, op_gt, ?_⟩
  intro x y d e H F vx vy Ox Oy Q rx ry k
  cases x with
  | int i =>
    cases y with
    | int j => exact ⟨i, j, rx.int, ry.int, done k (Option.some.inj e) rep_bl⟩
    | _ => cases e
  | _ => cases e
theorem ge_ok {X : Cx} : ∃ r, OpR X (compareOp .GtE) r ∧ ValSim2 X.K X.w r (fun x y => (cmpop .ge x y).map .bl) := by
  refine ⟨_, op_ge, ?_⟩
  intro x y d e H F vx vy Ox Oy Q rx ry k
  cases x with
  | int i =>
    cases y with
    | int j => exact ⟨i, j, rx.int, ry.int, done k (Option.some.inj e) rep_bl⟩
    | _ => cases e
  | _ => cases e
/-- what is not None is no None as a value -/
theorem RepV.isNon {H : Hp} {F : AS} {d : D} {v : V} {O : AS} (r : RepV K w H F d v O) : nonD d = decide (v = .non) := by
  cases d with
  | non => rw [r.non] <;> rfl
  | bl b => rw [r.bl] <;> rfl
  | int b => rw [r.int] <;> rfl
  | str b => rw [r.str] <;> rfl
  | ty b => rw [r.ty] <;> rfl
  | tup xs => obtain ⟨a, vs, rfl, _⟩ := r.tup; rfl
  | lst o xs => obtain ⟨a, vs, rfl, _⟩ := r.lst; rfl
  | dct xs => obtain ⟨a, rfl, _⟩ := r.dct; rfl
theorem is_ok {X : Cx} : ∃ r, OpR X (compareOp .Is) r ∧ ValSim2 X.K X.w r (fun x y => (cmpop .is x y).map .bl) := by
  refine ⟨_, op_isN.or op_is_bl, ?_⟩
  intro x y d e H F vx vy Ox Oy Q rx ry k
  cases y with
  | non =>
    refine .inl ⟨ry.non, done k (d' := .bl (decide (vx = .non))) ?_ rep_bl⟩
    rw [← rx.isNon]
    cases x <;> exact Option.some.inj e
  | bl b =>
    cases x with
    | bl a => exact .inr ⟨a, b, rx.bl, ry.bl, done k (Option.some.inj e) rep_bl⟩
    | _ => cases e
  | _ => cases x <;> cases e
theorem isNot_ok {X : Cx} : ∃ r, OpR X (compareOp .IsNot) r ∧ ValSim2 X.K X.w r (fun x y => (cmpop .isNot x y).map .bl) := by
  refine ⟨_, op_notN.or op_isnot_bl, ?_⟩
  intro x y d e H F vx vy Ox Oy Q rx ry k
  cases y with
  | non =>
    refine .inl ⟨ry.non, done k (d' := .bl (!decide (vx = .non))) ?_ rep_bl⟩
    rw [← rx.isNon]
    cases x <;> exact Option.some.inj e
  | bl b =>
    cases x with
    | bl a => exact .inr ⟨a, b, rx.bl, ry.bl, done k (Option.some.inj e) rep_bl⟩
    | _ => cases e
  | _ => cases x <;> cases e
/-- x in data of any depth -/
def rInA (K : PySem.W.Frag) (neg : Bool) : R2 := fun x y H Q => ∃ d ds, Dp K H x d ∧ (Dp K H y (.list ds) ∨ Dp K H y (.tuple ds)) ∧ SeqAt.shaped d = true ∧ SeqAt.shaped (.list ds) = true ∧ Q (.bl (if neg then !(ds.any fun z => PyData.eqv z d) else ds.any fun z => PyData.eqv z d)) H
theorem op_inA {X : Cx} (hu : X.A.units + 65 < cLine) : OpR X (compareOp .In) (rInA X.K false) := by
  intro pins s σ H x y v u Q I rx ry h
  obtain ⟨d, ds, hd, he, sd, se, q⟩ := h
  obtain ⟨as, r1⟩ := Dp.reads I d x v hd rx
  rcases he with he | he
  · obtain ⟨bs, r2⟩ := Dp.reads I (.list ds) y u he ry
    exact SeqAt.in_list_reads r2 r1 (SeqAt.canLay_of_shaped se) (SeqAt.canLay_of_shaped sd) (room_in_shaped sd hu) ⟨.bl _, H, I, rfl, q⟩
  · obtain ⟨bs, r2⟩ := Dp.reads I (.tuple ds) y u he ry
    exact SeqAt.in_tuple_reads r2 r1 (SeqAt.canLay_of_shaped se) (SeqAt.canLay_of_shaped sd) (room_in_shaped sd hu) ⟨.bl _, H, I, rfl, q⟩
theorem op_notInA {X : Cx} (hu : X.A.units + 65 < cLine) : OpR X (compareOp .NotIn) (rInA X.K true) := by
  intro pins s σ H x y v u Q I rx ry h
  obtain ⟨d, ds, hd, he, sd, se, q⟩ := h
  obtain ⟨as, r1⟩ := Dp.reads I d x v hd rx
  rcases he with he | he
  · obtain ⟨bs, r2⟩ := Dp.reads I (.list ds) y u he ry
    exact SeqAt.notIn_list_reads r2 r1 (SeqAt.canLay_of_shaped se) (SeqAt.canLay_of_shaped sd) (room_in_shaped sd hu) ⟨.bl _, H, I, rfl, q⟩
  · obtain ⟨bs, r2⟩ := Dp.reads I (.tuple ds) y u he ry
    exact SeqAt.notIn_tuple_reads r2 r1 (SeqAt.canLay_of_shaped se) (SeqAt.canLay_of_shaped sd) (room_in_shaped sd hu) ⟨.bl _, H, I, rfl, q⟩
/-- a text in a written dict -/
def rInK (K : PySem.W.Frag) (w : World) (neg : Bool) : R2 := fun x y H Q => ∃ z r d es n, x = .str z ∧ y = .ref d ∧ KDict K w d es n ∧ PySem.W.nsIn K d z = some r ∧ Q (.bl (if neg then !r.isSome else r.isSome)) H
theorem op_inK {X : Cx} : OpR X (compareOp .In) (rInK X.K X.w false) := by
  intro pins s σ H x y v u Q I rx ry h
  obtain ⟨z, r, d, es, n, h1, h2, kd, h3, q⟩ := h
  exact op_in_kd kd pins s σ H x y v u Q I rx ry ⟨z, r, h1, h2, h3, q⟩
theorem op_notInK {X : Cx} : OpR X (compareOp .NotIn) (rInK X.K X.w true) := by
  intro pins s σ H x y v u Q I rx ry h
  obtain ⟨z, r, d, es, n, h1, h2, kd, h3, q⟩ := h
  exact op_notIn_kd kd pins s σ H x y v u Q I rx ry ⟨z, r, h1, h2, h3, q⟩
theorem inD_dp {H : Hp} {F : AS} {x : D} {ys : List D} {vx : V} {Ox : AS} {b : Bool} (e : inD x ys = some b) (rx : RepV K w H F x vx Ox) : ∃ d ds, Dp K H vx d ∧ pys ys = some ds ∧ SeqAt.shaped d = true ∧ SeqAt.shaped (.list ds) = true ∧ b = ds.any fun z => PyData.eqv z d := by
  unfold inD at e
  split at e
  · rename_i p q e1 e2
    by_cases c : (SeqAt.shaped p && SeqAt.shaped (.list q)) = true
    · rw [if_pos c] at e
      obtain ⟨c1, c2⟩ := Bool.and_eq_true_iff.mp c
      exact ⟨p, q, rx.dp e1, e2, c1, c2, (Option.some.inj e).symm⟩
    · rw [if_neg c] at e
      cases e
  · cases e
/-- what is not among a dict's keys -/
theorem Repd.lookup_isSome {H : Hp} {F : AS} {a : Addr} {kvs : List (Txt × D)} {k : Txt} (hk : KDs K w a (kvs.map (·.1))) (h : Repd K w H F a kvs) : ∃ r, PySem.W.nsIn K a (st k) = some r ∧ r.isSome = (kvs.lookup k).isSome := by
  cases q : kvs.lookup k with
  | some d =>
    obtain ⟨u, v, h1, _, _⟩ := h.get q
    exact ⟨_, h1, rfl⟩
  | none =>
    obtain ⟨es, n, kd, ke, _⟩ := hk
    refine ⟨none, ?_, rfl⟩
    unfold PySem.W.nsIn
    rw [kd.at_]
    -- no entry has this key
    have hno : ∀ (l : List DictEntry) (kvs : List (Txt × D)), l.map (fun e => (match e.key with | .str x _ => some x | _ => none)) = (kvs.map (·.1)).map (fun k => some (st k)) → kvs.lookup k = none → l.find? (·.key.isStr (st k)) = none ∧ l.any (·.refKey) = false := by
      intro l
      induction l with
      | nil => intro _ _ _; exact ⟨rfl, rfl⟩
      | cons e r ih =>
        intro kvs he hl
        cases kvs with
        | nil => cases he
        | cons kv kvs =>
          obtain ⟨k1, d1⟩ := kv
          simp only [List.map_cons, List.cons.injEq] at he
          obtain ⟨he1, he2⟩ := he
          rw [List.lookup_cons] at hl
          cases qq : (k == k1) with
          | true =>
            rw [qq] at hl
            cases hl
          | false =>
            rw [qq] at hl
            obtain ⟨i1, i2⟩ := ih kvs he2 hl
            have hne : k ≠ k1 := fun z => by
              rw [z] at qq
              simp at qq
            cases hk : e.key with
            | str x t =>
              rw [hk] at he1
              have hx : x = st k1 := Option.some.inj he1
              have h1 : e.key.isStr (st k) = false := by
                rw [hk, hx]
                show (st k1 == st k) = false
                refine beq_eq_false_iff_ne.mpr fun z => hne ?_
                have := congrArg (fun q : Str => q.cps.toList) z
                exact this.symm
              have h2 : e.refKey = false := by
                unfold DictEntry.refKey
                rw [hk]
              exact ⟨by rw [List.find?_cons, h1]; exact i1, by rw [List.any_cons, h2, i2]; rfl⟩
            | _ => rw [hk] at he1; cases he1
    obtain ⟨i1, i2⟩ := hno es.toList kvs ke q
    show (match es.toList.find? (·.key.isStr (st k)) with
      | some e => some (some e.val)
      | none => if es.toList.any (·.refKey) then none else some none) = some none
    rw [i1, i2]
    rfl
end
end Mp

end
section
set_option Elab.async false
set_option linter.all false
/-! Mp10: in; built-in functions; methods. -/
namespace Mp
open PySem PySem.Spec PyProof.Rows L2

theorem in_ok {X : Cx} (hu : X.A.units + 65 < cLine) : ∃ r, OpR X (compareOp .In) r ∧ ValSim2 X.K X.w r (fun x y => (cmpop .isin x y).map .bl) := by
  refine ⟨_, op_in_sign.or ((op_inA hu).or op_inK), ?_⟩
  intro x y d e H F vx vy Ox Oy Q rx ry k
  obtain ⟨b, e1', e2⟩ := Option.map_eq_some_iff.mp e
  have e1 : isinD x y = some b := e1'
  cases y with
  | lst o ys =>
    obtain ⟨p, ds, h1, h2, h3, h4, h5⟩ := inD_dp e1 rx
    exact .inr (.inl ⟨p, ds, h1, .inl (ry.dp (by unfold py; rw [h2]; rfl)), h3, h4, done k (by rw [if_neg Bool.false_ne_true, ← h5]; exact e2) rep_bl⟩)
  | tup ys =>
    obtain ⟨p, ds, h1, h2, h3, h4, h5⟩ := inD_dp e1 rx
    exact .inr (.inl ⟨p, ds, h1, .inr (ry.dp (by unfold py; rw [h2]; rfl)), h3, h4, done k (by rw [if_neg Bool.false_ne_true, ← h5]; exact e2) rep_bl⟩)
  | str t =>
    cases x with
    | str l =>
      rcases l with _ | ⟨c, _ | ⟨c', r⟩⟩
      · cases e1
      · exact .inl ⟨c, st t, rx.str, ry.str, done k (by rw [← e2, ← Option.some.inj e1]; rfl) rep_bl⟩
      · cases e1
    | _ => cases e1
  | dct kvs =>
    cases x with
    | str a =>
      obtain ⟨q, rfl, kd, r⟩ := ry.dct
      obtain ⟨o, h1, h2⟩ := Repd.lookup_isSome kd r (k := a)
      obtain ⟨es, n, kd', _⟩ := kd
      exact .inr (.inr ⟨st a, o, q, es, n, rx.str, rfl, kd', h1, done k (by rw [← e2, ← Option.some.inj e1, if_neg Bool.false_ne_true, h2]) rep_bl⟩)
    | _ => cases e1
  | _ => cases e1
theorem notIn_ok {X : Cx} (hu : X.A.units + 65 < cLine) : ∃ r, OpR X (compareOp .NotIn) r ∧ ValSim2 X.K X.w r (fun x y => (cmpop .notin x y).map .bl) := by
  refine ⟨_, op_notIn_sign.or ((op_notInA hu).or op_notInK), ?_⟩
  intro x y d e H F vx vy Ox Oy Q rx ry k
  obtain ⟨b, e1', e2⟩ := Option.map_eq_some_iff.mp e
  obtain ⟨b', e1, e4⟩ := Option.map_eq_some_iff.mp (show (isinD x y).map not = some b from e1')
  cases y with
  | lst o ys =>
    obtain ⟨p, ds, h1, h2, h3, h4, h5⟩ := inD_dp e1 rx
    exact .inr (.inl ⟨p, ds, h1, .inl (ry.dp (by unfold py; rw [h2]; rfl)), h3, h4, done k (by rw [if_pos rfl, ← h5, e4]; exact e2) rep_bl⟩)
  | tup ys =>
    obtain ⟨p, ds, h1, h2, h3, h4, h5⟩ := inD_dp e1 rx
    exact .inr (.inl ⟨p, ds, h1, .inr (ry.dp (by unfold py; rw [h2]; rfl)), h3, h4, done k (by rw [if_pos rfl, ← h5, e4]; exact e2) rep_bl⟩)
  | str t =>
    cases x with
    | str l =>
      rcases l with _ | ⟨c, _ | ⟨c', r⟩⟩
      · cases e1
      · exact .inl ⟨c, st t, rx.str, ry.str, done k (by rw [← e2, ← e4, ← Option.some.inj e1]; rfl) rep_bl⟩
      · cases e1
    | _ => cases e1
  | dct kvs =>
    cases x with
    | str a =>
      obtain ⟨q, rfl, kd, r⟩ := ry.dct
      obtain ⟨o, h1, h2⟩ := Repd.lookup_isSome kd r (k := a)
      obtain ⟨es, n, kd', _⟩ := kd
      exact .inr (.inr ⟨st a, o, q, es, n, rx.str, rfl, kd', h1, done k (by rw [← e2, ← e4, ← Option.some.inj e1, if_pos rfl, h2]) rep_bl⟩)
    | _ => cases e1
  | _ => cases e1

/-! ### built-in functions -/
section
variable {K : PySem.W.Frag} {w : World}
theorem RepV.tyx {H : Hp} {F : AS} {d : D} {v : V} {O : AS} {n : String} (r : RepV K w H F d v O) (e : tyname d = some n) : TyX K H v (.type n) := by
  cases d with
  | non => cases e; rw [r.non]; exact .base .non
  | bl b => cases e; rw [r.bl]; exact .base (.bl b)
  | int b => cases e; rw [r.int]; exact .base (.int b)
  | str b => cases e; rw [r.str]; exact .base (.str _)
  | ty b => cases e
  | tup xs =>
    cases e
    obtain ⟨a, vs, rfl, h, _⟩ := r.tup
    rcases h with (h | ⟨o, h⟩) | ⟨o, its, n, h, hc, _⟩
    · exact .base (.tup h)
    · exact .fTuple h
    · exact .kTuple h hc
  | lst o xs =>
    cases e
    obtain ⟨a, vs, rfl, h, _⟩ := r.lst
    rcases h with (h | ⟨o, h⟩) | ⟨o, its, n, h, hc, _⟩
    · exact .base (.lst h)
    · exact .base (.frz h)
    · exact .kList h hc
  | dct xs => cases e
theorem isTy_kit {d : D} {n : String} {b : Bool} (e : isTy d n = some b) : ∃ m, tyname d = some m ∧ PySem.W.kitOne K (.type m) (.type n) = some b := by
  have go : ∀ {m : String} {l l2 : List String}, (∀ n ∈ l, kitB m n = some true) → (∀ n ∈ l2, kitB m n = some false) → (if n ∈ l then some true else if n ∈ l2 then some false else none) = some b → PySem.W.kitOne K (.type m) (.type n) = some b := by
    intro m l l2 h1 h2 q
    by_cases c : n ∈ l
    · rw [if_pos c] at q
      cases q
      exact kit_ty (h1 n c)
    · rw [if_neg c] at q
      by_cases c2 : n ∈ l2
      · rw [if_pos c2] at q
        cases q
        exact kit_ty (h2 n c2)
      · rw [if_neg c2] at q
        cases q
  cases d with
  | non =>
    refine ⟨_, rfl, go (m := "NoneType") (l := []) (l2 := ["int", "bool", "str", "list", "tuple", "dict"]) (fun _ h => nomatch h) (by decide +kernel) ?_⟩
    simpa [isTy] using e
  | bl x =>
    refine ⟨_, rfl, go (m := "bool") (l := ["bool", "int"]) (l2 := ["str", "list", "tuple", "dict"]) (by decide +kernel) (by decide +kernel) ?_⟩
    simpa [isTy] using e
  | int x =>
    refine ⟨_, rfl, go (m := "int") (l := ["int"]) (l2 := ["bool", "str", "list", "tuple", "dict"]) (by decide +kernel) (by decide +kernel) ?_⟩
    simpa [isTy] using e
  | str x =>
    refine ⟨_, rfl, go (m := "str") (l := ["str"]) (l2 := ["int", "bool", "list", "tuple", "dict"]) (by decide +kernel) (by decide +kernel) ?_⟩
    simpa [isTy] using e
  | tup x =>
    refine ⟨_, rfl, go (m := "tuple") (l := ["tuple"]) (l2 := ["int", "bool", "str", "list", "dict"]) (by decide +kernel) (by decide +kernel) ?_⟩
    simpa [isTy] using e
  | lst o x =>
    refine ⟨_, rfl, go (m := "list") (l := ["list"]) (l2 := ["int", "bool", "str", "tuple", "dict"]) (by decide +kernel) (by decide +kernel) ?_⟩
    simpa [isTy] using e
  | _ => cases e
def rIsiS (K : PySem.W.Frag) : List V → Hp → VK → Prop := fun xs H Q => ∃ (x : V) (tp : Addr) (cs : List V) (t : Value) (us : List Value) (b : Bool), xs = [x, .ref tp] ∧ SqT K H tp cs ∧ Paired ClsV cs us ∧ TyX K H x t ∧ PySem.W.kitAny K t us = some b ∧ Q (.bl b) H
theorem call_isiS {X : Cx} : CallR X (.builtin "isinstance") (rIsiS X.K) := by
  intro pins s σ H xs us Q I r h
  obtain ⟨x, tp, cs, t, ws, b, rfl, hT, k, ty, e, q⟩ := h
  obtain ⟨u1, u2, rfl, r1, r2⟩ := vals2 r
  cases (show u2 = Value.ref tp from r2)
  obtain ⟨P, Z, p, hx⟩ := kit_of I r1 ty
  obtain ⟨its, rv, ⟨o, h1, h2, n, h3⟩, _⟩ := I.tuple hT
  have e3 := ClsV.all k rv
  subst e3
  obtain ⟨oc, od, dt, sl⟩ := o
  simp only at h2 h3
  subst h2 h3
  exact PySem.W.kia_tup Z I.kIn p h1 e hx fun tk => ⟨.bl b, H, I.tok tk, rfl, q⟩
theorem isTys_kit {d : D} {n : String} (hn : tyname d = some n) : ∀ {ts : List D} {b : Bool}, isTys d ts = some b → ∃ ns : List String, ts = ns.map .ty ∧ PySem.W.kitAny K (.type n) (ns.map .type) = some b
  | [], b, e => ⟨[], rfl, by
    unfold isTys at e
    rw [hn] at e
    have e' : some false = some b := e
    rw [← e']
    rfl⟩
  | .ty m :: r, b, e => by
    unfold isTys at e
    split at e
    · rename_i b1 b2 e1 e2
      obtain ⟨ns, rfl, h⟩ := isTys_kit hn e2
      obtain ⟨m', h1, h2⟩ := isTy_kit (K := K) e1
      rw [hn] at h1
      cases h1
      refine ⟨m :: ns, rfl, ?_⟩
      cases e
      show (match PySem.W.kitOne K (.type n) (.type m) with
        | some true => some true
        | some false => PySem.W.kitAny K (.type n) (ns.map .type)
        | none => none) = _
      rw [h2]
      cases b1 with
      | true => rfl
      | false =>
        show PySem.W.kitAny K (.type n) (ns.map .type) = _
        rw [h]
        rfl
    · cases e
  | .non :: _, _, e => by cases e
  | .bl _ :: _, _, e => by cases e
  | .int _ :: _, _, e => by cases e
  | .str _ :: _, _, e => by cases e
  | .tup _ :: _, _, e => by cases e
  | .lst _ _ :: _, _, e => by cases e
  | .dct _ :: _, _, e => by cases e
theorem ValSimL.or {r r' : List V → Hp → VK → Prop} {f f' g : List D → Option D} (h : ValSimL K w r f) (h' : ValSimL K w r' f') (e : ∀ xs d, g xs = some d → f xs = some d ∨ f' xs = some d) : ValSimL K w (fun xs H Q => r xs H Q ∨ r' xs H Q) g := by
  intro xs d hd H F vs Q rx k
  rcases e xs d hd with z | z
  · exact .inl (h xs d z H F vs Q rx k)
  · exact .inr (h' xs d z H F vs Q rx k)
/-- one argument, two -/
theorem args1 {H : Hp} {F : AS} {x : D} {vs : List V} (h : Paired (fun d v => ∃ Od, RepV K w H F d v Od) [x] vs) : ∃ v O, vs = [v] ∧ RepV K w H F x v O := by
  cases h with
  | cons r t =>
    cases t
    obtain ⟨O, r⟩ := r
    exact ⟨_, O, rfl, r⟩
theorem args2 {H : Hp} {F : AS} {x y : D} {vs : List V} (h : Paired (fun d v => ∃ Od, RepV K w H F d v Od) [x, y] vs) : ∃ v u O O', vs = [v, u] ∧ RepV K w H F x v O ∧ RepV K w H F y u O' := by
  cases h with
  | cons r t =>
    obtain ⟨u, O', rfl, r2⟩ := args1 t
    obtain ⟨O, r⟩ := r
    exact ⟨_, u, O, O', rfl, r, r2⟩
theorem sim1 {r : List V → Hp → VK → Prop} {f : D → Option D} {b : BI} (hf : ∀ x, bi1 b x = f x) (hb : ∀ x y, bi2 b x y = none) (h : ∀ x d, f x = some d → ∀ (H : Hp) (F : AS) (v : V) (O : AS) (Q : VK), RepV K w H F x v O → (∀ v H' Od, Grow H H' → (∀ b, Od b → H b = none) → RepV K w H' F d v Od → Q v H') → r [v] H Q) : ValSimL K w r (biop b) := by
  intro xs d e H F vs Q rx k
  rcases xs with _ | ⟨x, _ | ⟨y, _ | ⟨z, r⟩⟩⟩
  · cases e
  · obtain ⟨v, O, rfl, r1⟩ := args1 rx
    exact h x d ((hf x).symm.trans e) H F v O Q r1 k
  · have e' : bi2 b x y = some d := e
    rw [hb] at e'
    cases e'
  · cases e
theorem sim2 {r : List V → Hp → VK → Prop} {f : D → D → Option D} {b : BI} (hf : ∀ x y, bi2 b x y = f x y) (hb : ∀ x, bi1 b x = none) (h : ∀ x y d, f x y = some d → ∀ (H : Hp) (F : AS) (v u : V) (O O' : AS) (Q : VK), RepV K w H F x v O → RepV K w H F y u O' → (∀ v H' Od, Grow H H' → (∀ b, Od b → H b = none) → RepV K w H' F d v Od → Q v H') → r [v, u] H Q) : ValSimL K w r (biop b) := by
  intro xs d e H F vs Q rx k
  rcases xs with _ | ⟨x, _ | ⟨y, _ | ⟨z, r⟩⟩⟩
  · cases e
  · have e' : bi1 b x = some d := e
    rw [hb] at e'
    cases e'
  · obtain ⟨v, u, O, O', rfl, r1, r2⟩ := args2 rx
    exact h x y d ((hf x y).symm.trans e) H F v u O O' Q r1 r2 k
  · cases e
theorem isTys_ty {x : D} : ∀ {ts : List D} {b : Bool}, isTys x ts = some b → ∃ n, tyname x = some n
  | ts, b, e => by
    cases hn : tyname x with
    | some n => exact ⟨n, rfl⟩
    | none =>
      exfalso
      induction ts generalizing b with
      | nil =>
        unfold isTys at e
        rw [hn] at e
        cases e
      | cons t ts ih =>
        cases t <;> first | (cases e; done) | skip
        unfold isTys at e
        split at e
        · rename_i b1 b2 _ e3
          exact ih _ e3
        · cases e
theorem isi_ok {X : Cx} : ∃ r, CallR X (.builtin "isinstance") r ∧ ValSimL X.K X.w r (biop .isi) := by
  refine ⟨_, call_isi.or call_isiS, sim2 (fun _ _ => rfl) (fun _ => rfl) ?_⟩
  intro x y d e H F v u O O' Q r1 r2 k
  obtain ⟨b, e1, e2⟩ := Option.map_eq_some_iff.mp e
  cases y with
  | ty n =>
    obtain ⟨m, h1, h2⟩ := isTy_kit (K := X.K) (show isTy x n = some b from e1)
    exact .inl ⟨v, u, _, _, b, rfl, by rw [r2.ty]; exact .ty n, r1.tyx h1, h2, done k e2 rep_bl⟩
  | tup ts =>
    have e1' : isTys x ts = some b := e1
    obtain ⟨p, cs, rfl, h1, h2⟩ := r2.tup
    have hn : ∃ n, tyname x = some n := isTys_ty e1'
    obtain ⟨n, hn⟩ := hn
    obtain ⟨ns, rfl, h3⟩ := isTys_kit (K := X.K) hn e1'
    refine .inr ⟨v, p, cs, _, ns.map .type, b, rfl, h1, ?_, r1.tyx hn, h3, done k e2 rep_bl⟩
    clear e1 h3 h1 e2 e e1' r2
    induction ns generalizing cs with
    | nil =>
      cases cs with
      | nil => exact .nil
      | cons c cs => unfold Reps at h2; exact h2.elim
    | cons m ns ih =>
      cases cs with
      | nil => unfold Reps at h2; exact h2.elim
      | cons c cs =>
        rw [List.map_cons] at h2
        unfold Reps at h2
        have hc := h2.1
        unfold Rep at hc
        subst hc
        exact .cons (.ty m) (ih cs h2.2)
  | _ => cases e1
theorem len_ok {X : Cx} : ∃ r, CallR X (.builtin "len") r ∧ ValSimL X.K X.w r (biop .len) := by
  refine ⟨_, call_len, sim1 (fun _ => rfl) (fun _ _ => rfl) ?_⟩
  intro x d e H F v O Q r1 k
  obtain ⟨n, e1, e2⟩ := Option.map_eq_some_iff.mp e
  cases x with
  | str t =>
    have e' : (if small t.length = true then some (t.length : Int) else none) = some n := e1
    by_cases c : small t.length = true
    · rw [if_pos c] at e'
      refine ⟨v, t.length, rfl, ?_, done k (by rw [Option.some.inj e']; exact e2) rep_int⟩
      rw [r1.str]
      exact ⟨by rw [st_length]; exact small_line c, (st_length t).symm⟩
    · rw [if_neg c] at e'
      cases e'
  | tup xs =>
    obtain ⟨a, vs, rfl, h, q⟩ := r1.tup
    exact ⟨_, xs.length, rfl, .inr ⟨vs, h, q.length⟩, done k (by rw [Option.some.inj (show some (xs.length : Int) = some n from e1)]; exact e2) rep_int⟩
  | lst o xs =>
    obtain ⟨a, vs, rfl, h, q⟩ := r1.lst
    exact ⟨_, xs.length, rfl, .inl ⟨vs, h, q.length⟩, done k (by rw [Option.some.inj (show some (xs.length : Int) = some n from e1)]; exact e2) rep_int⟩
  | _ => cases e1
theorem allD_bls {H : Hp} {F : AS} : ∀ {xs : List D} {vs : List V} {b : Bool}, Reps K w H F xs vs → allD xs = some b → ∃ bs : List Bool, vs = bs.map V.bl ∧ bs.all id = b
  | [], [], b, _, e => ⟨[], rfl, Option.some.inj e⟩
  | [], _ :: _, _, h, _ => by unfold Reps at h; exact h.elim
  | _ :: _, [], _, h, _ => by unfold Reps at h; exact h.elim
  | x :: xs, v :: vs, b, h, e => by
    unfold Reps at h
    cases x with
    | bl a =>
      have hv := h.1
      unfold Rep at hv
      subst hv
      have e' : (if a = true then allD xs else (allD xs).map fun _ => false) = some b := e
      cases a with
      | true =>
        obtain ⟨bs, rfl, h2⟩ := allD_bls h.2 (by rw [if_pos rfl] at e'; exact e')
        exact ⟨true :: bs, rfl, by rw [List.all_cons, h2]; rfl⟩
      | false =>
        rw [if_neg Bool.false_ne_true] at e'
        obtain ⟨b', e1, e2⟩ := Option.map_eq_some_iff.mp e'
        obtain ⟨bs, rfl, h2⟩ := allD_bls h.2 e1
        exact ⟨false :: bs, rfl, by rw [List.all_cons, ← e2]; rfl⟩
    | _ => cases e
theorem all_ok {X : Cx} (hc : X.calm = true) : ∃ r, CallR X (.builtin "all") r ∧ ValSimL X.K X.w r (biop .all) := by
  refine ⟨_, cr_all hc, sim1 (fun _ => rfl) (fun _ _ => rfl) ?_⟩
  intro x d e H F v O Q r1 k
  obtain ⟨n, e1, e2⟩ := Option.map_eq_some_iff.mp e
  cases x with
  | lst o xs =>
    obtain ⟨a, vs, rfl, h, q⟩ := r1.lst
    obtain ⟨bs, rfl, h2⟩ := allD_bls q (show allD xs = some n from e1)
    exact ⟨a, bs, rfl, h, done k (by rw [h2]; exact e2) rep_bl⟩
  | _ => cases e1
theorem st_ofString (s : String) : Str.ofString s = st (s.toList.map Char.toNat) := PySem.Str.ofString_eq_toList s
theorem str_ok {X : Cx} : ∃ r, CallR X (.type "str") r ∧ ValSimL X.K X.w r (biop .str) := by
  refine ⟨_, call_str_int, sim1 (fun _ => rfl) (fun _ _ => rfl) ?_⟩
  intro x d e H F v O Q r1 k
  obtain ⟨n, e1, e2⟩ := Option.map_eq_some_iff.mp e
  cases x with
  | int i =>
    have e' : (if i.natAbs < 2 ^ 1900 then some (strI i) else none) = some n := e1
    by_cases c : i.natAbs < 2 ^ 1900
    · rw [if_pos c] at e'
      refine ⟨i, by rw [r1.int], ?_, ?_⟩
      · by_cases h0 : i.natAbs = 0
        · rw [h0]; decide
        · have := (Nat.log2_lt h0).mpr c
          omega
      · rw [st_ofString]
        exact done k (d' := .str (strI i)) (by rw [Option.some.inj e']; exact e2) rep_str
    · rw [if_neg c] at e'
      cases e'
  | _ => cases e1
theorem int_ok {X : Cx} : ∃ r, CallR X (.type "int") r ∧ ValSimL X.K X.w r (biop .int) := by
  refine ⟨_, call_int1.or call_int_str, sim1 (fun _ => rfl) (fun _ _ => rfl) ?_⟩
  intro x d e H F v O Q r1 k
  obtain ⟨n, e1, e2⟩ := Option.map_eq_some_iff.mp e
  cases x with
  | int i => exact .inl (.inl ⟨i, by rw [r1.int], done k (by rw [Option.some.inj (show some i = some n from e1)]; exact e2) rep_int⟩)
  | str t =>
    have e' : (if t.length ≤ 640 then PySem.intText? (st t) else none) = some n := e1
    by_cases c : t.length ≤ 640
    · rw [if_pos c] at e'
      exact .inr ⟨st t, n, by rw [r1.str], e', by rw [st_length]; exact c, done k e2 rep_int⟩
    · rw [if_neg c] at e'
      cases e'
  | _ => cases e1
theorem abs_ok {X : Cx} : ∃ r, CallR X (.builtin "abs") r ∧ ValSimL X.K X.w r (biop .abs) := by
  refine ⟨_, call_abs, sim1 (fun _ => rfl) (fun _ _ => rfl) ?_⟩
  intro x d e H F v O Q r1 k
  obtain ⟨n, e1, e2⟩ := Option.map_eq_some_iff.mp e
  cases x with
  | int i => exact ⟨i, by rw [r1.int], done k (by rw [Option.some.inj (show some (if i < 0 then -i else i) = some n from e1)]; exact e2) rep_int⟩
  | _ => cases e1
theorem ord_ok {X : Cx} : ∃ r, CallR X (.builtin "ord") r ∧ ValSimL X.K X.w r (biop .ord) := by
  refine ⟨_, call_ord, sim1 (fun _ => rfl) (fun _ _ => rfl) ?_⟩
  intro x d e H F v O Q r1 k
  obtain ⟨n, e1, e2⟩ := Option.map_eq_some_iff.mp e
  cases x with
  | str t =>
    rcases t with _ | ⟨c, _ | ⟨c', r⟩⟩
    · cases e1
    · exact ⟨st [c], by rw [r1.str], rfl, done k (d' := .int c) (by rw [Option.some.inj (show some (c : Int) = some n from e1)]; exact e2) rep_int⟩
    · cases e1
  | _ => cases e1
theorem tuple_ok {X : Cx} : ∃ r, CallR X (.type "tuple") r ∧ ValSimL X.K X.w r (biop .tuple) := by
  refine ⟨_, call_tuple_of, sim1 (fun _ => rfl) (fun _ _ => rfl) ?_⟩
  intro x d e H F v O Q r1 k
  obtain ⟨n, e1, e2⟩ := Option.map_eq_some_iff.mp e
  subst e2
  cases x with
  | lst o xs =>
    cases e1
    obtain ⟨a, vs, rfl, h, q⟩ := r1.lst
    exact ⟨a, vs, rfl, .inl ⟨h, fun p np => k _ _ emp (Grow.upd np) (fun _ z => z.elim) (.of (rep_tup (.of upd_same) (Reps.stab (Grow.upd np).stab _ _ q)))⟩⟩
  | tup xs =>
    cases e1
    obtain ⟨a, vs, rfl, h, q⟩ := r1.tup
    exact ⟨a, vs, rfl, .inr ⟨h, done k rfl (rep_tup h q)⟩⟩
  | _ => cases e1
theorem list_ok {X : Cx} : ∃ r, CallR X (.type "list") r ∧ ValSimL X.K X.w r (biop .list) := by
  refine ⟨_, call_list_of, sim1 (fun _ => rfl) (fun _ _ => rfl) ?_⟩
  intro x d e H F v O Q r1 k
  obtain ⟨n, e1, e2⟩ := Option.map_eq_some_iff.mp e
  subst e2
  cases x with
  | lst o xs =>
    cases e1
    obtain ⟨a, vs, rfl, h, q⟩ := r1.lst
    exact ⟨a, vs, rfl, .inl h, fun p np => k _ _ _ (Grow.upd np) (fun b z => by rw [z]; exact np) (RepV.own upd_same (Reps.stab (Grow.upd np).stab _ _ q))⟩
  | tup xs =>
    cases e1
    obtain ⟨a, vs, rfl, h, q⟩ := r1.tup
    exact ⟨a, vs, rfl, .inr h, fun p np => k _ _ _ (Grow.upd np) (fun b z => by rw [z]; exact np) (RepV.own upd_same (Reps.stab (Grow.upd np).stab _ _ q))⟩
  | _ => cases e1
theorem max_ok {X : Cx} (hc : X.calm = true) : ∃ r, CallR X (.builtin "max") r ∧ ValSimL X.K X.w r (biop .max) := by
  refine ⟨_, call_max2 hc, sim2 (fun _ _ => rfl) (fun _ => rfl) ?_⟩
  intro x y d e H F v u O O' Q r1 r2 k
  obtain ⟨n, e1, e2⟩ := Option.map_eq_some_iff.mp e
  cases x with
  | int i => cases y with
    | int j => exact ⟨i, j, by rw [r1.int, r2.int], done k (by rw [Option.some.inj (show some (if j > i then j else i) = some n from e1)]; exact e2) rep_int⟩
    | _ => cases e1
  | _ => cases e1
theorem min_ok {X : Cx} (hc : X.calm = true) : ∃ r, CallR X (.builtin "min") r ∧ ValSimL X.K X.w r (biop .min) := by
  refine ⟨_, call_min2 hc, sim2 (fun _ _ => rfl) (fun _ => rfl) ?_⟩
  intro x y d e H F v u O O' Q r1 r2 k
  obtain ⟨n, e1, e2⟩ := Option.map_eq_some_iff.mp e
  cases x with
  | int i => cases y with
    | int j => exact ⟨i, j, by rw [r1.int, r2.int], done k (by rw [Option.some.inj (show some (if j < i then j else i) = some n from e1)]; exact e2) rep_int⟩
    | _ => cases e1
  | _ => cases e1
theorem divmod_ok {X : Cx} : ∃ r, CallR X (.builtin "divmod") r ∧ ValSimL X.K X.w r (biop .divmod) := by
  refine ⟨_, call_divmodW, sim2 (fun _ _ => rfl) (fun _ => rfl) ?_⟩
  intro x y d e H F v u O O' Q r1 r2 k
  obtain ⟨n, e1, e2⟩ := Option.map_eq_some_iff.mp e
  subst e2
  cases x with
  | int i => cases y with
    | int j =>
      have e' : (if 0 < j ∧ j < 1073741824 then some [D.int (i / j), D.int (i % j)] else none) = some n := e1
      by_cases c : 0 < j ∧ j < 1073741824
      · rw [if_pos c] at e'
        cases e'
        refine ⟨i, j, by rw [r1.int, r2.int], ⟨c.1, PyProof.noPylong_small (by omega)⟩, fun p np => k _ _ emp (Grow.upd np) (fun _ z => z.elim) (.of (rep_tup (.of upd_same) (.cons rep_int (.cons rep_int .nil))))⟩
      · rw [if_neg c] at e'
        cases e'
    | _ => cases e1
  | _ => cases e1
end

section
variable {g : GI} {N : List Str} {sc : Scope} {C : Ctx} {a b c : Expr} {ma mb mc ml mh : ME} {pos p0 : Pos} {es : List Expr} {ms : MEs}
theorem bi_sim {K : PySem.W.Frag} {w : World} {σ : L2.St} {H : Hp} {Q : VK} {f : BI} {r : List V → Hp → VK → Prop} (h2 : ValSimL K w r (biop f)) (h : TOp K w C (.bi f ms) σ H Q) : tCB r (TOps K w C ms) σ H Q := by
  obtain ⟨env, F, O, z, env', er, gd, e, q⟩ := h
  simp only [op, Option.bind_eq_bind, Option.bind_eq_some_iff, Prod.exists] at e
  obtain ⟨ps, e1, ea, ds, hds, d, hd, e⟩ := e
  cases e
  refine ⟨env, F, O, ps, env', er, gd, ea, fun vs H1 F1 Ox1 Oe1 s1 rx er1 => ?_⟩
  exact h2 ds d hd H1 F1 vs Q (RL.gets er1 ps vs Ox1 ds rx hds) fun v H' Od gr fr rv => TG.end q s1 er1 gr fr rv.ls rv
theorem j_bi {x : Str} {f : BI} {id : String} (ho : ∀ X : Cx, CtxOk g N sc C X → ∃ r, CallR X (.builtin id) r ∧ ValSimL X.K X.w r (biop f)) (hx : x ∈ g.free) (hv : bootBuiltins x = some (.builtin id)) (hn : x ≠ "__name__") (hs : sc.names.lookup x = some .globalImplicit) (hd : (x == ("__debug__" : Str)) = false) (he : ∀ env : PySem.Env, starEach (a :: es) env = (false, eval a env) :: starEach es env) (hpl : ∀ env : PySem.Env, (backTo pos (starEach es env)).any (·.1) = false) (ha : JA g N sc C (a :: es) ms) :
    J g N sc C (.Call (.Name x p0) (a :: es) [] pos) (.bi f ms) := fun X c => by
  obtain ⟨r, h1, h2⟩ := ho X c
  exact PE.imp (pe_callB h1 (c.gl x hs) (c.free x hx) hv (ha X c) hn hd (he _) (hpl _)) fun σ H Q h => bi_sim h2 h
theorem j_bt {x : Str} {f : BI} {T : String} (ho : ∀ X : Cx, CtxOk g N sc C X → ∃ r, CallR X (.type T) r ∧ ValSimL X.K X.w r (biop f)) (hx : x ∈ g.free) (hv : bootBuiltins x = some (.type T)) (hn : x ≠ "__name__") (hs : sc.names.lookup x = some .globalImplicit) (hd : (x == ("__debug__" : Str)) = false) (he : ∀ env : PySem.Env, starEach (a :: es) env = (false, eval a env) :: starEach es env) (hpl : ∀ env : PySem.Env, (backTo pos (starEach es env)).any (·.1) = false) (ha : JA g N sc C (a :: es) ms) :
    J g N sc C (.Call (.Name x p0) (a :: es) [] pos) (.bi f ms) := fun X c => by
  obtain ⟨r, h1, h2⟩ := ho X c
  exact PE.imp (pe_callTy h1 (c.gl x hs) (c.free x hx) hv (ha X c) hn hd (he _) (hpl _)) fun σ H Q h => bi_sim h2 h
/-- a built-in class as a value -/
theorem j_ty {x : Str} {T : String} (hx : x ∈ g.free) (hv : bootBuiltins x = some (.type T)) (hn : x ≠ "__name__") (hs : sc.names.lookup x = some .globalImplicit) (hd : (x == ("__debug__" : Str)) = false) : J g N sc C (.Name x pos) (.k (.ty T)) := fun X c =>
  k_pe (pe_bltn (v := .ty T) (c.gl x hs) (c.free x hx) hv rfl hn hd) fun H F => by unfold Rep; rfl
end
end Mp

end
section
set_option Elab.async false
set_option linter.all false
/-! Mp11: methods. -/
namespace Mp
open PySem PySem.Spec PyProof.Rows L2

section
variable {K : PySem.W.Frag} {w : World} {H H' H1 H2 : Hp} {F F' F1 F2 O O' O1 O2 Ox Oe Ox1 Oe1 Ox2 Oe2 : AS} {d : D} {v : V} {σ : L2.St} {env env' env1 env2 : Env}
/-- an empty slot is filled -/
theorem EnvR.put (er : EnvR K w H F env σ O) {i : Nat} (hn : gt env i = none) (hi : i < env.length) {On : AS} (hv : ∃ v, σ[i]? = some (some v) ∧ RepV K w H F d v On) (dj : Dj On O) : EnvR K w H F (env.set i (some d)) σ (uni On O) := by
  obtain ⟨l, f, h1, h2, h3, h4⟩ := er
  refine ⟨by simpa using l, fun j => if j = i then On else f j, fun j d e => ?_, fun j e b => ?_, fun j k n b => ?_, fun b => ?_⟩
  · by_cases q : j = i
    · subst q
      rw [gt_set_self hi] at e
      cases e
      simpa using hv
    · rw [gt_set_ne (Ne.symm q)] at e
      obtain ⟨v, hv, r⟩ := h1 j d e
      exact ⟨v, hv, by simpa [q] using r⟩
  · by_cases q : j = i
    · subst q
      rw [gt_set_self hi] at e
      cases e
    · rw [gt_set_ne (Ne.symm q)] at e
      simpa [q] using h2 j e b
  · intro x y
    by_cases q : j = i
    · subst q
      have q2 : ¬ k = j := fun z => n z.symm
      simp only [if_true] at x
      simp only [q2, if_false] at y
      exact dj b x ((h4 b).mpr ⟨k, y⟩)
    · simp only [q, if_false] at x
      by_cases q2 : k = i
      · subst q2
        simp only [if_true] at y
        exact dj b y ((h4 b).mpr ⟨j, x⟩)
      · simp only [q2, if_false] at y
        exact h3 j k n b x y
  · constructor
    · rintro (q | q)
      · exact ⟨i, by simpa using q⟩
      · obtain ⟨j, q⟩ := (h4 b).mp q
        refine ⟨j, ?_⟩
        have n : j ≠ i := fun z => h2 i hn b (z ▸ q)
        simpa [n] using q
    · rintro ⟨j, q⟩
      by_cases n : j = i
      · subst n
        exact .inl (by simpa using q)
      · exact .inr ((h4 b).mpr ⟨j, by simpa [n] using q⟩)
theorem Ext.own2 (a : Ext H F O H1 F1 O1) (h : ∀ b, O2 b → O b ∨ H b = none) : Ext H F O H1 F1 O2 := ⟨a.keep, a.dom, a.sub, a.new, h⟩
/-- a list of one's own, rewritten -/
theorem EnvR.relst (er : EnvR K w H F env σ O) (gd : Good H F O) {i : Nat} {xs : List D} (e : gt env i = some (.lst true xs)) : ∃ l vs, σ[i]? = some (some (.ref l)) ∧ H l = some (.lst vs) ∧ Reps K w H F xs vs ∧
    ∀ ys vs', Reps K w H F ys vs' → Hld H F O (upd H l (.lst vs')) F emp O ∧ EnvR K w (upd H l (.lst vs')) F (env.set i (some (.lst true ys))) σ O ∧ ∀ d v, Rep K w H F d v → Rep K w (upd H l (.lst vs')) F d v := by
  obtain ⟨Oi, Or, h1, h2, h3, h4, h5⟩ := er.split i
  obtain ⟨v, hv, r⟩ := h3 _ e
  have r' : ∃ a vs, v = .ref a ∧ H a = some (.lst vs) ∧ Reps K w H F xs vs ∧ ∀ b, Oi b ↔ b = a := r
  obtain ⟨l, vs, rfl, hl, rs, ho⟩ := r'
  refine ⟨l, vs, hv, hl, rs, fun ys vs' rs' => ?_⟩
  have hlt : i < env.length := gt_lt e
  have lO : O l := (h1 l).mpr (.inl ((ho l).mpr rfl))
  have Ox : Ext H F (fun b => b = l) (upd H l (.lst vs')) F (fun b => b = l) := by
    refine ⟨fun b o q n => by rw [upd_ne n]; exact q, fun b q => ?_, fun _ z => z, fun _ z => .inl z, fun _ z => .inl z⟩
    by_cases z : b = l
    · subst z; rw [upd_same]; exact Option.some_ne_none _
    · rw [upd_ne z]; exact q
  have Gl' : Good H F (fun b => b = l) := gd.weak fun b z => by rw [z]; exact lO
  have HL : Hld H F O (upd H l (.lst vs')) F emp O := by
    refine ⟨(Ox.mono fun b z => by rw [z]; exact lO).own2 fun b z => .inl (z.elim (fun q => q.elim) fun q => q), fun b z => z.elim, ⟨fun b z => ?_, fun b z => ?_, fun b z => ?_⟩⟩
    · exact Ox.dom b (gd.fr b z)
    · exact gd.dj b (z.elim (fun q => q.elim) fun q => q)
    · have z' : O b := z.elim (fun q => q.elim) fun q => q
      by_cases q : b = l
      · subst q; exact ⟨_, upd_same⟩
      · obtain ⟨ws, q2⟩ := gd.ls b z'
        exact ⟨ws, by rw [upd_ne q]; exact q2⟩
  refine ⟨HL, ?_, fun d v q => Rep.stab (Ox.stab Gl') d v q⟩
  have e0 : EnvR K w H F (env.set i none) σ (uni emp Or) := h5 none emp (fun b z => z.elim) (fun d z => by cases z) (fun _ b z => z) hlt
  have e1 : EnvR K w (upd H l (.lst vs')) F (env.set i none) σ (uni emp Or) := e0.ext Ox Gl' fun b x y => by
    rcases x with x | x
    · exact x
    · subst y
      exact h2 b ((ho b).mpr rfl) x
  have nl : ¬ Or l := fun z => h2 l ((ho l).mpr rfl) z
  have e2 := e1.put (i := i) (d := .lst true ys) (On := fun b => b = l) (gt_set_self hlt) (by rw [List.length_set]; exact hlt) ⟨_, hv, RepV.own upd_same (Reps.stab (Ox.stab Gl') _ _ rs')⟩ (fun b x y => by
    subst x
    exact y.elim (fun q => q) nl)
  rw [List.set_set] at e2
  exact e2.iff fun b => ⟨fun z => by
    rcases z with z | z | z
    · rw [z]; exact lO
    · exact z.elim
    · exact (h1 b).mpr (.inr z), fun z => by
    rcases (h1 b).mp z with q | q
    · exact .inl ((ho b).mp q)
    · exact .inr (.inr q)⟩
end

/-- a method that changes its list, by values -/
def MutSim (K : PySem.W.Frag) (w : World) (m : MI) (r : V → List V → Hp → VK → Prop) : Prop := ∀ xs ds d ys, mtmut m xs ds = some (d, ys) → ∀ (H : Hp) (F : AS) (l : Addr) (vs us : List V) (Ox : AS) (Q : VK), H l = some (.lst vs) → Reps K w H (fun b => F b ∨ Ox b) xs vs → RL (RV K w) H F [] ds us Ox →
  (∀ v vs', Reps K w H (fun b => F b ∨ Ox b) ys vs' → Rep K w H (fun b => F b ∨ Ox b) d v → Q v (upd H l (.lst vs'))) → r (.ref l) us H Q
theorem RL.rv {K : PySem.W.Frag} {w : World} {H : Hp} {F : AS} {σ τ : L2.St} : ∀ {ds : List D} {vs : List V} {O : AS}, RL (RV K w) H F σ ds vs O → RL (RV K w) H F τ ds vs O
  | [], [], _, h => h
  | [], _ :: _, _, h => False.elim h
  | _ :: _, [], _, h => False.elim h
  | _ :: _, _ :: _, _, ⟨A, B, h1, h2, h3, h4⟩ => ⟨A, B, h1, RL.rv h2, h3, h4⟩
section
variable {K : PySem.W.Frag} {w : World} {C : Ctx} {σ : L2.St} {H : Hp} {Q : VK} {m : MI} {i : Nat} {ms : MEs} {r : V → List V → Hp → VK → Prop}
theorem var_op {env env' : Env} {p : Opd} (h : op C (.var i) env = some (p, env')) : p = .plc i ∧ env' = env ∧ ∃ d, gt env i = some d := by
  unfold op at h
  split at h
  · cases h
    exact ⟨rfl, rfl, _, by assumption⟩
  · cases h
theorem mut_env {env : Env} {z : Opd × Env} (hm : isMut m = true) (e : op C (.meth m (.var i) ms) env = some z) : ∃ xs, gt env i = some (.lst true xs) ∧ ∃ ds e1, opv C ms env = some (ds, e1) ∧ ∃ xs1 d ys, gt e1 i = some (.lst true xs1) ∧ mtmut m xs1 ds = some (d, ys) ∧ z = (.val d, e1.set i (some (.lst true ys))) := by
  unfold op at e
  rw [if_pos hm] at e
  dsimp only at e
  split at e
  · rename_i xs hx
    simp only [Option.bind_eq_bind, Option.bind_eq_some_iff, Prod.exists] at e
    obtain ⟨ds, e1, ev, e⟩ := e
    unfold mutAt at e
    split at e
    · rename_i xs1 hx1
      split at e
      · rename_i d ys hm'
        exact ⟨xs, hx, ds, e1, ev, xs1, d, ys, hx1, hm', (Option.some.inj e).symm⟩
      · cases e
    · cases e
  · cases e
theorem mut_sim (hm : isMut m = true) (hr : MutSim K w m r) (h : TOp K w C (.meth m (.var i) ms) σ H Q) : tBM K "list" r (TOp K w C (.var i)) (TEvs K w C ms) σ H Q := by
  obtain ⟨env, F, O, z, env', er, gd, e, q⟩ := h
  obtain ⟨xs, hx, ds, e1, ev, xs1, d, ys, hx1, hmt, e⟩ := mut_env hm e
  cases e
  refine ⟨env, F, O, .plc i, env, er, gd, ?_, fun vx H1 F1 Ox1 Oe1 s1 rx er1 => ?_⟩
  · unfold op
    rw [hx]
  · obtain ⟨l, vs, hv, hl, rs, _⟩ := er1.relst s1.goodE hx
    have rx1 : σ[i]? = some (some vx) := rx.1
    rw [rx1] at hv
    have evx : vx = .ref l := Option.some.inj (Option.some.inj hv)
    subst evx
    refine ⟨.inl ⟨rfl, vs, .inl (.inl hl)⟩, env, F1, Oe1, ds, e1, er1, s1.goodE, ev, fun us H2 F2 Ox2 Oe2 s2 ra er2 => ?_⟩
    have s12 := s1.step s2
    have sh := (s12.drop (Ox2 := Ox2) fun b z => .inr z).share
    have er3 := er2.more (F' := fun b => F2 b ∨ Ox2 b) fun b z => .inl z
    obtain ⟨l2, vs2, hv2, hl2, rs2, k⟩ := er3.relst sh.goodE hx1
    rw [rx1] at hv2
    have e2 : V.ref l = .ref l2 := Option.some.inj (Option.some.inj hv2)
    cases e2
    refine hr xs1 ds d ys hmt H2 F2 l vs2 us Ox2 Q hl2 rs2 (RL.rv ra) fun v vs' rys rd => ?_
    obtain ⟨k1, k2, k3⟩ := k ys vs' rys
    exact q v _ _ emp _ ((sh.step k1).drop fun b z => z.elim) (.of (k3 d v rd)) k2
theorem mut_sim0 (hm : isMut m = true) (hr : MutSim K w m r) (h : TOp K w C (.meth m (.var i) .nil) σ H Q) : tBM0 K "list" r (TOp K w C (.var i)) σ H Q := by
  obtain ⟨env, F, O, p, env', er, gd, e, k⟩ := mut_sim hm hr h
  refine ⟨env, F, O, p, env', er, gd, e, fun vx H1 F1 Ox1 Oe1 s1 rx er1 => ?_⟩
  obtain ⟨k1, env2, F2, O2, ds, env3, er2, gd2, e2, k2⟩ := k vx H1 F1 Ox1 Oe1 s1 rx er1
  unfold opv at e2
  cases e2
  exact ⟨k1, k2 [] H1 F2 emp O2 (Hld.refl gd2) (fun _ z => z) er2⟩
/-- the methods -/
theorem append_sim : MutSim K w .append rAppend := by
  intro xs ds d ys e H F l vs us Ox Q hl rs ra k
  rcases ds with _ | ⟨x, _ | ⟨y, r⟩⟩
  · cases e
  · have e' : (if xs.length < 16777216 then some (D.non, xs ++ [frz x]) else none) = some (d, ys) := e
    by_cases c : xs.length < 16777216
    · rw [if_pos c] at e'
      cases e'
      have rf := RL.frz ra
      rcases us with _ | ⟨u, _ | ⟨u2, us⟩⟩
      · exact False.elim ra
      · exact ⟨l, vs, u, rfl, rfl, hl, by rw [← rs.length]; exact c, k .non _ (rs.append rf) rep_non⟩
      · obtain ⟨_, _, _, h2, _⟩ := ra
        exact False.elim h2
    · rw [if_neg c] at e'
      cases e'
  · cases e
theorem pop_sim : MutSim K w .pop rPop := by
  intro xs ds d ys e H F l vs us Ox Q hl rs ra k
  rcases ds with _ | ⟨x, r⟩
  · have e' : (match xs.getLast? with | some x => some (x, xs.dropLast) | none => none) = some (d, ys) := e
    split at e'
    · rename_i x hx
      cases e'
      rw [List.getLast?_eq_getElem?] at hx
      obtain ⟨v, hv, rv⟩ := rs.get hx
      rcases us with _ | ⟨u, us⟩
      · refine ⟨l, vs, v, rfl, rfl, hl, by rw [← rs.length]; exact hv, k v _ ?_ rv⟩
        rw [List.dropLast_eq_take, List.dropLast_eq_take, ← rs.length]
        exact rs.take _
      · exact False.elim ra
    · cases e'
  · cases e
theorem extend_sim : MutSim K w .extend (fun x vs H Q => rExtend x vs H Q ∨ ∃ l b xs zs, x = .ref l ∧ vs = [.ref b] ∧ H l = some (.lst xs) ∧ SqT K H b zs ∧ xs.length + zs.length ≤ sizeLine ∧ Q .non (upd H l (.lst (xs ++ zs)))) := by
  intro xs ds d ys e H F l vs us Ox Q hl rs ra k
  rcases ds with _ | ⟨x, _ | ⟨y, r⟩⟩
  · cases e
  · rcases us with _ | ⟨u, _ | ⟨u2, us⟩⟩
    · exact False.elim ra
    · obtain ⟨A, B, h1, h2, h3, h4⟩ := ra
      have h1 : RepV K w H F x u A := h1
      cases x with
      | lst o zs =>
        cases o with
        | false => cases e
        | true =>
          have e' : (if xs.length + zs.length ≤ 16777216 then some (D.non, xs ++ zs) else none) = some (d, ys) := e
          by_cases c : xs.length + zs.length ≤ 16777216
          · rw [if_pos c] at e'
            cases e'
            obtain ⟨b, ws, rfl, hb, rz, hA⟩ : ∃ a vs, u = .ref a ∧ H a = some (.lst vs) ∧ Reps K w H F zs vs ∧ ∀ b, A b ↔ b = a := h1
            refine .inl ⟨l, b, vs, ws, rfl, rfl, hl, hb, by rw [← rs.length, ← rz.length]; exact c, k .non _ (rs.append (Reps.stab (Stab.more fun b z => .inl z) _ _ rz)) rep_non⟩
          · rw [if_neg c] at e'
            cases e'
      | tup zs =>
        have e' : (if xs.length + zs.length ≤ 16777216 then some (D.non, xs ++ zs) else none) = some (d, ys) := e
        by_cases c : xs.length + zs.length ≤ 16777216
        · rw [if_pos c] at e'
          cases e'
          obtain ⟨b, ws, rfl, hb, rz⟩ := h1.tup
          refine .inr ⟨l, b, vs, ws, rfl, rfl, hl, hb, by rw [← rs.length, ← rz.length]; exact c, k .non _ (rs.append (Reps.stab (Stab.more fun b z => .inl z) _ _ rz)) rep_non⟩
        · rw [if_neg c] at e'
          cases e'
      | _ => cases e
    · obtain ⟨_, _, _, h2, _⟩ := ra
      exact False.elim h2
  · cases x <;> first | (cases e; done) | (rename_i o zs; cases o <;> cases e)
end
section
variable {X : Cx}
theorem extend_tup (l : Addr) (items : Array Value) (n : Nat) (b : Addr) (items2 : Array Value) (n2 : Nat) (dc : Option Addr) (sl : Array (Option Value)) (hs0 : ¬(!items.isEmpty && Builtin.List.listTooLong (items.size + items2.size)) = true) (hs1 : items.size ≤ sizeLine) (hs2 : items.size + items2.size ≤ sizeLine + 1) :
    Meets (Builtin.«list.extend» ⟨[.ref l, .ref b], []⟩) (fun _ R s => s.heap.get? l = some { cls := .type "list", dict := none, data := .seq items n, slots := #[] } ∧ s.heap.get? b = some { cls := .type "tuple", dict := dc, data := .seq items2 n2, slots := sl } ∧ R (.ok (.ret Value.none)) { s with heap := s.heap.update l (Obj.mapSeq fun x => x ++ items2), toks := s.toks }) :=
  .of_wp fun prog w A R s h => by
    obtain ⟨hp, g, d, tk, os⟩ := s; obtain ⟨hl, hb, h⟩ := h; have f1 := AutoSeq1.idx_int; have f2 := AutoSeq1.sub_tuple_tuple; have f3 := AutoSeq1.sub_list_list; have f4 := AutoSeq1.sub_tuple_list; have f5 := AutoSeq1.sub_list_tuple;
    have hz' : (items ++ items2).size ≤ sizeLine + 1 := by rw [Array.size_append]; exact hs2
    wp_walk using (wpAny_updateSeq hl rfl (hz := hs1) (_hz' := hz')), AutoSeq1.wpAny_loadPart' hl, AutoSeq1.wpAny_loadPart' hb; exact ⟨_, rfl, h⟩
theorem mt_extendT : MtM X "list.extend" (fun x vs H Q => ∃ l b xs zs, x = .ref l ∧ vs = [.ref b] ∧ H l = some (.lst xs) ∧ SqT X.K H b zs ∧ xs.length + zs.length ≤ sizeLine ∧ Q .non (upd H l (.lst (xs ++ zs)))) := by
  intro pins s σ H x vs v us Q I rx rv h
  obtain ⟨l, b, xs, zs, rfl, rfl, hH, hB, hz, q⟩ := h
  cases rx
  obtain ⟨u, rfl, ru⟩ := rv.one
  cases ru
  obtain ⟨z, its, n, r, hl, e⟩ := I.lstM hH
  obtain ⟨its2, r2, ht, hz2⟩ := I.tuple hB
  obtain ⟨⟨cl, dc, dt, sl⟩, e2, c1, n2, c2⟩ := ht
  cases c1
  cases c2
  have hl2 := r2.length
  have hsz : its.toArray.size + its2.toArray.size ≤ sizeLine := by rw [List.size_toArray, List.size_toArray]; omega
  have hlong : ¬ (!its.toArray.isEmpty && Builtin.List.listTooLong (its.toArray.size + its2.toArray.size)) = true := by
    rw [notLongL hsz, Bool.and_false]
    exact Bool.false_ne_true
  refine call_meets F.slot_list_extend ⟨_, e, rfl⟩ F.entry_list_extend (F.args_list_extend_2 _ _)
    (extend_tup l its.toArray n b its2.toArray n2 dc sl hlong (by rw [List.size_toArray]; omega) (by omega)) ⟨e, e2, ?_⟩
  refine ⟨.non, _, I.lset (its' := its ++ its2) hH e (by simp) (r.append r2) ?_, rfl, q⟩
  rw [List.length_append]
  omega
theorem MtM.or {id : String} {r r' : V → List V → Hp → VK → Prop} (h : MtM X id r) (h' : MtM X id r') : MtM X id (fun x vs H Q => r x vs H Q ∨ r' x vs H Q) := by
  intro pins s σ H x vs v us Q I rx rv q
  exact q.elim (h pins s σ H x vs v us Q I rx rv) (h' pins s σ H x vs v us Q I rx rv)
end
end Mp

end
section
set_option Elab.async false
set_option linter.all false
/-! Mp12: what is walked. -/
namespace Mp
open PySem PySem.Spec PyProof.Rows L2

/-- the keys of a written dict -/
def Itw (ks : List Str) : It := ⟨fun i _ => i < ks.length, fun i H v H' => H' = H ∧ ∃ k, ks[i]? = some k ∧ v = .str k, fun i _ => ks.length ≤ i⟩
def keyTxt (e : DictEntry) : Option Str := match e.key with
  | .str x _ => some x
  | _ => none
theorem turn_keysW {P : Program} {w : World} {K : PySem.W.Frag} {tg : Expr} {d : Addr} {es : Array DictEntry} {n : Nat} {ks : List Str} (it : Addr) (D : KDict K w d es n) (hk : es.toList.map keyTxt = ks.map some) :
    Turn P w K tg (Itw ks) [it] it (fun i h => h.IsKeyIter it d i es.size n) where
  mem := by simp
  obj := fun i h st b hb => by
    have e : b = it := by simpa using hb
    subst e
    obtain ⟨oi, e, c, dd⟩ := st
    exact ⟨oi, e, fun v z => by rw [dd] at z; cases z⟩
  keep := fun i h h' st k => st.at fun oi e => k it (by simp) oi e
  item := by
    intro X hP hw hK hc i pins s σ H E I hf st hg
    subst hP hw hK
    obtain ⟨f0, f1, f2, f3, f4, f5⟩ := hf it (by simp)
    have hg : i < ks.length := hg
    have hl : es.size = ks.length := by
      have := congrArg List.length hk
      simpa using this
    have hx : es[i]? = some es[i] := Array.getElem?_eq_getElem (by omega)
    have hkey : keyTxt es[i] = some ks[i] := by
      have q := congrArg (fun l => l[i]?) hk
      simp only [List.getElem?_map, Array.getElem?_toList] at q
      rw [hx, List.getElem?_eq_getElem hg] at q
      exact Option.some.inj q
    refine next_key_item st (I.kIn d _ D.at_) rfl rfl hx fun h' st' sb => ?_
    have I1 : Inv X pins σ H { s with heap := h' } := I.turned (t' := s.toks) (fun b ob hb e => (sb.2 b hb).trans e) f0 f1 f3 f4 f5
    obtain ⟨oi, e, c, dd⟩ := id st'
    refine ⟨_, rfl, go_of (s := { s with heap := h' }) e c dd (by decide) ⟨.str ks[i], H, I1, ?_, ⟨rfl, ks[i], List.getElem?_eq_getElem hg, rfl⟩, st', fun b hb => (hf b hb).1⟩⟩
    unfold keyTxt at hkey
    split at hkey
    · rename_i x t q
      cases hkey
      exact ⟨t, q⟩
    · cases hkey
  done := by
    intro X hP hw hK hc i pins s σ H E I hf st hg
    subst hP hw hK
    obtain ⟨f0, f1, f2, f3, f4, f5⟩ := hf it (by simp)
    have hl : es.size = ks.length := by
      have := congrArg List.length hk
      simpa using this
    have hg : ks.length ≤ i := hg
    exact next_key_end (I.ok.hd hc) st (I.kIn d _ D.at_) rfl rfl (by omega) fun h' eb => ⟨rfl, I.turned (t' := s.toks) (fun b ob hb e => eb b ob hb e) f0 f1 f3 f4 f5⟩
  self := fun A i s Q E st h => wpAny_pyIter_keyiter st h
def iKeysW (K : PySem.W.Frag) (w : World) (td : TE) : TI := fun σ H R => td σ H fun x H1 => ∃ d es n ks, x = .ref d ∧ KDict K w d es n ∧ es.toList.map keyTxt = ks.map some ∧ R (Itw ks) H1
theorem pi_keysW {X : Cx} {tg e : Expr} {td : TE} (he : PE X e td) : PI X tg e (iKeysW X.K X.w td) := by
  refine ⟨fun pins s σ H R I h => ?_⟩
  refine thn (he.run pins s σ H _ I h) fun u s1 ⟨x, H1, I1, rx, d, es, n, ks, ex, D, hk, q⟩ => ?_
  subst ex
  obtain rfl : u = Value.ref d := rx
  refine iter_keys D.low (I1.kIn d _ D.at_) ⟨rfl, rfl, rfl⟩ rfl (pi_one (tk := s1.toks) I1 _ (turn_keysW _ D hk) ⟨_, Heap.get?_push_size _ rfl, rfl, rfl⟩ q)
theorem PI.or {X : Cx} {tg e : Expr} {t t' : TI} (h : PI X tg e t) (h' : PI X tg e t') : PI X tg e (fun σ H R => t σ H R ∨ t' σ H R) :=
  ⟨fun pins s σ H R I q => q.elim (h.run pins s σ H R I) (h'.run pins s σ H R I)⟩
theorem PI.imp {X : Cx} {tg e : Expr} {t t' : TI} (h : PI X tg e t) (i : ∀ σ H R, t' σ H R → t σ H R) : PI X tg e t' := ⟨fun pins s σ H R I q => h.run pins s σ H R I (i σ H R q)⟩
theorem PI.absurd {X : Cx} {tg e : Expr} {t : TI} (i : ∀ σ H R, ¬ t σ H R) : PI X tg e t := ⟨fun _ _ σ H R _ q => (i σ H R q).elim⟩

/-- the iterator gives what is walked, however the heap has grown -/
def WkR (K : PySem.W.Frag) (w : World) (H : Hp) (F : AS) (σ : L2.St) (J : It) (wk : Wk) : Prop := ∀ H' F' env' σ' O', Stab H F H' F' → EnvR K w H' F' env' σ' O' → (∀ i, wk.slot = some i → σ'[i]? = σ[i]?) → ∀ ys, wk.get env' = some ys → ∀ t,
  (t = ys.length → J.stop t H') ∧ ∀ x, ys[t]? = some x → J.go t H' ∧ ∀ v H'', J.yld t H' v H'' → Grow H' H'' ∧ Rep K w H'' F' x v
def TWk (K : PySem.W.Frag) (w : World) (C : Ctx) (it : MI2) : TI := fun σ H R => ∃ env F O wk env', EnvR K w H F env σ O ∧ Good H F O ∧ walk C it env = some (wk, env') ∧
  ∀ J H' F' Oe, Hld H F O H' F' emp Oe → WkR K w H' F' σ J wk → EnvR K w H' F' env' σ Oe → R J H'
def JI (g : GI) (N : List Str) (sc : Scope) (C : Ctx) (tg e : Expr) (it : MI2) : Prop := ∀ X : Cx, CtxOk g N sc C X → PI X tg e (TWk X.K X.w C it)

section
variable {K : PySem.W.Frag} {w : World} {H H' H1 H2 : Hp} {F F' F1 F2 O O' O1 O2 Ox Oe Ox1 Oe1 Ox2 Oe2 : AS} {d : D} {v : V} {σ : L2.St} {env env' env1 env2 : Env}
theorem wk_itl {a : Addr} {xs : List D} {vs : List V} (s : SqL K H a vs) (r : Reps K w H F xs vs) (t : Nat) : (t = xs.length → (Itl K a).stop t H) ∧ ∀ x, xs[t]? = some x → (Itl K a).go t H ∧ ∀ v H'', (Itl K a).yld t H v H'' → Grow H H'' ∧ Rep K w H'' F x v := by
  refine ⟨fun e => ⟨vs, s, by rw [e, r.length]; exact Nat.le_refl _⟩, fun x hx => ?_⟩
  obtain ⟨u, hu, ru⟩ := r.get hx
  refine ⟨⟨vs, u, s, hu⟩, fun v H'' ⟨e1, e2⟩ => ?_⟩
  subst e1
  have := e2 vs s
  rw [hu] at this
  cases this
  exact ⟨.refl, ru⟩
theorem wk_itt {a : Addr} {xs : List D} {vs : List V} (s : SqT K H a vs) (r : Reps K w H F xs vs) (t : Nat) : (t = xs.length → (Itt K a).stop t H) ∧ ∀ x, xs[t]? = some x → (Itt K a).go t H ∧ ∀ v H'', (Itt K a).yld t H v H'' → Grow H H'' ∧ Rep K w H'' F x v := by
  refine ⟨fun e => ⟨vs, s, by rw [e, r.length]; exact Nat.le_refl _⟩, fun x hx => ?_⟩
  obtain ⟨u, hu, ru⟩ := r.get hx
  refine ⟨⟨vs, u, s, hu⟩, fun v H'' ⟨e1, e2⟩ => ?_⟩
  subst e1
  have := e2 vs s
  rw [hu] at this
  cases this
  exact ⟨.refl, ru⟩
theorem enumd_get {xs : List D} {x : D} : ∀ {i : Int} {t : Nat}, (enumd i xs)[t]? = some x → ∃ y, xs[t]? = some y ∧ x = .tup [.int (i + t), y] := by
  induction xs with
  | nil => intro i t h; cases h
  | cons z r ih =>
    intro i t h
    cases t with
    | zero =>
      have h' : some (D.tup [.int i, z]) = some x := h
      cases h'
      exact ⟨z, rfl, by simp⟩
    | succ t =>
      obtain ⟨y, h1, h2⟩ := ih (i := i + 1) (t := t) h
      refine ⟨y, h1, ?_⟩
      rw [h2]
      have : i + 1 + (t : Int) = i + ((t + 1 : Nat) : Int) := by omega
      rw [this]
theorem enumd_length : ∀ (xs : List D) (i : Int), (enumd i xs).length = xs.length
  | [], _ => rfl
  | _ :: r, i => congrArg (· + 1) (enumd_length r (i + 1))
theorem wk_ite {a : Addr} {xs : List D} {vs : List V} (s : SqL K H a vs) (r : Reps K w H F xs vs) (t : Nat) : (t = (enumd 0 xs).length → (Ite K a).stop t H) ∧ ∀ x, (enumd 0 xs)[t]? = some x → (Ite K a).go t H ∧ ∀ v H'', (Ite K a).yld t H v H'' → Grow H H'' ∧ Rep K w H'' F x v := by
  refine ⟨fun e => ⟨vs, s, by rw [e, enumd_length, r.length]; exact Nat.le_refl _⟩, fun x hx => ?_⟩
  obtain ⟨y, hy, ex⟩ := enumd_get hx
  obtain ⟨u, hu, ru⟩ := r.get hy
  refine ⟨⟨vs, u, s, hu⟩, fun v H'' ⟨T, x', e1, hT, e2, e3⟩ => ?_⟩
  subst e1 e2
  have := e3 vs s
  rw [hu] at this
  cases this
  have gr : Grow H (upd H T (.tup [.int (t : Nat), u])) := Grow.upd hT
  refine ⟨gr, ?_⟩
  rw [ex, Int.zero_add]
  exact rep_tup (.of upd_same) (.cons rep_int (.cons (Rep.stab gr.stab _ _ ru) .nil))
theorem wk_its (x : Txt) (t : Nat) : (t = (x.map fun c => D.str [c]).length → (Its (st x)).stop t H) ∧ ∀ y, (x.map fun c => D.str [c])[t]? = some y → (Its (st x)).go t H ∧ ∀ v H'', (Its (st x)).yld t H v H'' → Grow H H'' ∧ Rep K w H'' F y v := by
  have sz : (st x).cps.size = x.length := by show x.toArray.size = _; simp
  refine ⟨fun e => ?_, fun y hy => ?_⟩
  · show (st x).cps.size ≤ t
    rw [sz, e, List.length_map]
    exact Nat.le_refl _
  · rw [List.getElem?_map] at hy
    obtain ⟨c, hc, e⟩ := Option.map_eq_some_iff.mp hy
    refine ⟨?_, fun v H'' ⟨e1, c', hc', e2⟩ => ?_⟩
    · show t < (st x).cps.size
      rw [sz]
      exact (List.getElem?_eq_some_iff.mp hc).1
    · subst e1 e2 e
      have q : (st x).cps[t]? = x[t]? := by show x.toArray[t]? = _; simp
      rw [q, hc] at hc'
      cases hc'
      exact ⟨.refl, rep_str⟩
theorem wk_itw (kvs : List (Txt × D)) (t : Nat) : (t = (kvs.map fun p => D.str p.1).length → (Itw (kvs.map fun p => st p.1)).stop t H) ∧ ∀ y, (kvs.map fun p => D.str p.1)[t]? = some y → (Itw (kvs.map fun p => st p.1)).go t H ∧ ∀ v H'', (Itw (kvs.map fun p => st p.1)).yld t H v H'' → Grow H H'' ∧ Rep K w H'' F y v := by
  refine ⟨fun e => ?_, fun y hy => ?_⟩
  · show (kvs.map fun p => st p.1).length ≤ t
    rw [e, List.length_map, List.length_map]
    exact Nat.le_refl _
  · rw [List.getElem?_map] at hy
    obtain ⟨c, hc, e⟩ := Option.map_eq_some_iff.mp hy
    refine ⟨?_, fun v H'' ⟨e1, c', hc', e2⟩ => ?_⟩
    · show t < (kvs.map fun p => st p.1).length
      rw [List.length_map]
      exact (List.getElem?_eq_some_iff.mp hc).1
    · subst e1 e2 e
      rw [List.getElem?_map, hc] at hc'
      cases hc'
      exact ⟨.refl, rep_str⟩
theorem ranged_get {x : D} : ∀ {n : Nat} {i : Int} {t : Nat}, (ranged i n)[t]? = some x → t < n ∧ x = .int (i + t)
  | 0, _, _, h => by cases h
  | n + 1, i, 0, h => by
    have h' : some (D.int i) = some x := h
    cases h'
    exact ⟨Nat.succ_pos _, by simp⟩
  | n + 1, i, t + 1, h => by
    obtain ⟨h1, h2⟩ := ranged_get (n := n) (i := i + 1) (t := t) h
    refine ⟨Nat.succ_lt_succ h1, ?_⟩
    rw [h2]
    have : i + 1 + (t : Int) = i + ((t + 1 : Nat) : Int) := by omega
    rw [this]
theorem ranged_length : ∀ (n : Nat) (i : Int), (ranged i n).length = n
  | 0, _ => rfl
  | n + 1, i => congrArg (· + 1) (ranged_length n (i + 1))
theorem wk_itr (i : Int) (n t : Nat) : (t = (ranged i n).length → (Itr i n).stop t H) ∧ ∀ y, (ranged i n)[t]? = some y → (Itr i n).go t H ∧ ∀ v H'', (Itr i n).yld t H v H'' → Grow H H'' ∧ Rep K w H'' F y v := by
  refine ⟨fun e => ?_, fun y hy => ?_⟩
  · show n ≤ t
    rw [e, ranged_length]
    exact Nat.le_refl _
  · obtain ⟨h1, h2⟩ := ranged_get hy
    refine ⟨h1, fun v H'' ⟨e1, e2⟩ => ?_⟩
    subst e1 e2 h2
    exact ⟨.refl, rep_int⟩
theorem lstAt_of (er : EnvR K w H F env σ O) {i : Nat} {ys : List D} (e : lstAt env i = some ys) : ∃ a vs, σ[i]? = some (some (.ref a)) ∧ SqL K H a vs ∧ Reps K w H F ys vs := by
  unfold lstAt at e
  split at e
  · rename_i o xs hx
    cases e
    obtain ⟨v, Oi, h1, h2, _⟩ := er.get hx
    obtain ⟨a, vs, rfl, h3, h4⟩ := h2.lst
    exact ⟨a, vs, h1, h3, h4⟩
  · cases e
theorem wk_live {a : Addr} {i : Nat} (hv : σ[i]? = some (some (.ref a))) : WkR K w H F σ (Itl K a) (.live i) := fun H' F' env' σ' O' sb er hs ys hy t => by
  obtain ⟨b, vs, h1, h2, h3⟩ := lstAt_of er hy
  rw [hs i rfl, hv] at h1
  cases h1
  exact wk_itl h2 h3 t
theorem wk_liveE {a : Addr} {i : Nat} (hv : σ[i]? = some (some (.ref a))) : WkR K w H F σ (Ite K a) (.liveE i) := fun H' F' env' σ' O' sb er hs ys hy t => by
  obtain ⟨xs, hx, rfl⟩ := Option.map_eq_some_iff.mp (show (lstAt env' i).map (enumd 0) = some ys from hy)
  obtain ⟨b, vs, h1, h2, h3⟩ := lstAt_of er hx
  rw [hs i rfl, hv] at h1
  cases h1
  exact wk_ite h2 h3 t
theorem wk_fix {J : It} {xs : List D} (h : ∀ H' F', Stab H F H' F' → ∀ t, (t = xs.length → J.stop t H') ∧ ∀ x, xs[t]? = some x → J.go t H' ∧ ∀ v H'', J.yld t H' v H'' → Grow H' H'' ∧ Rep K w H'' F' x v) : WkR K w H F σ J (.fix xs) := fun H' F' env' σ' O' sb er hs ys hy t => by
  have e : xs = ys := Option.some.inj hy
  subst e
  exact h H' F' sb t
end

section
variable {g : GI} {N : List Str} {sc : Scope} {C : Ctx} {a b c tg : Expr} {ma mb mc : ME} {pos p0 : Pos}
theorem wk_val_sim {X : Cx} {σ : L2.St} {H : Hp} {R : It → Hp → Prop} (h : TWk X.K X.w C (.seq ma) σ H R) :
    iList X.K (TOp X.K X.w C ma) σ H R ∨ iTup X.K (TOp X.K X.w C ma) σ H R ∨ iStr (TOp X.K X.w C ma) σ H R ∨ iKeysW X.K X.w (TOp X.K X.w C ma) σ H R := by
  obtain ⟨env, F, O, wk, env', er, gd, e, q⟩ := h
  simp only [walk, Option.bind_eq_bind, Option.bind_eq_some_iff, Prod.exists] at e
  obtain ⟨p, e1, ea, e⟩ := e
  -- a value that is not a list of a slot's own
  have go : ∀ (d : D) (xs : List D), walkD d = some xs → env' = e1 → wk = .fix xs → (∀ vx H1 F1 Ox1 Oe1, Hld H F O H1 F1 Ox1 Oe1 → RO X.K X.w H1 F1 σ p vx Ox1 → EnvR X.K X.w H1 F1 e1 σ Oe1 → ∃ F2, Hld H F O H1 F2 emp Oe1 ∧ EnvR X.K X.w H1 F2 e1 σ Oe1 ∧ Rep X.K X.w H1 F2 (frz d) vx) →
      iList X.K (TOp X.K X.w C ma) σ H R ∨ iTup X.K (TOp X.K X.w C ma) σ H R ∨ iStr (TOp X.K X.w C ma) σ H R ∨ iKeysW X.K X.w (TOp X.K X.w C ma) σ H R := by
    intro d xs hd he hw hr
    subst he hw
    cases d with
    | lst o ys =>
      refine .inl ⟨env, F, O, p, env', er, gd, ea, fun vx H1 F1 Ox1 Oe1 s1 rx er1 => ?_⟩
      obtain ⟨F2, s2, er2, r⟩ := hr vx H1 F1 Ox1 Oe1 s1 rx er1
      have r0 : Rep X.K X.w H1 F2 (.lst false ys) _ := r
      unfold Rep at r0
      obtain ⟨a', vs', e5, h3, h4⟩ := r0
      have e2 := Option.some.inj hd
      subst e2
      exact ⟨a', e5, ⟨vs', h3.sq⟩, q _ H1 F2 Oe1 s2 (wk_fix fun H' F' sb t => wk_itl (sb.lf h3).sq (Reps.stab sb _ _ h4) t) er2⟩
    | tup ys =>
      refine .inr (.inl ⟨env, F, O, p, env', er, gd, ea, fun vx H1 F1 Ox1 Oe1 s1 rx er1 => ?_⟩)
      obtain ⟨F2, s2, er2, r⟩ := hr vx H1 F1 Ox1 Oe1 s1 rx er1
      have r0 : Rep X.K X.w H1 F2 (.tup ys) _ := r
      unfold Rep at r0
      obtain ⟨a', vs', e5, h3, h4⟩ := r0
      have e2 := Option.some.inj hd
      subst e2
      exact ⟨a', e5, ⟨vs', h3⟩, q _ H1 F2 Oe1 s2 (wk_fix fun H' F' sb t => wk_itt (sb.rdT h3) (Reps.stab sb _ _ h4) t) er2⟩
    | str x =>
      refine .inr (.inr (.inl ⟨env, F, O, p, env', er, gd, ea, fun vx H1 F1 Ox1 Oe1 s1 rx er1 => ?_⟩))
      obtain ⟨F2, s2, er2, r⟩ := hr vx H1 F1 Ox1 Oe1 s1 rx er1
      have r0 : Rep X.K X.w H1 F2 (.str x) _ := r
      unfold Rep at r0
      have e2 := Option.some.inj hd
      subst e2
      exact ⟨_, r0, q _ H1 F2 Oe1 s2 (wk_fix fun H' F' sb t => wk_its x t) er2⟩
    | dct kvs =>
      refine .inr (.inr (.inr ⟨env, F, O, p, env', er, gd, ea, fun vx H1 F1 Ox1 Oe1 s1 rx er1 => ?_⟩))
      obtain ⟨F2, s2, er2, r⟩ := hr vx H1 F1 Ox1 Oe1 s1 rx er1
      have r0 : Rep X.K X.w H1 F2 (.dct kvs) vx := r
      obtain ⟨a, rfl, ⟨es, n, D, hk, _⟩, _⟩ := (RepV.of r0).dct
      have e2 := Option.some.inj hd
      subst e2
      refine ⟨a, es, n, kvs.map fun p => st p.1, rfl, D, ?_, q _ H1 F2 Oe1 s2 (wk_fix fun H' F' sb t => wk_itw kvs t) er2⟩
      rw [List.map_map] at hk ⊢
      exact hk
    | _ => cases hd
  cases p with
  | val d =>
    simp only [wkOf] at e
    split at e
    · rename_i xs hx
      obtain ⟨rfl, rfl⟩ := Prod.mk.inj (Option.some.inj e)
      refine go d xs hx rfl rfl fun vx H1 F1 Ox1 Oe1 s1 rx er1 => ⟨fun b => F1 b ∨ Ox1 b, s1.share, er1.more fun b z => .inl z, RepV.frz rx⟩
    · cases e
  | plc i =>
    simp only [wkOf] at e
    split at e
    · rename_i xs hx
      obtain ⟨rfl, rfl⟩ := Prod.mk.inj (Option.some.inj e)
      refine .inl ⟨env, F, O, .plc i, e1, er, gd, ea, fun vx H1 F1 Ox1 Oe1 s1 rx er1 => ?_⟩
      have hl : lstAt e1 i = some xs := by unfold lstAt; rw [hx]
      obtain ⟨a, vs, h1, h2, h3⟩ := lstAt_of er1 hl
      have r1 : σ[i]? = some (some vx) := rx.1
      rw [r1] at h1
      cases h1
      exact ⟨a, rfl, ⟨vs, h2⟩, q _ H1 F1 Oe1 s1.zero (wk_live r1) er1⟩
    · rename_i d hn hd
      split at e
      · rename_i xs hx
        obtain ⟨rfl, rfl⟩ := Prod.mk.inj (Option.some.inj e)
        refine go d xs hx rfl rfl fun vx H1 F1 Ox1 Oe1 s1 rx er1 => ⟨F1, s1.zero, er1, ?_⟩
        obtain ⟨u, Oi, h1, h2, _⟩ := er1.get hd
        have r1 : σ[i]? = some (some vx) := rx.1
        rw [r1] at h1
        cases h1
        have ho : isOwn d = false := by
          cases d with
          | lst o ys =>
            cases o with
            | true => exact (hn ys rfl).elim
            | false => rfl
          | _ => rfl
        have ef : frz d = d := by
          cases d with
          | lst o ys =>
            cases o with
            | true => cases ho
            | false => rfl
          | _ => rfl
        rw [ef]
        exact h2.rep ho
      · cases e
    · cases e
theorem ji_seq (ha : J g N sc C a ma) : JI g N sc C tg a (.seq ma) := fun X c =>
  PI.imp (PI.or (pi_list (ha X c)) (PI.or (pi_tup (ha X c)) (PI.or (pi_str (ha X c)) (pi_keysW (ha X c))))) fun σ H R h => wk_val_sim h
theorem ji_range1 (hx : ("range" : Str) ∈ g.free) (hs : sc.names.lookup ("range" : Str) = some .globalImplicit) (he : ∀ env : PySem.Env, starEach [a] env = [(false, eval a env)]) (ha : J g N sc C a ma) : JI g N sc C tg (.Call (.Name "range" p0) [a] [] pos) (.range1 ma) := fun X c =>
  PI.imp (pi_range1 (c.gl _ hs) (c.free _ hx) (pa_cons (ha X c) pa_nil (he _)) (he _)) fun σ H R h => by
    obtain ⟨env, F, O, wk, env', er, gd, e, q⟩ := h
    simp only [walk, Option.bind_eq_bind, Option.bind_eq_some_iff, Prod.exists] at e
    obtain ⟨p, e1, ea, e⟩ := e
    split at e
    · rename_i j hj
      by_cases hb : big62 j = true
      · rw [if_pos hb] at e
        obtain ⟨rfl, rfl⟩ := Prod.mk.inj (Option.some.inj e)
        refine ⟨env, F, O, p, e1, er, gd, ea, fun vx H1 F1 Ox1 Oe1 s1 rx er1 => ?_⟩
        obtain ⟨A, qx, _⟩ := rx.get er1 hj
        have hb' := of_decide_eq_true hb
        exact ⟨j, by rw [qx.int], hb'.1, hb'.2, q _ H1 F1 Oe1 s1.zero (wk_fix fun H' F' sb t => wk_itr 0 j.toNat t) er1⟩
      · rw [if_neg hb] at e
        cases e
    · cases e
theorem ji_range2 (hx : ("range" : Str) ∈ g.free) (hs : sc.names.lookup ("range" : Str) = some .globalImplicit) (he : ∀ env : PySem.Env, starEach [a, b] env = [(false, eval a env), (false, eval b env)]) (he2 : ∀ env : PySem.Env, starEach [b] env = [(false, eval b env)]) (ha : J g N sc C a ma) (hb : J g N sc C b mb) : JI g N sc C tg (.Call (.Name "range" p0) [a, b] [] pos) (.range2 ma mb) := fun X c =>
  PI.imp (pi_range2 (c.gl _ hs) (c.free _ hx) (pa_cons (ha X c) (pa_cons (hb X c) pa_nil (he2 _)) (by rw [he, he2])) (he _) (he2 _)) fun σ H R h => by
    obtain ⟨env, F, O, wk, env', er, gd, e, q⟩ := h
    simp only [walk, Option.bind_eq_bind, Option.bind_eq_some_iff, Prod.exists] at e
    obtain ⟨p, e1, ea, p2, e2, eb, e⟩ := e
    split at e
    · rename_i i j hi hj
      by_cases hb : (big62 i && big62 j) = true
      · rw [if_pos hb] at e
        obtain ⟨rfl, rfl⟩ := Prod.mk.inj (Option.some.inj e)
        refine ⟨env, F, O, p, e1, er, gd, ea, fun vx H1 F1 Ox1 Oe1 s1 rx er1 => ?_⟩
        refine ⟨e1, F1, Oe1, p2, e2, er1, s1.goodE, eb, fun vy H2 F2 Ox2 Oe2 s2 ry er2 => ?_⟩
        obtain ⟨A, qx, _⟩ := (RO.past s1 s2 rx fun _ z => z).get er2 hi
        obtain ⟨B, qy, _⟩ := ry.get er2 hj
        obtain ⟨b1, b2⟩ := Bool.and_eq_true_iff.mp hb
        have b1' := of_decide_eq_true b1
        have b2' := of_decide_eq_true b2
        exact ⟨i, j, by rw [qx.int, qy.int], ⟨b1'.1, b1'.2, b2'.1, b2'.2⟩, q _ H2 F2 Oe2 (s1.step s2).zero (wk_fix fun H' F' sb t => wk_itr i _ t) er2⟩
      · rw [if_neg hb] at e
        cases e
    · cases e
theorem ji_enum {elts : List Expr} {kk : Nat} {tpos : Pos} (hx : ("enumerate" : Str) ∈ g.free) (hs : sc.names.lookup ("enumerate" : Str) = some .globalImplicit) (he : ∀ env : PySem.Env, starEach [a] env = [(false, eval a env)]) (ha : J g N sc C a ma) : JI g N sc C (.Tuple elts kk tpos) (.Call (.Name "enumerate" p0) [a] [] pos) (.enum ma) := fun X c =>
  PI.imp (pi_enum (c.gl _ hs) (c.free _ hx) (pa_cons (ha X c) pa_nil (he _)) (he _)) fun σ H R h => by
    obtain ⟨env, F, O, wk, env', er, gd, e, q⟩ := h
    simp only [walk, Option.bind_eq_bind, Option.bind_eq_some_iff, Prod.exists] at e
    obtain ⟨p, e1, ea, e⟩ := e
    refine ⟨env, F, O, p, e1, er, gd, ea, fun vx H1 F1 Ox1 Oe1 s1 rx er1 => ?_⟩
    cases p with
    | plc i =>
      have r1 : σ[i]? = some (some vx) := rx.1
      simp only [wkE] at e
      split at e
      · rename_i xs hx
        obtain ⟨rfl, rfl⟩ := Prod.mk.inj (Option.some.inj e)
        have hl : lstAt e1 i = some xs := by unfold lstAt; rw [hx]
        obtain ⟨l, vs, h1, h2, h3⟩ := lstAt_of er1 hl
        rw [r1] at h1
        cases h1
        exact ⟨l, vs, rfl, h2, q _ H1 F1 Oe1 s1.zero (wk_liveE r1) er1⟩
      · rename_i xs hx
        obtain ⟨rfl, rfl⟩ := Prod.mk.inj (Option.some.inj e)
        obtain ⟨u, Oi, h1, h2, _⟩ := er1.get hx
        rw [r1] at h1
        cases h1
        have r0 : Rep X.K X.w H1 F1 (.lst false xs) vx := h2.rep rfl
        unfold Rep at r0
        obtain ⟨l, vs, rfl, h3, h4⟩ := r0
        exact ⟨l, vs, rfl, h3.sq, q _ H1 F1 Oe1 s1.zero (wk_fix fun H' F' sb t => wk_ite (sb.lf h3).sq (Reps.stab sb _ _ h4) t) er1⟩
      · cases e
    | val d =>
      cases d with
      | lst o xs =>
        simp only [wkE] at e
        obtain ⟨rfl, rfl⟩ := Prod.mk.inj (Option.some.inj e)
        have r0 : Rep X.K X.w H1 (fun b => F1 b ∨ Ox1 b) (.lst false xs) vx := RepV.frz (d := .lst o xs) rx
        unfold Rep at r0
        obtain ⟨l, vs, rfl, h3, h4⟩ := r0
        exact ⟨l, vs, rfl, h3.sq, q _ H1 _ Oe1 s1.share (wk_fix fun H' F' sb t => wk_ite (sb.lf h3).sq (Reps.stab sb _ _ h4) t) (er1.more fun b z => .inl z)⟩
      | _ => simp only [wkE] at e; cases e
end
end Mp

end
section
set_option Elab.async false
set_option linter.all false
/-! Mp13: targets. -/
namespace Mp
open PySem PySem.Spec PyProof.Rows L2

def TTg (K : PySem.W.Frag) (w : World) (C : Ctx) (t : MT) : L2.TG := fun v σ H Q => ∃ env F O d Od env', EnvR K w H F env σ O ∧ Good H F (uni Od O) ∧ Dj Od O ∧ RepV K w H F d v Od ∧ asgn C t d env = some env' ∧
  ∀ σ' H' F' O', Hld H F (uni Od O) H' F' emp O' → EnvR K w H' F' env' σ' O' → σ'.length = σ.length → (∀ j, j ∉ tsl t ∨ j ∈ C.pins → σ'[j]? = σ[j]?) → Q σ' H'
def TTgs (K : PySem.W.Frag) (w : World) (C : Ctx) (ts : MTs) : L2.TGs := fun vs σ H Q => ∃ env F O ds env', EnvR K w H F env σ O ∧ Good H F O ∧ Reps K w H F ds vs ∧ asgns C ts ds env = some env' ∧
  ∀ σ' H' F' O', Hld H F O H' F' emp O' → EnvR K w H' F' env' σ' O' → σ'.length = σ.length → (∀ j, j ∉ tsls ts ∨ j ∈ C.pins → σ'[j]? = σ[j]?) → Q σ' H'
def JG (g : GI) (N : List Str) (sc : Scope) (C : Ctx) (tg : Expr) (t : MT) : Prop := ∀ X : Cx, CtxOk g N sc C X → PG X tg (TTg X.K X.w C t)
def JGs (g : GI) (N : List Str) (sc : Scope) (C : Ctx) (tg : List Expr) (t : MTs) : Prop := ∀ X : Cx, CtxOk g N sc C X → PGs X tg (TTgs X.K X.w C t)
theorem PG.imp {X : Cx} {tg : Expr} {t t' : L2.TG} (h : PG X tg t) (i : ∀ v σ H Q, t' v σ H Q → t v σ H Q) : PG X tg t' := ⟨fun pins s σ H v u Q I r q => h.run pins s σ H v u Q I r (i v σ H Q q)⟩
theorem PG.absurd {X : Cx} {tg : Expr} {t : L2.TG} (i : ∀ v σ H Q, ¬ t v σ H Q) : PG X tg t := ⟨fun pins s σ H v u Q I r q => (i v σ H Q q).elim⟩
theorem PGs.imp {X : Cx} {tg : List Expr} {t t' : L2.TGs} (h : PGs X tg t) (i : ∀ v σ H Q, t' v σ H Q → t v σ H Q) : PGs X tg t' := ⟨fun pins s σ H v u Q I r q => h.run pins s σ H v u Q I r (i v σ H Q q)⟩
section
variable {K : PySem.W.Frag} {w : World} {H H' H1 H2 : Hp} {F F' F1 F2 O O' O1 O2 Ox Oe Ox1 Oe1 Ox2 Oe2 : AS} {d : D} {v : V} {σ : L2.St} {env env' env1 env2 : Env}
/-- what is put into a slot -/
theorem EnvR.store (er : EnvR K w H F env σ O) (gd : Good H F (uni Ox O)) (dj : Dj Ox O) (r : RepV K w H F d v Ox) {i : Nat} (hi : i < env.length) : ∃ O', Hld H F (uni Ox O) H F emp O' ∧ EnvR K w H F (env.set i (some d)) (σ.set i (some v)) O' := by
  obtain ⟨Oi, Or, h1, h2, h3, h4, h5⟩ := er.split i
  have sub : ∀ b, uni Ox Or b → uni Ox O b := fun b z => z.elim .inl fun z => .inr ((h1 b).mpr (.inr z))
  refine ⟨uni Ox Or, ⟨Ext.refl.weak fun b z => sub b (z.elim (fun q => q.elim) id), fun _ z => z.elim, gd.weak fun b z => sub b (z.elim (fun q => q.elim) id)⟩, ?_⟩
  exact h4 (some d) (some v) Ox (fun b x y => dj b x ((h1 b).mpr (.inr y))) (fun d' z => by cases z; exact ⟨v, rfl, r⟩) (fun z => by cases z) hi
theorem setv_some {C : Ctx} {i : Nat} (h : setv C i d env = some env') : i < env.length ∧ i ∉ C.pins ∧ env' = env.set i (some d) := by
  unfold setv at h
  by_cases c : i < env.length ∧ i ∉ C.pins
  · rw [if_pos c] at h
    exact ⟨c.1, c.2, (Option.some.inj h).symm⟩
  · rw [if_neg c] at h
    cases h
end
theorem RL.ext {K : PySem.W.Frag} {w : World} {H H1 : Hp} {F F1 O O1 : AS} {σ : L2.St} (a : Ext H F O H1 F1 O1) (g : Good H F O) : ∀ (ds : List D) (vs : List V) (Ox : AS), RL (RV K w) H F σ ds vs Ox → Dj Ox O → RL (RV K w) H1 F1 σ ds vs Ox
  | [], [], _, r, _ => r
  | [], _ :: _, _, r, _ => False.elim r
  | _ :: _, [], _, r, _ => False.elim r
  | d :: ds, v :: vs, Ox, ⟨A, B, h1, h2, h3, h4⟩, n => ⟨A, B, RepV.ext (show RepV K w H F d v A from h1) a g fun b x y => n b ((h4 b).mpr (.inl x)) y, RL.ext a g ds vs B h2 fun b x y => n b ((h4 b).mpr (.inr x)) y, h3, h4⟩
section
variable {g : GI} {N : List Str} {sc : Scope} {C : Ctx} {a b c tg : Expr} {ma mb mc : ME} {pos p0 : Pos}
theorem jg_bad : JG g N sc C tg .bad := fun X c => PG.absurd fun v σ H Q ⟨env, F, O, d, Od, env', _, _, _, _, e, _⟩ => by
  unfold asgn at e
  cases e
theorem jg_name {i : Nat} {x : Str} (hi : N[i]? = some x) (hl : sc.names.lookup x = some .local ∨ sc.names.lookup x = some .cell) : JG g N sc C (.Name x pos) (.nm i) := fun X c => by
  obtain ⟨h1, h2⟩ := c.loc x hl
  refine PG.imp (pg_name c.nd (by rw [c.N]; exact hi) h1 h2) fun v σ H Q h => ?_
  obtain ⟨env, F, O, d, Od, env', er, gd, dj, r, e, q⟩ := h
  have e' : setv C i d env = some env' := by unfold asgn at e; exact e
  obtain ⟨hlt, hp, rfl⟩ := setv_some e'
  obtain ⟨O', s, er'⟩ := er.store gd dj r hlt
  refine q _ H F O' s er' List.length_set fun j hj => ?_
  refine List.getElem?_set_ne fun z => ?_
  subst z
  rcases hj with hj | hj
  · exact hj (by unfold tsl; exact List.mem_singleton_self _)
  · exact hp hj
theorem jgs_nil : JGs g N sc C [] .nil := fun X c => PGs.imp pgs_nil fun vs σ H Q h => by
  obtain ⟨env, F, O, ds, env', er, gd, r, e, q⟩ := h
  cases ds with
  | nil =>
    unfold asgns at e
    cases e
    cases vs with
    | nil => exact ⟨rfl, q σ H F O (Hld.refl gd) er rfl fun _ _ => rfl⟩
    | cons v vs => unfold Reps at r; exact r.elim
  | cons d ds =>
    unfold asgns at e
    cases e
theorem jgs_cons {es : List Expr} {t : MT} {ts : MTs} (hs : ∀ env : PySem.Env, assignEach (a :: es) env = (false, assign a env) :: assignEach es env) (ha : JG g N sc C a t) (hb : JGs g N sc C es ts) : JGs g N sc C (a :: es) (.cons t ts) := fun X c => by
  refine PGs.imp (pgs_cons (ha X c) (hb X c) (by rw [hs]; rfl)) fun vs σ H Q h => ?_
  obtain ⟨env, F, O, ds, env', er, gd, r, e, q⟩ := h
  cases ds with
  | nil => unfold asgns at e; cases e
  | cons d ds =>
    cases vs with
    | nil => unfold Reps at r; exact r.elim
    | cons v vs =>
      unfold asgns at e
      simp only [Option.bind_eq_bind, Option.bind_eq_some_iff] at e
      obtain ⟨e1, ea, eb⟩ := e
      unfold Reps at r
      refine ⟨v, vs, rfl, env, F, O, d, emp, e1, er, gd.weak fun b z => z.elim (fun q => q.elim) id, fun _ z => z.elim, .of r.1, ea, fun σ1 H1 F1 O1 s1 er1 l1 k1 => ?_⟩
      have s1' : Hld H F O H1 F1 emp O1 := ⟨s1.ext.mono fun b z => z.elim (fun q => q.elim) id, s1.dj, s1.good⟩
      refine ⟨e1, F1, O1, ds, env', er1, s1.goodE, Reps.stab (s1'.ext.stab gd) _ _ r.2, eb, fun σ2 H2 F2 O2 s2 er2 l2 k2 => ?_⟩
      refine q σ2 H2 F2 O2 (s1'.step s2).zero er2 (l2.trans l1) fun j hj => ?_
      have hj' : (j ∉ tsl t ∨ j ∈ C.pins) ∧ (j ∉ tsls ts ∨ j ∈ C.pins) := by
        rcases hj with hj | hj
        · unfold tsls at hj
          exact ⟨.inl fun z => hj (List.mem_append.mpr (.inl z)), .inl fun z => hj (List.mem_append.mpr (.inr z))⟩
        · exact ⟨.inr hj, .inr hj⟩
      rw [k2 j hj'.2, k1 j hj'.1]
def MTs.len : MTs → Nat
  | .nil => 0
  | .cons _ ts => ts.len + 1
theorem asgns_length {C : Ctx} : ∀ {ts : MTs} {ds : List D} {env env' : Env}, asgns C ts ds env = some env' → ds.length = ts.len
  | .nil, [], _, _, _ => rfl
  | .nil, _ :: _, _, _, e => by unfold asgns at e; cases e
  | .cons _ _, [], _, _, e => by unfold asgns at e; cases e
  | .cons t ts, d :: ds, _, _, e => by
    unfold asgns at e
    simp only [Option.bind_eq_bind, Option.bind_eq_some_iff] at e
    obtain ⟨e1, ea, eb⟩ := e
    exact congrArg (· + 1) (asgns_length eb)
theorem jg_tup {es : List Expr} {k : Nat} {ts : MTs} (hn : ∀ env : PySem.Env, (assignEach es env).length = ts.len) (hst : ∀ env : PySem.Env, (assignEach es env).findIdx? (·.1) = none) (ha : JGs g N sc C es ts) : JG g N sc C (.Tuple es k pos) (.tup ts) := fun X c => by
  refine PG.imp (pg_tup c.calm (ha X c) (hn _) (hst _)) fun v σ H Q h => ?_
  obtain ⟨env, F, O, d, Od, env', er, gd, dj, r, e, q⟩ := h
  cases d with
  | tup xs =>
    have e' : asgns C ts xs env = some env' := by unfold asgn at e; exact e
    obtain ⟨a, vs, rfl, h1, h2⟩ := r.tup
    have hO : ∀ b, ¬ Od b := by
      rcases r.cases with ⟨_, _, _, z, _⟩ | ⟨_, o, _⟩
      · cases z
      · exact o
    refine ⟨a, vs, rfl, h1, by rw [← h2.length]; exact asgns_length e', env, F, O, xs, env', er, gd.weak fun b z => .inr z, h2, e', fun σ' H' F' O' s er' l' k' => ?_⟩
    refine q σ' H' F' O' ⟨s.ext.mono fun b z => .inr z, s.dj, s.good⟩ er' l' fun j hj => k' j ?_
    rcases hj with hj | hj
    · unfold tsl at hj
      exact .inl hj
    · exact .inr hj
  | _ => unfold asgn at e; cases e
theorem jg_sub {o i : Expr} {mo mi : ME} (hh : ∀ (env : PySem.Env) v, assign (.Subscript o i pos) env v = (do
      let ov ← holding [v] (eval o env)
      let iv ← holding [v, ov] (eval i env)
      standAt pos
      holding [v, ov, iv] (setItem ov iv v)
      release [v, ov, iv] [])) (ho : J g N sc C o mo) (hi : J g N sc C i mi) : JG g N sc C (.Subscript o i pos) (.sub mo mi) := fun X c => by
  refine PG.imp (pg_sub (ho X c) (hi X c) set_list (hh _)) fun v σ H Q h => ?_
  obtain ⟨env, F, O, d, Od, env', er, gd, dj, r, e, q⟩ := h
  unfold asgn at e
  simp only [Option.bind_eq_bind, Option.bind_eq_some_iff, Prod.exists] at e
  obtain ⟨p, e1, ea, p2, e2, eb, e⟩ := e
  split at e
  · rename_i j n hj
    split at e
    · rename_i xs hx
      by_cases cn : 0 ≤ n ∧ n < xs.length
      · rw [if_pos cn] at e
        cases e
        -- what is put is shared
        have h0 : Hld H F (uni Od O) H F Od O := ⟨Ext.refl, dj, gd⟩
        have s0 := h0.share
        have er0 := er.more (F' := fun b => F b ∨ Od b) fun b z => .inl z
        have rf := RepV.frz r
        refine ⟨env, _, O, .plc j, e1, er0, s0.goodE, ea, fun vo H1 F1 Ox1 Oe1 s1 ro er1 => ?_⟩
        refine ⟨e1, F1, Oe1, p2, e2, er1, s1.goodE, eb, fun vi H2 F2 Ox2 Oe2 s2 ri er2 => ?_⟩
        obtain ⟨A, qi, _⟩ := ri.get er2 hj
        obtain ⟨l, vs, hv, hl, rs, k⟩ := er2.relst s2.goodE hx
        have ro1 : σ[j]? = some (some vo) := ro.1
        rw [ro1] at hv
        cases hv
        have rf2 := s1.frozen s2 (s0.frozen s1 rf)
        obtain ⟨k1, k2, k3⟩ := k (xs.set n.toNat (frz d)) (vs.set n.toNat v) (rs.set n.toNat rf2)
        refine ⟨l, vs, n, n.toNat, rfl, qi.int, hl, ?_, ?_⟩
        · unfold ixN
          rw [← rs.length]
          rw [if_pos cn.1, if_pos cn.2]
        · exact q σ _ F2 Oe2 (((s0.step s1).step s2).step k1).zero k2 rfl fun _ _ => rfl
      · rw [if_neg cn] at e
        cases e
    · cases e
  · cases e
/-- several targets, the values held -/
def TTgo (K : PySem.W.Frag) (w : World) (C : Ctx) (ts : MTs) : L2.TGs := fun vs σ H Q => ∃ env F O ds Od env', EnvR K w H F env σ O ∧ Good H F (uni Od O) ∧ Dj Od O ∧ RL (RV K w) H F [] ds vs Od ∧ asgns C ts ds env = some env' ∧
  ∀ σ' H' F' O', Hld H F (uni Od O) H' F' emp O' → EnvR K w H' F' env' σ' O' → σ'.length = σ.length → (∀ j, j ∉ tsls ts ∨ j ∈ C.pins → σ'[j]? = σ[j]?) → Q σ' H'
def JGo (g : GI) (N : List Str) (sc : Scope) (C : Ctx) (tg : List Expr) (t : MTs) : Prop := ∀ X : Cx, CtxOk g N sc C X → PGs X tg (TTgo X.K X.w C t)
theorem jgo_nil : JGo g N sc C [] .nil := fun X c => PGs.imp pgs_nil fun vs σ H Q h => by
  obtain ⟨env, F, O, ds, Od, env', er, gd, dj, r, e, q⟩ := h
  cases ds with
  | nil =>
    unfold asgns at e
    cases e
    cases vs with
    | nil => exact ⟨rfl, q σ H F O ⟨Ext.refl.weak fun b z => .inr (z.elim (fun q => q.elim) id), fun _ z => z.elim, gd.weak fun b z => .inr (z.elim (fun q => q.elim) id)⟩ er rfl fun _ _ => rfl⟩
    | cons v vs => exact False.elim r
  | cons d ds =>
    unfold asgns at e
    cases e
theorem jgo_cons {es : List Expr} {t : MT} {ts : MTs} (hs : ∀ env : PySem.Env, assignEach (a :: es) env = (false, assign a env) :: assignEach es env) (ha : JG g N sc C a t) (hb : JGo g N sc C es ts) : JGo g N sc C (a :: es) (.cons t ts) := fun X c => by
  refine PGs.imp (pgs_cons (ha X c) (hb X c) (by rw [hs]; rfl)) fun vs σ H Q h => ?_
  obtain ⟨env, F, O, ds, Od, env', er, gd, dj, r, e, q⟩ := h
  cases ds with
  | nil => unfold asgns at e; cases e
  | cons d ds =>
    cases vs with
    | nil => exact False.elim r
    | cons v vs =>
      unfold asgns at e
      simp only [Option.bind_eq_bind, Option.bind_eq_some_iff] at e
      obtain ⟨e1, ea, eb⟩ := e
      obtain ⟨A, B, r1, r2, r3, r4⟩ := r
      have subA : ∀ b, uni A O b → uni Od O b := fun b z => z.elim (fun q => .inl ((r4 b).mpr (.inl q))) .inr
      refine ⟨v, vs, rfl, env, F, O, d, A, e1, er, gd.weak subA, fun b x y => dj b ((r4 b).mpr (.inl x)) y, r1, ea, fun σ1 H1 F1 O1 s1 er1 l1 k1 => ?_⟩
      have djB : Dj B (uni A O) := fun b x y => y.elim (fun y => r3 b y x) fun y => dj b ((r4 b).mpr (.inr x)) y
      have lsB : ∀ b, B b → ∃ xs, H b = some (.lst xs) := fun b z => gd.ls b (.inl ((r4 b).mpr (.inr z)))
      have rB : RL (RV X.K X.w) H1 F1 [] ds vs B := RL.ext s1.ext (gd.weak subA) ds vs B r2 djB
      have djO : Dj B O1 := fun b x y => by
        rcases s1.ext.own b (.inr y) with z | z
        · exact djB b x z
        · obtain ⟨xs, e⟩ := lsB b x
          rw [z] at e; cases e
      have gB : Good H1 F1 (uni B O1) := ⟨s1.good.fr, fun b x y => by
          rcases x with x | x
          · rcases s1.ext.new b y with z | z | z
            · exact gd.dj b (.inl ((r4 b).mpr (.inr x))) z
            · exact djB b x z
            · obtain ⟨xs, e⟩ := lsB b x
              rw [z] at e; cases e
          · exact s1.good.dj b (.inr x) y, fun b x => by
          rcases x with x | x
          · obtain ⟨xs, e⟩ := lsB b x
            exact ⟨xs, s1.ext.keep b _ e fun z => djB b x z⟩
          · exact s1.good.ls b (.inr x)⟩
      refine ⟨e1, F1, O1, ds, B, env', er1, gB, djO, rB, eb, fun σ2 H2 F2 O2 s2 er2 l2 k2 => ?_⟩
      have E1 : Ext H F (uni Od O) H1 F1 (uni B O1) := ⟨(s1.ext.mono subA).keep, s1.ext.dom, s1.ext.sub, (s1.ext.mono subA).new, fun b z => z.elim (fun z => .inl (.inl ((r4 b).mpr (.inr z)))) fun z => (s1.ext.mono subA).own b (.inr z)⟩
      refine q σ2 H2 F2 O2 ⟨E1.trans s2.ext, s2.dj, s2.good⟩ er2 (l2.trans l1) fun j hj => ?_
      have hj' : (j ∉ tsl t ∨ j ∈ C.pins) ∧ (j ∉ tsls ts ∨ j ∈ C.pins) := by
        rcases hj with hj | hj
        · unfold tsls at hj
          exact ⟨.inl fun z => hj (List.mem_append.mpr (.inl z)), .inl fun z => hj (List.mem_append.mpr (.inr z))⟩
        · exact ⟨.inr hj, .inr hj⟩
      rw [k2 j hj'.2, k1 j hj'.1]
end
end Mp

end
section
set_option Elab.async false
set_option linter.all false
/-! Mp14: a list comprehension. -/
namespace Mp
open PySem PySem.Spec PyProof.Rows L2

section
variable {K : PySem.W.Frag} {w : World} {H H' H1 H2 : Hp} {F F' F1 F2 O O' O1 O2 Ox Oe Ox1 Oe1 Ox2 Oe2 A B : AS} {d : D} {v : V} {σ τ : L2.St} {env env' env1 env2 : Env} {D0 : Addr}
theorem EnvR.resig (er : EnvR K w H F env σ O) (hl : τ.length = σ.length) (h : ∀ i d, gt env i = some d → τ[i]? = σ[i]?) : EnvR K w H F env τ O := by
  obtain ⟨l, f, h1, h2, h3, h4⟩ := er
  exact ⟨l.trans hl.symm, f, fun i d e => let ⟨v, hv, r⟩ := h1 i d e; ⟨v, (h i d e).trans hv, r⟩, h2, h3, h4⟩
theorem gt_set {i j : Nat} {x : Option D} (h : gt (env.set i x) j = some d) : (i = j ∧ x = some d) ∨ (i ≠ j ∧ gt env j = some d) := by
  by_cases q : i = j
  · subst q
    have hlt := gt_lt h
    rw [List.length_set] at hlt
    rw [gt_set_self hlt] at h
    exact .inl ⟨rfl, h⟩
  · rw [gt_set_ne q] at h
    exact .inr ⟨q, h⟩
theorem gt_clear {i : Nat} : ∀ {is : List Nat} {env : Env}, gt (clear is env) i = some d → i ∉ is ∧ gt env i = some d
  | [], _, h => ⟨List.not_mem_nil, h⟩
  | k :: is, env, h => by
    unfold clear at h
    rcases gt_set h with ⟨_, h⟩ | ⟨n, h⟩
    · cases h
    · obtain ⟨h1, h2⟩ := gt_clear (is := is) h
      exact ⟨fun z => (List.mem_cons.mp z).elim (fun e => n e.symm) h1, h2⟩
theorem EnvR.clear : ∀ (is : List Nat), EnvR K w H F env σ O → ∃ O', EnvR K w H F (Mp.clear is env) σ O' ∧ ∀ b, O' b → O b
  | [], er => ⟨O, er, fun _ z => z⟩
  | i :: is, er => by
    obtain ⟨O1, er1, s1⟩ := EnvR.clear is er
    unfold Mp.clear
    by_cases hi : i < (Mp.clear is env).length
    · obtain ⟨Oi, Or, h1, h2, h3, h4, h5⟩ := er1.split i
      exact ⟨uni emp Or, h5 none emp (fun b z => z.elim) (fun d z => by cases z) (fun _ b z => z) hi, fun b z => z.elim (fun q => q.elim) fun q => s1 b ((h1 b).mpr (.inr q))⟩
    · rw [List.set_eq_of_length_le (Nat.le_of_not_lt hi)]
      exact ⟨O1, er1, s1⟩
theorem EnvR.wiped (is : List Nat) (er : EnvR K w H F env σ O) : ∃ O', EnvR K w H F (Mp.clear is env) (wipe σ is) O' ∧ ∀ b, O' b → O b := by
  obtain ⟨O', er', s⟩ := er.clear is
  refine ⟨O', er'.resig (wipe_length σ is) fun i d e => ?_, s⟩
  exact wipe_out (gt_clear e).1
theorem EnvR.restored {old : Env} : ∀ (is : List Nat), (∀ i ∈ is, ∀ d, gt old i = some d → ∃ v, σ[i]? = some (some v) ∧ Rep K w H F d v) → EnvR K w H F env σ O → ∃ O', EnvR K w H F (Mp.restore old is env) σ O' ∧ ∀ b, O' b → O b
  | [], _, er => ⟨O, er, fun _ z => z⟩
  | i :: is, h, er => by
    obtain ⟨O1, er1, s1⟩ := EnvR.restored (old := old) is (fun j hj => h j (List.mem_cons_of_mem _ hj)) er
    unfold Mp.restore
    by_cases hi : i < (Mp.restore old is env).length
    · obtain ⟨Oi, Or, h1, h2, h3, h4, h5⟩ := er1.split i
      refine ⟨uni emp Or, h5 _ emp (fun b z => z.elim) (fun d z => ?_) (fun _ b z => z) hi, fun b z => z.elim (fun q => q.elim) fun q => s1 b ((h1 b).mpr (.inr q))⟩
      have hg : gt old i = some d := by
        unfold gt
        cases q : old[i]? with
        | none => rw [q] at z; cases z
        | some x => rw [q] at z; cases x with
          | none => cases z
          | some y => exact z
      obtain ⟨v, hv, r⟩ := h i List.mem_cons_self d hg
      exact ⟨v, hv, .of r⟩
    · rw [List.set_eq_of_length_le (Nat.le_of_not_lt hi)]
      exact ⟨O1, er1, s1⟩
theorem wipe_in {i : Nat} : ∀ {vs : List Nat}, i ∈ vs → i < σ.length → (wipe σ vs)[i]? = some none
  | v :: vs, h, hl => by
    unfold wipe
    by_cases q : v = i
    · subst q
      rw [List.getElem?_set_self (by rw [wipe_length]; exact hl)]
    · rw [List.getElem?_set_ne q]
      exact wipe_in ((List.mem_cons.mp h).elim (fun e => absurd e.symm q) id) hl
theorem wipe_eq {vs : List Nat} (hl : τ.length = σ.length) (h : ∀ j, j ∉ vs → τ[j]? = σ[j]?) : wipe τ vs = wipe σ vs := by
  apply List.ext_getElem?
  intro i
  by_cases q : i ∈ vs
  · by_cases hi : i < σ.length
    · rw [wipe_in q hi, wipe_in q (by rw [hl]; exact hi)]
    · rw [List.getElem?_eq_none (by rw [wipe_length, hl]; omega), List.getElem?_eq_none (by rw [wipe_length]; omega)]
  · rw [wipe_out q, wipe_out q]
    exact h i q
/-- the made list is written on -/
theorem Hld.setD (s : Hld H F O H1 F1 (fun b => b = D0) Oe) (hn : H D0 = none) (xs : List V) : Hld H F O (upd H1 D0 (.lst xs)) F1 (fun b => b = D0) Oe := by
  refine ⟨⟨fun b o q n => ?_, fun b q => ?_, s.ext.sub, s.ext.new, s.ext.own⟩, s.dj, ⟨fun b q => ?_, s.good.dj, fun b q => ?_⟩⟩
  · have nb : b ≠ D0 := fun z => by subst z; rw [hn] at q; cases q
    rw [upd_ne nb]
    exact s.ext.keep b o q n
  · by_cases nb : b = D0
    · subst nb; rw [upd_same]; exact Option.some_ne_none _
    · rw [upd_ne nb]; exact s.ext.dom b q
  · by_cases nb : b = D0
    · subst nb; rw [upd_same]; exact Option.some_ne_none _
    · rw [upd_ne nb]; exact s.good.fr b q
  · by_cases nb : b = D0
    · subst nb; exact ⟨_, upd_same⟩
    · rw [upd_ne nb]; exact s.good.ls b q
theorem Stab.setD (g : ¬ F D0) {ys : List V} (h : H D0 = some (.lst ys)) (xs : List V) : Stab H F (upd H D0 (.lst xs)) F where
  keep := fun b o e k => by
    have nb : b ≠ D0 := fun z => by
      subst z
      rw [h] at e
      cases e
      rcases k with k | ⟨_, k⟩ | ⟨_, _, k⟩
      · exact g k
      · cases k
      · cases k
    rw [upd_ne nb]
    exact e
  sub := fun _ z => z
theorem EnvR.setD (er : EnvR K w H F env σ O) (gd : Good H F (uni (fun b => b = D0) O)) (dj : Dj (fun b => b = D0) O) (xs : List V) : EnvR K w (upd H D0 (.lst xs)) F env σ O := by
  refine er.ext (O := fun b => b = D0) (O1 := fun b => b = D0) ⟨fun b o q n => by rw [upd_ne n]; exact q, fun b q => ?_, fun _ z => z, fun _ z => .inl z, fun _ z => .inl z⟩ (gd.weak fun b z => .inl z) dj.symm
  by_cases z : b = D0
  · subst z; rw [upd_same]; exact Option.some_ne_none _
  · rw [upd_ne z]; exact q
theorem Hld.share2 (h : Hld H F O H1 F1 (uni A B) Oe) (dj : Dj A B) : Hld H F O H1 (fun b => F1 b ∨ B b) A Oe where
  ext := ⟨h.ext.keep, h.ext.dom, fun b z => .inl (h.ext.sub b z), fun b z => z.elim (h.ext.new b) fun q => .inr (h.ext.own b (.inl (.inr q))), fun b z => z.elim (fun q => h.ext.own b (.inl (.inl q))) fun q => h.ext.own b (.inr q)⟩
  dj := fun b x y => h.dj b (.inl x) y
  good := ⟨fun b z => z.elim (h.good.fr b) fun q => by
      obtain ⟨xs, e⟩ := h.good.ls b (.inl (.inr q))
      rw [e]; exact Option.some_ne_none _, fun b x y => by
      rcases x with x | x
      · exact y.elim (h.good.dj b (.inl (.inl x))) (dj b x)
      · exact y.elim (h.good.dj b (.inr x)) fun q => h.dj b (.inr q) x, fun b x => x.elim (fun q => h.good.ls b (.inl (.inl q))) fun q => h.good.ls b (.inr q)⟩
theorem Hld.sub (h : Hld H F O H1 F1 Ox Oe) (s : ∀ b, Oe2 b → Oe b) : Hld H F O H1 F1 Ox Oe2 :=
  ⟨h.ext.weak fun b q => q.elim .inl fun z => .inr (s b z), fun b x y => h.dj b x (s b y), h.good.weak fun b q => q.elim .inl fun z => .inr (s b z)⟩
theorem Hld.pre (h : Hld H F (uni emp O) H1 F1 Ox Oe) : Hld H F O H1 F1 Ox Oe := ⟨h.ext.mono fun b z => z.elim (fun q => q.elim) id, h.dj, h.good⟩
end
abbrev TSts (K : PySem.W.Frag) (w : World) (C : Ctx) (m : MEs) : TT := TG K w RB (conds C m)
section
variable {g : GI} {N : List Str} {sc : Scope} {C : Ctx} {a b c tg : Expr} {ma mb mc : ME} {pos p0 : Pos}
def JCs (g : GI) (N : List Str) (sc : Scope) (C : Ctx) (cs : List Expr) (ms : MEs) : Prop := ∀ X : Cx, CtxOk g N sc C X → PTs X cs (TSts X.K X.w C ms)
theorem PTs.imp {X : Cx} {e : List Expr} {t t' : TT} (h : PTs X e t) (i : ∀ σ H Q, t' σ H Q → t σ H Q) : PTs X e t' := ⟨fun pins s σ H Q I q => h.run pins s σ H Q I (i σ H Q q)⟩
theorem jcs_nil : JCs g N sc C [] .nil := fun X c => PTs.imp pts_nil fun σ H Q h => by
  obtain ⟨env, F, O, z, env', er, gd, e, q⟩ := h
  unfold conds at e
  cases e
  exact q true H F emp O (Hld.refl gd) ⟨rfl, fun _ z => z⟩ er
theorem jcs_one (ha : JT g N sc C a ma) : JCs g N sc C [a] (.cons ma .nil) := fun X c => PTs.imp (pts_one (ha X c)) fun σ H Q h => by
  obtain ⟨env, F, O, z, env', er, gd, e, q⟩ := h
  refine ⟨env, F, O, z, env', er, gd, ?_, q⟩
  unfold conds at e
  simp only [Option.bind_eq_bind, Option.bind_eq_some_iff, Prod.exists] at e
  obtain ⟨p, e1, ea, x, ex, t, et, e⟩ := e
  simp only [tst, Option.bind_eq_bind, Option.bind_eq_some_iff, Prod.exists]
  refine ⟨p, e1, ea, x, ex, t, et, ?_⟩
  cases t with
  | true =>
    rw [if_pos rfl] at e
    unfold conds at e
    exact e
  | false =>
    rw [if_neg Bool.false_ne_true] at e
    exact e
/-- one turn of a comprehension -/
def lcB (C : Ctx) (t : MT) (cs : MEs) (e : ME) (x : D) (en : Env) : Option (Option D × Env) := do
  let en1 ← asgn C t x en
  let (b, en2) ← conds C cs en1
  if b then do
    let (p, en3) ← op C e en2
    let (d, en4) ← p.take en3
    some (some (frz d), clear (tsl t) en4)
  else some (none, clear (tsl t) en2)
theorem op_lc {C : Ctx} {t : MT} {it : MI2} {cs : MEs} {e : ME} {env : Env} {z : Opd × Env} (h : op C (.lc t it cs e) env = some z) : ∃ wk e1 ys ds e2, walk C it env = some (wk, e1) ∧ wk.get e1 = some ys ∧ noOwn e1 (tsl t) = true ∧ slotNot wk (tsl t) = true ∧
    lcL wk.get (lcB C t cs e) ys.length 0 (clear (tsl t) e1) = some (ds, e2) ∧ small ds.length = true ∧ z = (.val (.lst true ds), restore e1 (tsl t) (clear (tsl t) e2)) := by
  unfold op at h
  simp only [Option.bind_eq_bind, Option.bind_eq_some_iff, Prod.exists] at h
  obtain ⟨wk, e1, ew, ys, ey, h⟩ := h
  by_cases c : (noOwn e1 (tsl t) && slotNot wk (tsl t)) = true
  · rw [if_pos c] at h
    simp only [Option.bind_eq_some_iff, Prod.exists] at h
    obtain ⟨ds, e2, el, h⟩ := h
    obtain ⟨c1, c2⟩ := Bool.and_eq_true_iff.mp c
    by_cases c3 : small ds.length = true
    · rw [if_pos c3] at h
      exact ⟨wk, e1, ys, ds, e2, ew, ey, c1, c2, el, c3, (Option.some.inj h).symm⟩
    · rw [if_neg c3] at h
      cases h
  · rw [if_neg c] at h
    cases h
theorem slotNot_of {wk : Wk} {vs : List Nat} (h : slotNot wk vs = true) {i : Nat} (e : wk.slot = some i) : i ∉ vs := by
  unfold slotNot at h
  rw [e] at h
  simpa using h
theorem lc_sim {K : PySem.W.Frag} {w : World} {σ : L2.St} {H : Hp} {Q : VK} {t : MT} {it : MI2} {cs : MEs} {e : ME} (h : TOp K w C (.lc t it cs e) σ H Q) : tLc (TWk K w C it) (TTg K w C t) (TSts K w C cs) (TEv K w C e) (tsl t) σ H Q := by
  obtain ⟨env, F, O, z, env', er, gd, ee, q⟩ := h
  obtain ⟨wk, e1, ys, all, e2, ew, ey, c1, c2, el, c3, ez⟩ := op_lc ee
  obtain ⟨rfl, rfl⟩ := Prod.mk.inj ez
  refine ⟨env, F, O, wk, e1, er, gd, ew, fun J H1 F1 Oe1 s1 wr er1 D0 hD => ?_⟩
  have g1 := s1.goodE
  obtain ⟨Oc, erc, sub1⟩ := er1.wiped (tsl t)
  -- the state at a turn
  let W : Nat → Nat → Hp → Prop := fun i m Ht => ∃ en F' Oe acc ds ds2 e3, Hld H1 F1 Oe1 Ht F' (fun b => b = D0) Oe ∧ Ht D0 = some (.lst acc) ∧ Reps K w Ht F' ds acc ∧ EnvR K w Ht F' en (wipe σ (tsl t)) Oe ∧
    lcL wk.get (lcB C t cs e) m i en = some (ds2, e3) ∧ e3 = e2 ∧ all = ds ++ ds2
  have gr0 : Grow H1 (upd H1 D0 (.lst [])) := Grow.upd hD
  refine ⟨W, ⟨ys.length, clear (tsl t) e1, F1, Oc, [], [], all, e2, ?_, upd_same, .nil, erc.grow gr0, el, rfl, rfl⟩, ?_⟩
  · exact (Hld.grow g1 gr0 (Ox := fun b => b = D0) (fun b z => by rw [z]; exact hD) (fun b z => by rw [z]; exact ⟨_, upd_same⟩)).sub sub1
  rintro i m Ht ⟨en, F', Oe, acc, ds, ds2, e3, s2, hDt, rs, er2, elt, he3, hall⟩
  subst he3
  have sb := s2.ext.stab g1
  have keepW : ∀ i, wk.slot = some i → (wipe σ (tsl t))[i]? = σ[i]? := fun i hi => wipe_out (slotNot_of c2 hi)
  cases m with
  | zero =>
    left
    unfold lcL at elt
    split at elt
    · rename_i zs hz
      by_cases hl : zs.length = i
      · rw [if_pos hl] at elt
        obtain ⟨rfl, rfl⟩ := Prod.mk.inj (Option.some.inj elt)
        refine ⟨(wr Ht F' en (wipe σ (tsl t)) Oe sb er2 keepW zs hz i).1 hl.symm, ?_⟩
        rw [List.append_nil] at hall
        subst hall
        obtain ⟨O3, er3, sub3⟩ := er2.clear (tsl t)
        have er4 := er3.resig (τ := σ) (wipe_length σ (tsl t)).symm fun j d hj => (wipe_out (gt_clear hj).1).symm
        obtain ⟨O5, er5, sub5⟩ := er4.restored (old := e1) (tsl t) fun j hj d hg => by
          obtain ⟨v, Oj, h1, h2, _⟩ := er1.get hg
          have ho : isOwn d = false := by
            have := List.all_eq_true.mp c1 j hj
            rw [hg] at this
            simpa using this
          exact ⟨v, h1, Rep.stab sb _ _ (h2.rep ho)⟩
        refine q (.ref D0) Ht F' (fun b => b = D0) O5 ?_ (RepV.own hDt rs) er5
        exact ((s1.step s2).drop fun b z => .inr z).sub fun b z => sub3 b (sub5 b z)
      · rw [if_neg hl] at elt
        cases elt
    · cases elt
  | succ r =>
    right
    unfold lcL at elt
    split at elt
    · rename_i zs hz
      by_cases hl : zs.length = i + (r + 1)
      · rw [if_pos hl] at elt
        split at elt
        · rename_i x hx
          have wk1 := (wr Ht F' en (wipe σ (tsl t)) Oe sb er2 keepW zs hz i).2 x hx
          refine ⟨wk1.1, W (i + 1) r, fun H' h' => ⟨r, Nat.lt_succ_self r, h'⟩, fun v H'' hy => ?_⟩
          obtain ⟨gr, rx⟩ := wk1.2 v H'' hy
          have ge := s2.goodE
          have s3 : Hld Ht F' Oe H'' F' emp Oe := Hld.grow ge gr (fun b z => z.elim) (fun b z => z.elim)
          -- the turn's parts
          have body : ∀ o en', lcB C t cs e x en = some (o, en') → ∃ en1 b en2, asgn C t x en = some en1 ∧ conds C cs en1 = some (b, en2) ∧ ((b = true ∧ ∃ p en3 d en4, op C e en2 = some (p, en3) ∧ p.take en3 = some (d, en4) ∧ o = some (frz d) ∧ en' = clear (tsl t) en4) ∨ (b = false ∧ o = none ∧ en' = clear (tsl t) en2)) := by
            intro o en' hb
            unfold lcB at hb
            simp only [Option.bind_eq_bind, Option.bind_eq_some_iff, Prod.exists] at hb
            obtain ⟨en1, h1, b, en2, h2, hb⟩ := hb
            refine ⟨en1, b, en2, h1, h2, ?_⟩
            cases b with
            | true =>
              rw [if_pos rfl] at hb
              simp only [Option.bind_eq_some_iff, Prod.exists] at hb
              obtain ⟨p, en3, h3, d, en4, h4, hb⟩ := hb
              obtain ⟨rfl, rfl⟩ := Prod.mk.inj (Option.some.inj hb)
              exact .inl ⟨rfl, p, en3, d, en4, h3, h4, rfl, rfl⟩
            | false =>
              rw [if_neg Bool.false_ne_true] at hb
              obtain ⟨rfl, rfl⟩ := Prod.mk.inj (Option.some.inj hb)
              exact .inr ⟨rfl, rfl, rfl⟩
          have turn : ∃ o en', lcB C t cs e x en = some (o, en') ∧ ∃ ds3, lcL wk.get (lcB C t cs e) r (i + 1) en' = some (ds3, e3) ∧ ds2 = (match o with | some d => d :: ds3 | none => ds3) := by
            split at elt
            · rename_i d en' hb
              split at elt
              · rename_i ds3 e4 hr
                obtain ⟨rfl, rfl⟩ := Prod.mk.inj (Option.some.inj elt)
                exact ⟨_, en', hb, ds3, hr, rfl⟩
              · cases elt
            · rename_i en' hb
              exact ⟨_, en', hb, ds2, elt, rfl⟩
            · cases elt
          obtain ⟨o, en', hb, ds3, hr, hds⟩ := turn
          obtain ⟨en1, b, en2, h1, h2, h3⟩ := body o en' hb
          refine ⟨en, F', Oe, x, emp, en1, er2.grow gr, s3.goodE.weak fun b z => z.elim (fun q => q.elim) id, fun _ z => z.elim, .of rx, h1, fun σ2 H2 F2 O2 s4 er4 l4 k4 => ?_⟩
          have s4 := s4.pre
          have hw : wipe σ2 (tsl t) = wipe σ (tsl t) := by
            have q1 : wipe σ2 (tsl t) = wipe (wipe σ (tsl t)) (tsl t) := wipe_eq l4 fun j hj => k4 j (.inl hj)
            have q2 : wipe (wipe σ (tsl t)) (tsl t) = wipe σ (tsl t) := wipe_eq (wipe_length _ _) fun j hj => wipe_out hj
            exact q1.trans q2
          refine ⟨hw, en1, F2, O2, b, en2, er4, s4.goodE, h2, fun b' H3 F3 Ox3 O3 s5 rb er5 => ?_⟩
          have eb : b = b' := rb.1
          subst eb
          have s5 := s5.zero
          -- the list that is made stays
          have nD : ∀ {Hx Fx Ox'}, Hld H1 F1 Oe1 Hx Fx (fun b => b = D0) Ox' → ¬ Ox' D0 := fun s z => s.dj D0 rfl z
          have st3 := (s2.step s3).drop (Ox2 := fun b => b = D0) fun b z => .inl z
          have st4 := (st3.step s4).drop (Ox2 := fun b => b = D0) fun b z => .inl z
          have st5 := (st4.step s5).drop (Ox2 := fun b => b = D0) fun b z => .inl z
          have hD3 : H'' D0 = some (.lst acc) := gr D0 _ hDt
          have hD4 : H2 D0 = some (.lst acc) := s4.ext.keep _ _ hD3 (nD st3)
          have hD5 : H3 D0 = some (.lst acc) := s5.ext.keep _ _ hD4 (nD st4)
          have rs5 : Reps K w H3 F3 ds acc := Reps.stab (s5.ext.stab s4.goodE) _ _ (Reps.stab (s4.ext.stab s3.goodE) _ _ (Reps.stab (s3.ext.stab ge) _ _ rs))
          rcases h3 with ⟨rfl, p, en3, d, en4, h6, h7, rfl, rfl⟩ | ⟨rfl, rfl, rfl⟩
          · dsimp only
            rw [if_pos rfl]
            refine ⟨en2, F3, O3, d, en4, er5, s5.goodE, by simp [ev, h6, h7], fun y H4 F4 Oy O4 s6 ry er6 => ?_⟩
            have ry : RepV K w H4 F4 d y Oy := ry
            have hD6 : H4 D0 = some (.lst acc) := s6.ext.keep _ _ hD5 (nD st5)
            have st6 := st5.step s6
            have djy : Dj (fun b => b = D0) Oy := fun b x y => st5.far s6 b x (.inl y)
            have sh := st6.share2 djy
            have rs6 : Reps K w H4 (fun b => F4 b ∨ Oy b) ds acc := Reps.stab (Stab.more fun b z => .inl z) _ _ (Reps.stab (s6.ext.stab s5.goodE) _ _ rs5)
            have ry6 := RepV.frz ry
            have er6' := er6.more (F' := fun b => F4 b ∨ Oy b) fun b z => .inl z
            obtain ⟨O7, er7, sub7⟩ := er6'.wiped (tsl t)
            rw [hw] at er7
            have sh7 := sh.sub sub7
            have nF : ¬ (fun b => F4 b ∨ Oy b) D0 := sh7.good.dj D0 (.inl rfl)
            have hlen : acc.length < all.length := by
              rw [hall, hds, List.length_append, List.length_cons, rs.length]
              omega
            refine ⟨acc, hD6, Nat.lt_of_lt_of_le hlen (small_line c3), clear (tsl t) en4, _, O7, acc ++ [y], ds ++ [frz d], ds3, e3, sh7.setD hD _, upd_same, ?_, er7.setD sh7.good sh7.dj _, hr, rfl, ?_⟩
            · exact Reps.stab (Stab.setD nF hD6 _) _ _ (rs6.append (.cons ry6 .nil))
            · rw [hall, hds, List.append_assoc] <;> rfl
          · dsimp only
            rw [if_neg Bool.false_ne_true]
            obtain ⟨O7, er7, sub7⟩ := er5.wiped (tsl t)
            rw [hw] at er7
            exact ⟨clear (tsl t) en2, F3, O7, acc, ds, ds3, e3, st5.sub sub7, hD5, rs5, er7, hr, rfl, by rw [hall, hds]⟩
        · cases elt
      · rw [if_neg hl] at elt
        cases elt
    · cases elt
end
end Mp

end
section
set_option Elab.async false
set_option linter.all false
/-! Mp15: blocks; methods and comprehensions as expressions. -/
namespace Mp
open PySem PySem.Spec PyProof.Rows L2

theorem relabel_lookup {scope : Scope} {env : PySem.Env} {x : Str} : (relabel scope env).names.lookup x = (scope.names.lookup x).map fun k => if (k == NameKind.free && env.scope.kind == .function && env.kindOf x == some .cell) then .cell else k := by
  unfold relabel
  dsimp only
  induction scope.names with
  | nil => rfl
  | cons p r ih =>
    obtain ⟨n, k⟩ := p
    show List.lookup x ((if (k == NameKind.free && env.scope.kind == .function && env.kindOf n == some .cell) = true then (n, NameKind.cell) else (n, k)) :: _) = _
    cases hx : x == n with
    | true =>
      have e : x = n := by simpa using hx
      subst e
      have e1 : List.lookup x ((x, k) :: r) = some k := by simp only [List.lookup_cons, hx]
      rw [e1]
      by_cases c : (k == NameKind.free && env.scope.kind == .function && env.kindOf x == some .cell) = true
      · rw [if_pos c]
        simp only [List.lookup_cons, hx, Option.map_some, if_pos c]
      · rw [if_neg c]
        simp only [List.lookup_cons, hx, Option.map_some, if_neg c]
    | false =>
      have e1 : List.lookup x ((n, k) :: r) = List.lookup x r := by simp only [List.lookup_cons, hx]
      rw [e1, ← ih]
      by_cases c : (k == NameKind.free && env.scope.kind == .function && env.kindOf n == some .cell) = true
      · rw [if_pos c]; simp only [List.lookup_cons, hx]
      · rw [if_neg c]; simp only [List.lookup_cons, hx]

section
variable {g : GI} {N : List Str} {sc scope : Scope} {C : Ctx} {X : Cx}
theorem CtxOk.blk (c : CtxOk g N sc C X) {s : Shared} {H : Hp} {cl : List (Str × Addr)} {Ca : Addr} {fp : List Addr} : CtxOk g N scope C (X.blk s H scope (compEnvC scope cl Ca X.env) fp) where
  calm := c.calm
  nd := c.nd
  N := c.N
  vis := fun x h => by
    show Vis (relabel scope X.env) x
    unfold Vis
    rw [relabel_lookup]
    rcases h with h | h | h
    · rw [h]; exact .inl rfl
    · rw [h]; exact .inr (.inl rfl)
    · rw [h]
      dsimp only [Option.map_some]
      split
      · exact .inr (.inl rfl)
      · exact .inr (.inr rfl)
  loc := fun x h => by
    show L2.Loc (relabel scope X.env) x ∧ ((scope.names.lookup x == some .cell) = true ∨ (relabel scope X.env).names.lookup x = some .local)
    unfold L2.Loc
    rw [relabel_lookup]
    rcases h with h | h
    · rw [h]; exact ⟨.inl rfl, .inr rfl⟩
    · rw [h]; exact ⟨.inr rfl, .inl rfl⟩
  cf := fun x h => by
    show (relabel scope X.env).names.lookup x = some .cell ∨ (relabel scope X.env).names.lookup x = some .free
    rw [relabel_lookup]
    rcases h with h | h
    · rw [h]; exact .inl rfl
    · rw [h]
      dsimp only [Option.map_some]
      split
      · exact .inl rfl
      · exact .inr rfl
  gl := fun x h => by
    show (relabel scope X.env).names.lookup x = some .globalImplicit
    rw [relabel_lookup, h]
    rfl
  con := c.con
  free := c.free
  calls := c.calls
theorem CtxOk.blkOk (c : CtxOk g N sc C X) {own : List (Str × Nat)} (h : blkC N sc scope own = true) : BlkOk X.N X.env.scope scope own := by
  have b := blkOk_by h
  refine ⟨b.kind, b.uniq, by rw [c.N]; exact b.ix, fun y hy e => c.cf _ (b.free y hy e), by rw [c.N]; exact b.own⟩
end
section
variable {g : GI} {N : List Str} {sc scope : Scope} {C : Ctx} {a b c tg elt iter : Expr} {ma mb mc e : ME} {pos p0 apos cpos : Pos} {own : List (Str × Nat)} {ifs es : List Expr} {t : MT} {it : MI2} {cs ms : MEs}
theorem j_lc (hb : blkC N sc scope own = true) (ho : own.map (·.2) = tsl t) (hs : ∀ (env : PySem.Env) x, foldedSetIterable iter env x = pure x) (hi : JI g N sc C tg iter it) (hg : JG g N scope C tg t) (hc : JCs g N scope C ifs cs) (he : J g N scope C elt e) :
    J g N sc C (.ListComp elt [⟨tg, iter, ifs, 0⟩] scope pos) (.lc t it cs e) := fun X c => by
  refine PE.imp (pe_lc (te := TEv X.K X.w C e) (g := TTg X.K X.w C t) (tt := TSts X.K X.w C cs) (wi := TWk X.K X.w C it) c.calm c.nd (hi X c) (c.blkOk hb) (fun s H Ca cl fp => hg _ c.blk) (fun s H Ca cl fp => hc _ c.blk) (fun s H Ca cl fp => he.ev c.blk) (hs _)) fun σ H Q h => ?_
  rw [ho]
  exact lc_sim h
theorem meth_str {m : MI} (hm : isMut m = false) {env : Env} {z : Opd × Env} (h : op C (.meth m ma ms) env = some z) : ∃ p e1 t ps e2 ds r, op C ma env = some (p, e1) ∧ p.get e1 = some (.str t) ∧ ops C ms e1 = some (ps, e2) ∧ gets e2 ps = some ds ∧ mtop m (.str t) ds = some r ∧ z = (.val r, e2) := by
  unfold op at h
  rw [if_neg (by rw [hm]; exact Bool.false_ne_true)] at h
  simp only [Option.bind_eq_bind, Option.bind_eq_some_iff, Prod.exists] at h
  obtain ⟨p, e1, ea, x, ex, h⟩ := h
  split at h
  · rename_i t
    simp only [Option.bind_eq_some_iff, Prod.exists] at h
    obtain ⟨ps, e2, eb, ds, ed, r, er, h⟩ := h
    exact ⟨p, e1, t, ps, e2, ds, r, ea, ex, eb, ed, er, (Option.some.inj h).symm⟩
  · cases h
/-- a text's method, by values -/
def StrSim (K : PySem.W.Frag) (w : World) (m : MI) (r : V → List V → Hp → VK → Prop) : Prop := ∀ t ds d, mtop m (.str t) ds = some d → ∀ (H : Hp) (F : AS) (vs : List V) (Q : VK), Paired (fun d v => ∃ Od, RepV K w H F d v Od) ds vs →
  (∀ v H' Od, Grow H H' → (∀ b, Od b → H b = none) → RepV K w H' F d v Od → Q v H') → r (.str (st t)) vs H Q
theorem str_sim {K : PySem.W.Frag} {w : World} {σ : L2.St} {H : Hp} {Q : VK} {m : MI} {r : V → List V → Hp → VK → Prop} (hm : isMut m = false) (hr : StrSim K w m r) (h : TOp K w C (.meth m ma ms) σ H Q) : tBM K "str" r (TOp K w C ma) (TOps K w C ms) σ H Q := by
  obtain ⟨env, F, O, z, env', er, gd, e, q⟩ := h
  obtain ⟨p, e1, t, ps, e2, ds, r', ea, ex, eb, ed, ef, ez⟩ := meth_str hm e
  obtain ⟨rfl, rfl⟩ := Prod.mk.inj ez
  refine ⟨env, F, O, p, e1, er, gd, ea, fun vx H1 F1 Ox1 Oe1 s1 rx er1 => ?_⟩
  obtain ⟨A, qx, _⟩ := rx.get er1 ex
  have hv := qx.str
  subst hv
  refine ⟨rfl, e1, F1, Oe1, ps, env', er1, s1.goodE, eb, fun vs H2 F2 Ox2 Oe2 s2 rs er2 => ?_⟩
  exact hr t ds _ ef H2 F2 vs Q (RL.gets er2 ps vs Ox2 ds rs ed) fun v H' Od gr fr rv => TG.end q (s1.step s2) er2 gr fr rv.ls rv
theorem args1' {K : PySem.W.Frag} {w : World} {H : Hp} {F : AS} {x : D} {vs : List V} (h : Paired (fun d v => ∃ Od, RepV K w H F d v Od) [x] vs) : ∃ v O, vs = [v] ∧ RepV K w H F x v O := args1 h
theorem find_sim {K : PySem.W.Frag} {w : World} : StrSim K w .find (fun x xs H Q => ∃ (a b : Str) (i : Int), x = .str a ∧ xs = [.str b, .int i] ∧ Q (.int (Txt.find3 a b i)) H) := by
  intro t ds d e H F vs Q rx k
  rcases ds with _ | ⟨x, _ | ⟨y, _ | ⟨z, r⟩⟩⟩
  · cases e
  · cases e
  · obtain ⟨v, u, O1, O2, rfl, r1, r2⟩ := args2 rx
    obtain ⟨n, e1, e2⟩ := Option.map_eq_some_iff.mp (show (findD (.str t) x y).map .int = some d from e)
    subst e2
    cases x with
    | str s =>
      rcases s with _ | ⟨c, _ | ⟨c', r⟩⟩
      · cases y <;> cases e1
      · cases y with
        | int i =>
          have e' : (if small t.length = true ∧ 0 ≤ i then some (match findFrom c i.toNat t with | some j => (j : Int) | none => -1) else none) = some n := e1
          by_cases cc : small t.length = true ∧ 0 ≤ i
          · rw [if_pos cc] at e'
            refine ⟨st t, st [c], i, rfl, by rw [r1.str, r2.int], ?_⟩
            cases e'
            rw [find3_eq t c i cc.2]
            exact k _ H emp .refl (fun _ z => z.elim) (.of rep_int)
          · rw [if_neg cc] at e'
            cases e'
        | _ => cases e1
      · cases y <;> cases e1
    | _ => cases e1
  · cases e
theorem reps_strs {K : PySem.W.Frag} {w : World} {H : Hp} {F : AS} : ∀ (ys : List Txt), Reps K w H F (ys.map .str) ((ys.map st).map V.str)
  | [] => .nil
  | y :: r => .cons rep_str (reps_strs r)
theorem split_sim {K : PySem.W.Frag} {w : World} : StrSim K w .split (fun x xs H Q => ∃ a b, x = .str a ∧ xs = [.str b] ∧ (b.length == 0) = false ∧ a.length + 2 ≤ sizeLine ∧ rNewStrs (Txt.split a b) H Q) := by
  intro t ds d e H F vs Q rx k
  rcases ds with _ | ⟨x, _ | ⟨y, r⟩⟩
  · cases e
  · obtain ⟨v, O1, rfl, r1⟩ := args1 rx
    obtain ⟨n, e1, e2⟩ := Option.map_eq_some_iff.mp (show (splitD (.str t) x).map (.lst true) = some d from e)
    subst e2
    cases x with
    | str s =>
      rcases s with _ | ⟨c, _ | ⟨c', r⟩⟩
      · cases e1
      · have e' : (if t.length + 2 ≤ 16777216 ∧ c < 256 then some ((splitOn c t).map D.str) else none) = some n := e1
        by_cases cc : t.length + 2 ≤ 16777216 ∧ c < 256
        · rw [if_pos cc] at e'
          cases e'
          refine ⟨st t, st [c], rfl, by rw [r1.str], rfl, by rw [st_length]; exact cc.1, fun p hp => ?_⟩
          rw [split_eq t cc.2]
          exact k _ _ _ (Grow.upd hp) (fun b z => by rw [z]; exact hp) (RepV.own upd_same (reps_strs _))
        · rw [if_neg cc] at e'
          cases e'
      · cases e1
    | _ => cases e1
  · cases e
theorem txts_vals {K : PySem.W.Frag} {w : World} {H : Hp} {F : AS} : ∀ {xs : List D} {vs : List V} {ys : List Txt}, Reps K w H F xs vs → txts xs = some ys → vs = (ys.map st).map V.str
  | [], [], ys, _, e => by cases e; rfl
  | [], _ :: _, _, h, _ => by unfold Reps at h; exact h.elim
  | _ :: _, [], _, h, _ => by unfold Reps at h; exact h.elim
  | x :: xs, v :: vs, ys, h, e => by
    unfold Reps at h
    cases x with
    | str t =>
      obtain ⟨zs, e1, e2⟩ := Option.map_eq_some_iff.mp (show (txts xs).map (t :: ·) = some ys from e)
      subst e2
      have hv := h.1
      unfold Rep at hv
      rw [hv, txts_vals h.2 e1]
      rfl
    | _ => cases e
theorem join_sim {K : PySem.W.Frag} {w : World} : StrSim K w .join (fun x xs H Q => ∃ a p, ∃ ys : List Str, x = .str a ∧ xs = [.ref p] ∧ (SqL K H p (ys.map V.str) ∨ SqT K H p (ys.map V.str)) ∧ (ys.map (·.length)).sum + ys.length * a.length ≤ 16777216 ∧ Q (.str (Txt.join a ys)) H) := by
  intro t ds d e H F vs Q rx k
  rcases ds with _ | ⟨x, _ | ⟨y, r⟩⟩
  · cases e
  · obtain ⟨v, O1, rfl, r1⟩ := args1 rx
    obtain ⟨n, e1, e2⟩ := Option.map_eq_some_iff.mp (show (joinD (.str t) x).map .str = some d from e)
    subst e2
    cases x with
    | lst o xs =>
      have e' : (match txts xs with
        | some ys => if (ys.map (·.length)).sum + ys.length * t.length ≤ 16777216 then some (joinT t ys) else none
        | none => none) = some n := e1
      split at e'
      · rename_i ys hy
        by_cases cc : (ys.map (·.length)).sum + ys.length * t.length ≤ 16777216
        · rw [if_pos cc] at e'
          cases e'
          obtain ⟨p, us, rfl, h1, h2⟩ := r1.lst
          have hu := txts_vals h2 hy
          subst hu
          refine ⟨st t, p, ys.map st, rfl, rfl, .inl h1, ?_, ?_⟩
          · have e3 : (ys.map st).map (·.length) = ys.map (·.length) := by
              rw [List.map_map]
              apply List.map_congr_left
              intro y _
              exact st_length y
            rw [e3, List.length_map, st_length]
            exact cc
          · rw [join_eq]
            exact k _ H emp .refl (fun _ z => z.elim) (.of rep_str)
        · rw [if_neg cc] at e'
          cases e'
      · cases e'
    | _ => cases e1
  · cases e
theorem j_meth {m : MI} {name : Str} {id : String} (hm : isMut m = false) (slot : Slot "str" name id) (hty : typeOf (.builtin id) = pure (.type "method_descriptor")) (ho : ∀ X : Cx, ∃ r, MtR X id r ∧ StrSim X.K X.w m r)
    (hbase : ∀ env : PySem.Env, attributeBase a name env (eval a env) = eval a env)
    (hfew : ∀ env : PySem.Env, ((backTo cpos (starEach (b :: es) env)).all (fun x => !x.1) && (backToKw cpos (keywordEach [] env)).all (fun x => x.1.isSome) && decide ((b :: es).length + ([] : List Keyword).length + (if ([] : List Keyword).isEmpty then 0 else 1) < 30)) = true)
    (hline : (apos.endLine == cpos.line) = true) (he : ∀ env : PySem.Env, starEach (b :: es) env = (false, eval b env) :: starEach es env) (hpl : ∀ env : PySem.Env, (backTo cpos (starEach es env)).any (·.1) = false)
    (ha : J g N sc C a ma) (hb : JA g N sc C (b :: es) ms) : J g N sc C (.Call (.Attribute a name apos) (b :: es) [] cpos) (.meth m ma ms) := fun X c => by
  obtain ⟨r, h1, h2⟩ := ho X
  exact PE.imp (pe_bm F.plainAttrs_str slot hty h1 (ha X c) (hb X c) (hbase _) (hfew _) hline (he _) (hpl _)) fun σ H Q h => str_sim hm h2 h
theorem j_mut {m : MI} {name : Str} {id : String} {i : Nat} (hm : isMut m = true) (slot : Slot "list" name id) (hty : typeOf (.builtin id) = pure (.type "method_descriptor")) (ho : ∀ X : Cx, ∃ r, MtM X id r ∧ MutSim X.K X.w m r)
    (hbase : ∀ env : PySem.Env, attributeBase a name env (eval a env) = eval a env)
    (hfew : ∀ env : PySem.Env, ((backTo cpos (starEach (b :: es) env)).all (fun x => !x.1) && (backToKw cpos (keywordEach [] env)).all (fun x => x.1.isSome) && decide ((b :: es).length + ([] : List Keyword).length + (if ([] : List Keyword).isEmpty then 0 else 1) < 30)) = true)
    (hline : (apos.endLine == cpos.line) = true) (he : ∀ env : PySem.Env, starEach (b :: es) env = (false, eval b env) :: starEach es env) (hpl : ∀ env : PySem.Env, (backTo cpos (starEach es env)).any (·.1) = false)
    (ha : J g N sc C a (.var i)) (hb : JV g N sc C (b :: es) ms) : J g N sc C (.Call (.Attribute a name apos) (b :: es) [] cpos) (.meth m (.var i) ms) := fun X c => by
  obtain ⟨r, h1, h2⟩ := ho X
  exact PE.imp (pe_bm F.plainAttrs_list slot hty h1 (ha X c) (hb X c) (hbase _) (hfew _) hline (he _) (hpl _)) fun σ H Q h => mut_sim hm h2 h
theorem j_mut0 {m : MI} {name : Str} {id : String} {i : Nat} (hm : isMut m = true) (slot : Slot "list" name id) (hty : typeOf (.builtin id) = pure (.type "method_descriptor")) (ho : ∀ X : Cx, ∃ r, MtM X id r ∧ MutSim X.K X.w m r)
    (hbase : ∀ env : PySem.Env, attributeBase a name env (eval a env) = eval a env)
    (hline : (apos.endLine == cpos.line) = true)
    (ha : J g N sc C a (.var i)) : J g N sc C (.Call (.Attribute a name apos) [] [] cpos) (.meth m (.var i) .nil) := fun X c => by
  obtain ⟨r, h1, h2⟩ := ho X
  exact PE.imp (pe_bm0 F.plainAttrs_list slot hty h1 (ha X c) (hbase _) hline) fun σ H Q h => mut_sim0 hm h2 h
end
end Mp

end
section
set_option Elab.async false
set_option linter.all false
/-! Mp16: statements. -/
namespace Mp
open PySem PySem.Spec PyProof.Rows L2

def Agree (C : Ctx) (σ σ' : L2.St) : Prop := σ'.length = σ.length ∧ ∀ j, j ∈ C.pins → σ'[j]? = σ[j]?
theorem Agree.refl {C : Ctx} {σ : L2.St} : Agree C σ σ := ⟨rfl, fun _ _ => rfl⟩
theorem Agree.trans {C : Ctx} {σ σ' σ'' : L2.St} (a : Agree C σ σ') (b : Agree C σ' σ'') : Agree C σ σ'' := ⟨b.1.trans a.1, fun j h => (b.2 j h).trans (a.2 j h)⟩
/-- how a statement ends -/
def StEnd (K : PySem.W.Frag) (w : World) (C : Ctx) (H : Hp) (F O : AS) (σ : L2.St) (D : Ends) (env' : Env) : Fl → Prop
  | .nx => ∀ σ' H' F' O', Hld H F O H' F' emp O' → EnvR K w H' F' env' σ' O' → Agree C σ σ' → D.nx σ' H'
  | .brk => ∀ σ' H' F' O', Hld H F O H' F' emp O' → EnvR K w H' F' env' σ' O' → Agree C σ σ' → D.bk σ' H'
  | .ct => ∀ σ' H' F' O', Hld H F O H' F' emp O' → EnvR K w H' F' env' σ' O' → Agree C σ σ' → D.ct σ' H'
  | .ret d => ∀ v σ' H' F' Ox Oe, Hld H F O H' F' Ox Oe → RepV K w H' F' d v Ox → EnvR K w H' F' env' σ' Oe → Agree C σ σ' → D.rt v H'
def TX (K : PySem.W.Frag) (w : World) (C : Ctx) (m : Env → Option (Fl × Env)) : TS := fun D σ H => ∃ env F O f env', EnvR K w H F env σ O ∧ Good H F O ∧ m env = some (f, env') ∧ StEnd K w C H F O σ D env' f
structure StOk (g : GI) (N : List Str) (sc : Scope) (C : Ctx) (X : Cx) : Prop where
  ok : CtxOk g N sc C X
  scp : X.env.scope = sc
  kind : sc.kind = .function
  own : PassesOwn (model X.prog X.w) X.A X.env X.xe
def JS (g : GI) (N : List Str) (sc : Scope) (C : Ctx) (np : Nat) (s : Stmt) (m : MS) : Prop := ∀ X : Cx, StOk g N sc C X → PS X s (TX X.K X.w C (ex C np m))
def JSs (g : GI) (N : List Str) (sc : Scope) (C : Ctx) (np : Nat) (s : List Stmt) (m : MSs) : Prop := ∀ X : Cx, StOk g N sc C X → PSs X s (TX X.K X.w C (exs C np m))
theorem PS.imp {X : Cx} {s : Stmt} {t t' : TS} (h : PS X s t) (i : ∀ D σ H, t' D σ H → t D σ H) : PS X s t' := ⟨fun pins s σ H D I q => h.run pins s σ H D I (i D σ H q)⟩
theorem PSs.imp {X : Cx} {s : List Stmt} {t t' : TS} (h : PSs X s t) (i : ∀ D σ H, t' D σ H → t D σ H) : PSs X s t' := ⟨fun pins s σ H D I q => h.run pins s σ H D I (i D σ H q)⟩
theorem PS.absurd {X : Cx} {s : Stmt} {t : TS} (i : ∀ D σ H, ¬ t D σ H) : PS X s t := ⟨fun pins s σ H D I q => (i D σ H q).elim⟩
section
variable {K : PySem.W.Frag} {w : World} {C : Ctx} {H H' H1 H2 : Hp} {F F' F1 F2 O O' O1 O2 Ox Oe Ox1 Oe1 Ox2 Oe2 A B : AS} {d : D} {v : V} {σ τ : L2.St} {env env' env1 env2 : Env} {f : Fl} {D D' : Ends}
/-- a step ahead -/
theorem StEnd.pre (s : Hld H F O H1 F1 emp O1) (a : Agree C σ τ) (h : StEnd K w C H F O σ D env' f) : StEnd K w C H1 F1 O1 τ D env' f := by
  cases f with
  | nx => exact fun σ' H' F' O' s' er a' => h σ' H' F' O' (s.step s').zero er (a.trans a')
  | brk => exact fun σ' H' F' O' s' er a' => h σ' H' F' O' (s.step s').zero er (a.trans a')
  | ct => exact fun σ' H' F' O' s' er a' => h σ' H' F' O' (s.step s').zero er (a.trans a')
  | ret d => exact fun v σ' H' F' Ox Oe s' r er a' => h v σ' H' F' Ox Oe ((s.step s').drop fun b z => .inr z) r er (a.trans a')
end
theorem RL.grow {K : PySem.W.Frag} {w : World} {H H1 : Hp} {F : AS} {σ : L2.St} (a : Grow H H1) : ∀ {ds : List D} {vs : List V} {Ox : AS}, RL (RV K w) H F σ ds vs Ox → RL (RV K w) H1 F σ ds vs Ox
  | [], [], _, r => r
  | [], _ :: _, _, r => False.elim r
  | _ :: _, [], _, r => False.elim r
  | d :: ds, v :: vs, Ox, ⟨A, B, h1, h2, h3, h4⟩ => ⟨A, B, RepV.grow (show RepV K w H F d v A from h1) a, RL.grow a h2, h3, h4⟩
section
variable {g : GI} {N : List Str} {sc scope : Scope} {C : Ctx} {np : Nat} {a b c tg e elt iter : Expr} {ma mb mc : ME} {pos p0 apos cpos : Pos} {own : List (Str × Nat)} {ifs es : List Expr} {t : MT} {it : MI2} {cs ms : MEs} {st : Stmt} {sts sts2 : List Stmt} {m : MS} {mm mm2 : MSs}
theorem js_bad : JS g N sc C np st .bad := fun X c => PS.absurd fun D σ H ⟨env, F, O, f, env', _, _, e, _⟩ => by
  unfold ex at e
  cases e
theorem js_pass : JS g N sc C np (.Pass pos) .pass := fun X c => PS.imp ps_pass fun D σ H ⟨env, F, O, f, env', er, gd, e, q⟩ => by
  unfold ex at e
  cases e
  exact q σ H F O (Hld.refl gd) er .refl
theorem js_break : JS g N sc C np (.Break pos) .brk := fun X c => PS.imp ps_break fun D σ H ⟨env, F, O, f, env', er, gd, e, q⟩ => by
  unfold ex at e
  cases e
  exact q σ H F O (Hld.refl gd) er .refl
theorem js_cont : JS g N sc C np (.Continue pos) .ct := fun X c => PS.imp ps_continue fun D σ H ⟨env, F, O, f, env', er, gd, e, q⟩ => by
  unfold ex at e
  cases e
  exact q σ H F O (Hld.refl gd) er .refl
theorem js_doc {x : Str} {j : Nat} : JS g N sc C np (.Expr (.Constant (.str x) j p0) pos) .pass := fun X c => PS.imp ps_doc fun D σ H ⟨env, F, O, f, env', er, gd, e, q⟩ => by
  unfold ex at e
  cases e
  exact q σ H F O (Hld.refl gd) er .refl
theorem jss_nil : JSs g N sc C np [] .nil := fun X c => PSs.imp pss_nil fun D σ H ⟨env, F, O, f, env', er, gd, e, q⟩ => by
  unfold exs at e
  cases e
  exact q σ H F O (Hld.refl gd) er .refl
theorem jss_cons (ha : JS g N sc C np st m) (hb : JSs g N sc C np sts mm) : JSs g N sc C np (st :: sts) (.cons m mm) := fun X c => PSs.imp (pss_cons (ha X c) (hb X c)) fun D σ H ⟨env, F, O, f, env', er, gd, e, q⟩ => by
  unfold exs at e
  simp only [Option.bind_eq_bind, Option.bind_eq_some_iff, Prod.exists] at e
  obtain ⟨f1, e1, ea, e⟩ := e
  refine ⟨env, F, O, f1, e1, er, gd, ea, ?_⟩
  cases f1 with
  | nx => exact fun σ' H' F' O' s' er' a' => ⟨e1, F', O', f, env', er', s'.goodE, e, q.pre s' a'⟩
  | brk => cases e; exact q
  | ct => cases e; exact q
  | ret d => cases e; exact q
theorem js_exp (hs : ∀ env : PySem.Env, swapsWith a none pos.line env = pure false) (ha : J g N sc C a ma) : JS g N sc C np (.Expr a pos) (.exp ma) := fun X c => PS.imp (ps_expr (ha X c.ok) (hs _)) fun D σ H ⟨env, F, O, f, env', er, gd, e, q⟩ => by
  unfold ex at e
  simp only [Option.bind_eq_bind, Option.bind_eq_some_iff, Prod.exists] at e
  obtain ⟨p, e1, ea, e⟩ := e
  cases e
  exact ⟨env, F, O, p, env', er, gd, ea, fun v H1 F1 Ox1 Oe1 s1 rx er1 => q σ H1 F1 Oe1 s1.zero er1 .refl⟩
theorem Good.pair {H H1 : Hp} {F F1 O Ox Oe : AS} (s : Hld H F O H1 F1 Ox Oe) : Good H1 F1 (uni Ox Oe) := s.good
theorem asg_sim {K : PySem.W.Frag} {w : World} {σ : L2.St} {H : Hp} {D : Ends} (h : TX K w C (ex C np (.asg t ma)) D σ H) : tAsg (TEv K w C ma) (TTg K w C t) D σ H := by
  obtain ⟨env, F, O, f, env', er, gd, e, q⟩ := h
  unfold ex at e
  simp only [Option.bind_eq_bind, Option.bind_eq_some_iff, Prod.exists] at e
  obtain ⟨d, e1, ea, e2, eb, e⟩ := e
  obtain ⟨rfl, rfl⟩ := Prod.mk.inj (Option.some.inj e)
  refine ⟨env, F, O, d, e1, er, gd, ea, fun v H1 F1 Ox1 Oe1 s1 rx er1 => ?_⟩
  refine ⟨e1, F1, Oe1, d, Ox1, e2, er1, s1.good, s1.dj, rx, eb, fun σ' H' F' O' s2 er2 l2 k2 => ?_⟩
  refine q σ' H' F' O' ?_ er2 ⟨l2, fun j hj => k2 j (.inr hj)⟩
  exact ⟨(s1.ext.trans s2.ext), s2.dj, s2.good⟩
theorem js_asg (hs : ∀ env : PySem.Env, env.scope = sc → swapsWithSole [tg] a pos.line env = pure false) (hw : ∀ env : PySem.Env, env.scope = sc → swappedStores [tg] a env = pure none) (h1 : ∀ env : PySem.Env, (assignEach [tg] env).map (·.2) = [assign tg env]) (hg : JG g N sc C tg t) (ha : J g N sc C a ma) : JS g N sc C np (.Assign [tg] a pos) (.asg t ma) := fun X c =>
  PS.imp (ps_asg (ha.ev c.ok) (hg X c.ok) (hs _ c.scp) (hw _ c.scp) (h1 _)) fun D σ H h => asg_sim h
/-- (a, b, ..) = (x, y, ..), by way of a tuple that nobody keeps -/
theorem parT_sim {K : PySem.W.Frag} {w : World} {σ : L2.St} {H : Hp} {D : Ends} {ts : MTs} (h : TX K w C (ex C np (.parT ts ms)) D σ H) : tAsg (tTup (TEvs K w C ms)) (gTup K ts.len (TTgo K w C ts)) D σ H := by
  obtain ⟨env, F, O, f, env', er, gd, e, q⟩ := h
  unfold ex at e
  simp only [Option.bind_eq_bind, Option.bind_eq_some_iff, Prod.exists] at e
  obtain ⟨ds, e1, ea, e2, eb, e⟩ := e
  by_cases hs : small ds.length = true
  · rw [if_pos hs] at e
    obtain ⟨rfl, rfl⟩ := Prod.mk.inj (Option.some.inj e)
    refine ⟨env, F, O, ds, e1, er, gd, ea, fun vs H1 F1 Ox1 Oe1 s1 rx er1 => ?_⟩
    refine ⟨by rw [← RL.length rx]; exact small_line hs, fun p hp => ?_⟩
    have gr : Grow H1 (upd H1 p (.tup vs)) := Grow.upd hp
    refine ⟨p, vs, rfl, .inl (.inl upd_same), by rw [← RL.length rx]; exact asgns_length eb, ?_⟩
    have s2 : Hld H1 F1 (uni Ox1 Oe1) (upd H1 p (.tup vs)) F1 emp (uni Ox1 Oe1) := Hld.grow s1.good gr (fun _ z => z.elim) (fun _ z => z.elim)
    have g2 : Good (upd H1 p (.tup vs)) F1 (uni Ox1 Oe1) := s2.goodE
    have r2 : RL (RV K w) (upd H1 p (.tup vs)) F1 [] ds vs Ox1 := RL.grow gr (RL.rv rx)
    refine ⟨e1, F1, Oe1, ds, Ox1, e2, er1.grow gr, g2, s1.dj, r2, eb, fun σ' H' F' O' s3 er3 l3 k3 => ?_⟩
    refine q σ' H' F' O' ⟨(s1.ext.trans (s2.ext.weak fun b z => .inr z)).trans s3.ext, s3.dj, s3.good⟩ er3 ⟨l3, fun j hj => k3 j (.inr hj)⟩
  · rw [if_neg hs] at e
    cases e
theorem js_parT {k k2 : Nat} {pt pt2 : Pos} {tgs : List Expr} {ts : MTs} (hs : ∀ env : PySem.Env, swapsWithSole [.Tuple tgs k pt] (.Tuple es k2 pt2) pos.line env = pure false) (hw : ∀ env : PySem.Env, env.scope = sc → swappedStores [.Tuple tgs k pt] (.Tuple es k2 pt2) env = pure none) (hn : ∀ env : PySem.Env, (assignEach tgs env).length = ts.len) (hst : ∀ env : PySem.Env, (assignEach tgs env).findIdx? (·.1) = none)
    (hg : JGo g N sc C tgs ts) (ha : JV g N sc C es ms) : JS g N sc C np (.Assign [.Tuple tgs k pt] (.Tuple es k2 pt2) pos) (.parT ts ms) := fun X c =>
  PS.imp (ps_asg (pe_tup (ha X c.ok)) (pg_tup c.ok.calm (hg X c.ok) (hn _) (hst _)) (hs _) (hw _ c.scp) rfl) fun D σ H h => parT_sim h
/-- name = [..], on one line -/
theorem js_setLc {i : Nat} {y : Str} {py : Pos} {me : ME} (hN : N[i]? = some y) (hy : sc.names.lookup y = some .local) (hl : (py.line == pos.line) = true) (hany : (scope.names.any fun (n, k) => n == y && (k == .local || k == .cell)) = false)
    (hb : blkC N sc scope own = true) (ho : own.map (·.2) = tsl t) (hs : ∀ (env : PySem.Env) x, foldedSetIterable iter env x = pure x) (hi : JI g N sc C tg iter it) (hg : JG g N scope C tg t) (hc : JCs g N scope C ifs cs) (he : J g N scope C elt me) :
    JS g N sc C np (.Assign [.Name y py] (.ListComp elt [⟨tg, iter, ifs, 0⟩] scope pos) p0) (.asg (.nm i) (.lc t it cs me)) := fun X c => by
  have hyl : X.env.scope.names.lookup y = some .local := by rw [c.scp]; exact hy
  refine PS.imp (ps_setLc (te := TEv X.K X.w C me) (g := TTg X.K X.w C t) (tt := TSts X.K X.w C cs) (wi := TWk X.K X.w C it) (i := i) c.ok.calm c.ok.nd (by rw [c.ok.N]; exact hN) hyl (sw_true (by rw [c.scp]; exact c.kind) hyl hl hany) (hi X c.ok) (c.ok.blkOk hb) (fun s H Ca cl fp => hg _ c.ok.blk) (fun s H Ca cl fp => hc _ c.ok.blk) (fun s H Ca cl fp => he.ev c.ok.blk) (hs _)) fun D σ H h => ?_
  obtain ⟨env, F, O, d, env', er, gd, e, q⟩ := asg_sim h
  rw [ho]
  have e' : ∃ p, op C (.lc t it cs me) env = some (.val p, env') ∧ p = d := by
    simp only [ev, Option.bind_eq_bind, Option.bind_eq_some_iff, Prod.exists] at e
    obtain ⟨p, e1, ea, e⟩ := e
    obtain ⟨wk, e1', ys, ds, e2, _, _, _, _, _, _, ez⟩ := op_lc ea
    obtain ⟨rfl, rfl⟩ := Prod.mk.inj ez
    cases e
    exact ⟨_, ea, rfl⟩
  obtain ⟨p, e1, rfl⟩ := e'
  refine lc_sim ⟨env, F, O, .val p, env', er, gd, e1, fun v H1 F1 Ox1 Oe1 s1 rx er1 => ?_⟩
  have k := q v H1 F1 Ox1 Oe1 s1 rx er1
  -- the store into the name
  obtain ⟨env2, F2, O2, d2, Od, env3, er2, gd2, dj2, r2, eb, q2⟩ := k
  have e' : setv C i d2 env2 = some env3 := by unfold asgn at eb; exact eb
  obtain ⟨hlt, hp, rfl⟩ := setv_some e'
  obtain ⟨O', s', er'⟩ := er2.store gd2 dj2 r2 hlt
  refine q2 _ H1 F2 O' s' er' List.length_set fun j hj => ?_
  refine List.getElem?_set_ne fun z => ?_
  subst z
  rcases hj with hj | hj
  · exact hj (by unfold tsl; exact List.mem_singleton_self _)
  · exact hp hj
theorem tst_sim {K : PySem.W.Frag} {w : World} {σ : L2.St} {H : Hp} {D : Ends} (h : TX K w C (ex C np (.ite ma mm mm2)) D σ H) : tIfS (TTst K w C ma) (TX K w C (exs C np mm)) (TX K w C (exs C np mm2)) D σ H := by
  obtain ⟨env, F, O, f, env', er, gd, e, q⟩ := h
  unfold ex at e
  simp only [Option.bind_eq_bind, Option.bind_eq_some_iff, Prod.exists] at e
  obtain ⟨b, e1, ea, e⟩ := e
  refine ⟨env, F, O, b, e1, er, gd, ea, fun b' H1 F1 Ox1 Oe1 s1 rx er1 => ?_⟩
  have eb : b = b' := rx.1
  subst eb
  cases b with
  | true => exact ⟨e1, F1, Oe1, f, env', er1, s1.goodE, e, q.pre s1.zero .refl⟩
  | false => exact ⟨e1, F1, Oe1, f, env', er1, s1.goodE, e, q.pre s1.zero .refl⟩
theorem js_if (hc : JT g N sc C c mc) (ha : JSs g N sc C np sts mm) (hb : JSs g N sc C np sts2 mm2) : JS g N sc C np (.If c sts sts2 pos) (.ite mc mm mm2) := fun X cx =>
  PS.imp (ps_if (hc X cx.ok) (ha X cx) (hb X cx)) fun D σ H h => tst_sim h
theorem js_retN : JS g N sc C np (.Return none pos) (.ret (.k .non)) := fun X c => PS.imp ps_retN fun D σ H ⟨env, F, O, f, env', er, gd, e, q⟩ => by
  unfold ex at e
  simp only [Option.bind_eq_bind, Option.bind_eq_some_iff, Prod.exists] at e
  obtain ⟨d, e1, ea, e⟩ := e
  cases e
  simp only [retv, ev, op, Option.bind_eq_bind, Option.bind_some, Opd.take] at ea
  cases ea
  exact q .non σ H F emp O (Hld.refl gd) (.of rep_non) er .refl
theorem retv_cases {C : Ctx} {np : Nat} {e : ME} {env : Env} {z : D × Env} (h : retv C np e env = some z) : ev C e env = some z ∨ ∃ i d, e = .var i ∧ gt env i = some d ∧ z = (d, env.set i none) := by
  unfold retv at h
  split at h
  · rename_i i
    by_cases c : np ≤ i
    · rw [if_pos c] at h
      split at h
      · rename_i d hd
        exact .inr ⟨i, d, rfl, hd, (Option.some.inj h).symm⟩
      · cases h
    · rw [if_neg c] at h
      exact .inl h
  · exact .inl h
theorem js_ret (ha : J g N sc C a ma) : JS g N sc C np (.Return (some a) pos) (.ret ma) := fun X c => PS.imp (ps_ret (ha X c.ok)) fun D σ H ⟨env, F, O, f, env', er, gd, e, q⟩ => by
  unfold ex at e
  simp only [Option.bind_eq_bind, Option.bind_eq_some_iff, Prod.exists] at e
  obtain ⟨d, e1, ea, e⟩ := e
  obtain ⟨rfl, rfl⟩ := Prod.mk.inj (Option.some.inj e)
  rcases retv_cases ea with ea | ⟨i, d', rfl, hd, ez⟩
  · exact TEv.of ⟨env, F, O, d, e1, er, gd, ea, fun v H1 F1 Ox1 Oe1 s1 rx er1 => q v σ H1 F1 Ox1 Oe1 s1 rx er1 .refl⟩
  · obtain ⟨rfl, rfl⟩ := Prod.mk.inj ez
    refine ⟨env, F, O, .plc i, env, er, gd, ?_, fun v H1 F1 Ox1 Oe1 s1 rx er1 => ?_⟩
    · unfold op
      rw [hd]
    · obtain ⟨Oi, Or, h1, h2, h3, h4, h5⟩ := er1.split i
      obtain ⟨u, hu, ru⟩ := h3 d hd
      have r1 : σ[i]? = some (some v) := rx.1
      rw [r1] at hu
      cases hu
      have e5 := h5 none emp (fun b z => z.elim) (fun d z => by cases z) (fun _ b z => z) (gt_lt hd)
      refine q v σ H1 F1 Oi (uni emp Or) ?_ ru e5 .refl
      have sub : ∀ b, uni Oi (uni emp Or) b → Oe1 b := fun b z => z.elim (fun q => (h1 b).mpr (.inl q)) fun z => z.elim (fun q => q.elim) fun q => (h1 b).mpr (.inr q)
      exact ⟨s1.ext.weak fun b z => .inr (sub b z), fun b x y => y.elim (fun q => q) fun q => h2 b x q, s1.goodE.weak sub⟩
theorem js_aug {i : Nat} {x : Str} {o : BOp} {opn : Operator} (hi : N[i]? = some x) (hl : sc.names.lookup x = some .local ∨ sc.names.lookup x = some .cell)
    (ho : ∀ X : Cx, ∃ f : Int → Int → Int, PIp X opn (ipI f) ∧ ∀ x y d, augop o x y = some d → ∃ i j, x = .int i ∧ y = .int j ∧ d = .int (f i j)) (ha : J g N sc C a ma) : JS g N sc C np (.AugAssign (.Name x p0) opn a pos) (.aug i o ma) := fun X c => by
  obtain ⟨f, hp, hf⟩ := ho X
  obtain ⟨h1, h2⟩ := c.ok.loc x hl
  refine PS.imp (ps_aug (i := i) c.ok.nd (by rw [c.ok.N]; exact hi) h1 (ha X c.ok) hp h2) fun D σ H ⟨env, F, O, fl, env', er, gd, e, q⟩ => ?_
  unfold ex at e
  simp only [Option.bind_eq_bind, Option.bind_eq_some_iff, Prod.exists] at e
  obtain ⟨x0, hx, p, e1, ea, y0, hy, d, hd, e2, eb, e⟩ := e
  obtain ⟨rfl, rfl⟩ := Prod.mk.inj (Option.some.inj e)
  obtain ⟨m, n, rfl, rfl, rfl⟩ := hf _ _ _ hd
  obtain ⟨u, Oi, hu, ru, _⟩ := er.get hx
  have := ru.int
  subst this
  refine ⟨.int m, hu, env, F, O, p, e1, er, gd, ea, fun vy H1 F1 Ox1 Oe1 s1 rx er1 => ?_⟩
  obtain ⟨A, qy, _⟩ := rx.get er1 hy
  refine ⟨m, n, rfl, qy.int, ?_⟩
  obtain ⟨hlt, hp, rfl⟩ := setv_some eb
  obtain ⟨O', s', er'⟩ := er1.store (v := .int (f m n)) (Ox := emp) (s1.goodE.weak fun b z => z.elim (fun q => q.elim) id) (fun _ z => z.elim) (.of rep_int) hlt
  refine q _ H1 F1 O' (s1.zero.step s'.pre).zero er' ⟨List.length_set, fun j hj => List.getElem?_set_ne (by rintro rfl; exact hp hj)⟩
end
end Mp

end
section
set_option Elab.async false
set_option linter.all false
/-! Mp17: loops; two and three names at once. -/
namespace Mp
open PySem PySem.Spec PyProof.Rows L2

section
variable {K : PySem.W.Frag} {w : World} {C : Ctx} {H H' H1 H2 : Hp} {F F' F1 F2 O O' O1 O2 Ox Oe Ox1 Oe1 Ox2 Oe2 A B : AS} {d : D} {v : V} {σ τ : L2.St} {env env' env1 env2 : Env} {f : Fl} {D D' : Ends}
theorem CtxOk.calls_same {g : GI} {N : List Str} {sc : Scope} {C C' : Ctx} {X : Cx} (c : CtxOk g N sc C X) (e : C'.calls = C.calls) : CtxOk g N sc C' X :=
  ⟨c.calm, c.nd, c.N, c.vis, c.loc, c.cf, c.gl, c.con, c.free, by rw [e]; exact c.calls⟩
theorem pinned_calls {C : Ctx} {wk : Wk} : (pinned wk C).calls = C.calls := by
  unfold pinned
  split <;> rfl
theorem StOk.pinned {g : GI} {N : List Str} {sc : Scope} {C : Ctx} {X : Cx} (c : StOk g N sc C X) (wk : Wk) : StOk g N sc (Mp.pinned wk C) X := ⟨c.ok.calls_same pinned_calls, c.scp, c.kind, c.own⟩
theorem pinned_pins {C : Ctx} {wk : Wk} {j : Nat} (h : j ∈ C.pins ∨ wk.slot = some j) : j ∈ (pinned wk C).pins := by
  unfold pinned
  split
  · rename_i i hi
    rcases h with h | h
    · exact List.mem_cons_of_mem _ h
    · rw [hi] at h
      cases h
      exact List.mem_cons_self
  · rename_i hi
    rcases h with h | h
    · exact h
    · rw [hi] at h; cases h
theorem PSs.ex {α : Type} {X : Cx} {s : List Stmt} {t : α → TS} (h : ∀ a, PSs X s (t a)) : PSs X s (fun D σ H => ∃ a, t a D σ H) := ⟨fun pins s σ H D I ⟨a, q⟩ => (h a).run pins s σ H D I q⟩
theorem PG.ex {α : Type} {X : Cx} {tg : Expr} {t : α → L2.TG} (h : ∀ a, PG X tg (t a)) : PG X tg (fun v σ H Q => ∃ a, t a v σ H Q) := ⟨fun pins s σ H v u Q I r ⟨a, q⟩ => (h a).run pins s σ H v u Q I r q⟩
end
section
variable {g : GI} {N : List Str} {sc scope : Scope} {C : Ctx} {np : Nat} {a b c tg e elt iter : Expr} {ma mb mc : ME} {pos p0 apos cpos : Pos} {own : List (Str × Nat)} {ifs es : List Expr} {t : MT} {it : MI2} {cs ms : MEs} {st : Stmt} {sts sts2 : List Stmt} {m : MS} {mm mm2 : MSs}
noncomputable def forB (C : Ctx) (np : Nat) (t : MT) (b : MSs) (x : D) (en : Env) : Option (Fl × Env) := do
  let en1 ← asgn C t x en
  exs C np b en1
theorem for_sim {K : PySem.W.Frag} {w : World} {σ : L2.St} {H : Hp} {D : Ends} (h : TX K w C (ex C np (.for t it mm)) D σ H) : tFor (TWk K w C it) (fun v σ H Q => ∃ wk : Wk, TTg K w (pinned wk C) t v σ H Q) (fun D σ H => ∃ wk : Wk, TX K w (pinned wk C) (exs (pinned wk C) np mm) D σ H) D σ H := by
  obtain ⟨env, F, O, f, e2, er, gd, e, q⟩ := h
  unfold ex at e
  simp only [Option.bind_eq_bind, Option.bind_eq_some_iff, Prod.exists] at e
  obtain ⟨wk, e1, ew, ys, ey, el⟩ := e
  refine ⟨env, F, O, wk, e1, er, gd, ew, fun J H1 F1 Oe1 s1 wr er1 => ?_⟩
  have g1 := s1.goodE
  let W : Nat → Nat → L2.St → Hp → Prop := fun i m τ Ht => ∃ en F' Oe, Hld H1 F1 Oe1 Ht F' emp Oe ∧ EnvR K w Ht F' en τ Oe ∧ Agree C σ τ ∧ (∀ j, wk.slot = some j → τ[j]? = σ[j]?) ∧ forL wk.get (forB (pinned wk C) np t mm) m i en = some (f, e2)
  refine ⟨W, ⟨ys.length, e1, F1, Oe1, Hld.refl g1, er1, .refl, fun _ _ => rfl, el⟩, ?_⟩
  rintro i m τ Ht ⟨en, F', Oe, s2, er2, ag, ags, elt⟩
  have sb := s2.ext.stab g1
  have q1 : StEnd K w C Ht F' Oe τ D e2 f := q.pre ((s1.step s2).zero) ag
  cases m with
  | zero =>
    left
    unfold forL at elt
    split at elt
    · rename_i zs hz
      by_cases hl : zs.length = i
      · rw [if_pos hl] at elt
        obtain ⟨rfl, rfl⟩ := Prod.mk.inj (Option.some.inj elt)
        exact ⟨(wr Ht F' en τ Oe sb er2 ags zs hz i).1 hl.symm, q1 τ Ht F' Oe (Hld.refl s2.goodE) er2 .refl⟩
      · rw [if_neg hl] at elt
        cases elt
    · cases elt
  | succ r =>
    right
    unfold forL at elt
    split at elt
    · rename_i zs hz
      by_cases hl : zs.length = i + (r + 1)
      · rw [if_pos hl] at elt
        split at elt
        · rename_i x hx
          have wk1 := (wr Ht F' en τ Oe sb er2 ags zs hz i).2 x hx
          refine ⟨wk1.1, W (i + 1) r, fun τ' H' h' => ⟨r, Nat.lt_succ_self r, h'⟩, fun v H'' hy => ?_⟩
          obtain ⟨gr, rx⟩ := wk1.2 v H'' hy
          have ge := s2.goodE
          have s3 : Hld Ht F' Oe H'' F' emp Oe := Hld.grow ge gr (fun b z => z.elim) (fun b z => z.elim)
          have turn : ∃ f1 en', forB (pinned wk C) np t mm x en = some (f1, en') ∧ (match f1 with
              | .nx => forL wk.get (forB (pinned wk C) np t mm) r (i + 1) en' = some (f, e2)
              | .ct => forL wk.get (forB (pinned wk C) np t mm) r (i + 1) en' = some (f, e2)
              | .brk => f = .nx ∧ e2 = en'
              | .ret d => f = .ret d ∧ e2 = en') := by
            split at elt
            · exact ⟨_, _, by assumption, elt⟩
            · exact ⟨_, _, by assumption, elt⟩
            · cases elt; refine ⟨_, _, (by assumption), ?_⟩; exact ⟨rfl, rfl⟩
            · cases elt; refine ⟨_, _, (by assumption), ?_⟩; exact ⟨rfl, rfl⟩
            · cases elt
          obtain ⟨f1, en', hb, hf⟩ := turn
          unfold forB at hb
          simp only [Option.bind_eq_bind, Option.bind_eq_some_iff] at hb
          obtain ⟨en1, h1, h2⟩ := hb
          refine ⟨wk, en, F', Oe, x, emp, en1, er2.grow gr, s3.goodE.weak fun b z => z.elim (fun q => q.elim) id, fun _ z => z.elim, .of rx, h1, fun σ2 H2 F2 O2 s4 er4 l4 k4 => ?_⟩
          have s4 := s4.pre
          have st4 := ((s2.step s3).step s4).zero
          have ag4 : Agree (pinned wk C) τ σ2 := ⟨l4, fun j hj => k4 j (.inr hj)⟩
          have weaken : ∀ {σ3 : L2.St}, Agree (pinned wk C) τ σ3 → Agree C τ σ3 := fun a => ⟨a.1, fun j hj => a.2 j (pinned_pins (.inl hj))⟩
          refine ⟨wk, en1, F2, O2, f1, en', er4, s4.goodE, h2, ?_⟩
          have next : forL wk.get (forB (pinned wk C) np t mm) r (i + 1) en' = some (f, e2) → ∀ σ' H' F'' O', Hld H2 F2 O2 H' F'' emp O' → EnvR K w H' F'' en' σ' O' → Agree (pinned wk C) σ2 σ' → W (i + 1) r σ' H' := fun hf σ' H' F'' O' s er a => by
            have at' := ag4.trans a
            exact ⟨en', F'', O', (st4.step s).zero, er, ag.trans (weaken at'), fun j hj => (at'.2 j (pinned_pins (.inr hj))).trans (ags j hj), hf⟩
          cases f1 with
          | nx => exact next hf
          | ct => exact next hf
          | brk =>
            obtain ⟨rfl, rfl⟩ := hf
            exact fun σ' H' F'' O' s er a => q1 σ' H' F'' O' (((s3.step s4).zero.step s).zero) er (weaken (ag4.trans a))
          | ret d =>
            obtain ⟨rfl, rfl⟩ := hf
            exact fun v σ' H' F'' Ox Oe s r er a => q1 v σ' H' F'' Ox Oe (((s3.step s4).zero.step s).drop fun b z => .inr z) r er (weaken (ag4.trans a))
        · cases elt
      · rw [if_neg hl] at elt
        cases elt
    · cases elt
theorem js_for (hs : ∀ (env : PySem.Env) x, foldedSetIterable iter env x = pure x) (hi : JI g N sc C tg iter it) (hg : ∀ wk, JG g N sc (pinned wk C) tg t) (hb : ∀ wk, JSs g N sc (pinned wk C) np sts mm) : JS g N sc C np (.For tg iter sts [] pos) (.for t it mm) := fun X c =>
  PS.imp (ps_for c.own c.ok.calm (hi X c.ok) (PG.ex fun wk => hg wk X (c.pinned wk).ok) (PSs.ex fun wk => hb wk X (c.pinned wk)) (hs _)) fun D σ H h => for_sim h
open Classical in
theorem whileM_some {c : Env → Option (Bool × Env)} {b : Env → Option (Fl × Env)} {env : Env} {z : Fl × Env} (h : whileM c b env = some z) : ∃ n, whileN c b n env = some z := by
  unfold whileM at h
  split at h
  · rename_i hx
    cases h
    exact ⟨_, choose_spec (choose_spec hx)⟩
  · cases h
theorem while_sim {K : PySem.W.Frag} {w : World} {σ : L2.St} {H : Hp} {D : Ends} (h : TX K w C (ex C np (.while mc mm)) D σ H) : tWhile (TTst K w C mc) (TX K w C (exs C np mm)) D σ H := by
  obtain ⟨env, F, O, f, e2, er, gd, e, q⟩ := h
  have e' : whileM (tst C mc) (exs C np mm) env = some (f, e2) := by unfold ex at e; exact e
  obtain ⟨n, hn⟩ := whileM_some e'
  let W : Nat → L2.St → Hp → Prop := fun m τ Ht => ∃ en F' Oe, Hld H F O Ht F' emp Oe ∧ EnvR K w Ht F' en τ Oe ∧ Agree C σ τ ∧ whileN (tst C mc) (exs C np mm) m en = some (f, e2)
  refine ⟨W, ⟨n, env, F, O, Hld.refl gd, er, .refl, hn⟩, ?_⟩
  rintro m τ Ht ⟨en, F', Oe, s2, er2, ag, elt⟩
  have q1 : StEnd K w C Ht F' Oe τ D e2 f := q.pre s2 ag
  cases m with
  | zero => unfold whileN at elt; cases elt
  | succ r =>
    unfold whileN at elt
    have turn : ∃ b en1, tst C mc en = some (b, en1) ∧ ((b = false ∧ f = .nx ∧ e2 = en1) ∨ (b = true ∧ ∃ f1 en', exs C np mm en1 = some (f1, en') ∧ (match f1 with
        | .nx => whileN (tst C mc) (exs C np mm) r en' = some (f, e2)
        | .ct => whileN (tst C mc) (exs C np mm) r en' = some (f, e2)
        | .brk => f = .nx ∧ e2 = en'
        | .ret d => f = .ret d ∧ e2 = en'))) := by
      split at elt
      · rename_i en1 ht
        split at elt
        · exact ⟨_, _, ht, .inr ⟨rfl, _, _, by assumption, elt⟩⟩
        · exact ⟨_, _, ht, .inr ⟨rfl, _, _, by assumption, elt⟩⟩
        · cases elt; refine ⟨_, _, ht, .inr ⟨rfl, _, _, (by assumption), ?_⟩⟩; exact ⟨rfl, rfl⟩
        · cases elt; refine ⟨_, _, ht, .inr ⟨rfl, _, _, (by assumption), ?_⟩⟩; exact ⟨rfl, rfl⟩
        · cases elt
      · rename_i en1 ht
        cases elt
        exact ⟨_, _, ht, .inl ⟨rfl, rfl, rfl⟩⟩
      · cases elt
    obtain ⟨b, en1, ht, hb⟩ := turn
    refine ⟨en, F', Oe, b, en1, er2, s2.goodE, ht, fun b' H1 F1 Ox1 Oe1 s3 rb er3 => ?_⟩
    have eb : b = b' := rb.1
    subst eb
    have s3 := s3.zero
    rcases hb with ⟨rfl, rfl, rfl⟩ | ⟨rfl, f1, en', hx, hf⟩
    · dsimp only
      rw [if_neg Bool.false_ne_true]
      exact q1 τ H1 F1 Oe1 s3 er3 .refl
    · dsimp only
      rw [if_pos rfl]
      refine ⟨W r, fun τ' H' h' => ⟨r, Nat.lt_succ_self r, h'⟩, en1, F1, Oe1, f1, en', er3, s3.goodE, hx, ?_⟩
      have st := (s2.step s3).zero
      have next : whileN (tst C mc) (exs C np mm) r en' = some (f, e2) → ∀ σ' H' F'' O', Hld H1 F1 Oe1 H' F'' emp O' → EnvR K w H' F'' en' σ' O' → Agree C τ σ' → W r σ' H' := fun hf σ' H' F'' O' s er a =>
        ⟨en', F'', O', (st.step s).zero, er, ag.trans a, hf⟩
      cases f1 with
      | nx => exact next hf
      | ct => exact next hf
      | brk =>
        obtain ⟨rfl, rfl⟩ := hf
        exact fun σ' H' F'' O' s er a => q1 σ' H' F'' O' (s3.step s).zero er a
      | ret d =>
        obtain ⟨rfl, rfl⟩ := hf
        exact fun v σ' H' F'' Ox Oe s r er a => q1 v σ' H' F'' Ox Oe ((s3.step s).drop fun b z => .inr z) r er a
theorem js_while (hc : JT g N sc C c mc) (hb : JSs g N sc C np sts mm) : JS g N sc C np (.While c sts [] pos) (.while mc mm) := fun X cx =>
  PS.imp (ps_while cx.own (hc X cx.ok) (hb X cx)) fun D σ H h => while_sim h
/-- several slots are filled -/
theorem setvs_sim {K : PySem.W.Frag} {w : World} : ∀ {is : List Nat} {ds : List D} {vs : List V} {env env' : Env} {σ : L2.St} {H : Hp} {F O Ox : AS}, EnvR K w H F env σ O → Good H F (uni Ox O) → Dj Ox O → RL (RV K w) H F [] ds vs Ox → setvs C is ds env = some env' →
    ∃ O', Hld H F (uni Ox O) H F emp O' ∧ EnvR K w H F env' ((is.zip vs).foldl (fun τ p => τ.set p.1 (some p.2)) σ) O' ∧ Agree C σ ((is.zip vs).foldl (fun τ p => τ.set p.1 (some p.2)) σ) ∧ is.length = vs.length
  | [], [], [], env, env', σ, H, F, O, Ox, er, gd, dj, r, e => by
    unfold setvs at e
    cases e
    exact ⟨O, ⟨Ext.refl.weak fun b z => .inr (z.elim (fun q => q.elim) id), fun _ z => z.elim, gd.weak fun b z => .inr (z.elim (fun q => q.elim) id)⟩, er, .refl, rfl⟩
  | [], [], _ :: _, _, _, _, _, _, _, _, _, _, _, r, _ => False.elim r
  | [], _ :: _, _, _, _, _, _, _, _, _, _, _, _, _, e => by unfold setvs at e; cases e
  | _ :: _, [], _, _, _, _, _, _, _, _, _, _, _, _, e => by unfold setvs at e; cases e
  | _ :: _, _ :: _, [], _, _, _, _, _, _, _, _, _, _, r, _ => False.elim r
  | i :: is, d :: ds, v :: vs, env, env', σ, H, F, O, Ox, er, gd, dj, ⟨A, B, r1, r2, r3, r4⟩, e => by
    unfold setvs at e
    simp only [Option.bind_eq_bind, Option.bind_eq_some_iff] at e
    obtain ⟨e1, ea, eb⟩ := e
    obtain ⟨hlt, hp, rfl⟩ := setv_some ea
    have subA : ∀ b, uni A O b → uni Ox O b := fun b z => z.elim (fun q => .inl ((r4 b).mpr (.inl q))) .inr
    obtain ⟨O1, s1, er1⟩ := er.store (gd.weak subA) (fun b x y => dj b ((r4 b).mpr (.inl x)) y) (show RepV K w H F d v A from r1) hlt
    have O1sub : ∀ b, O1 b → uni A O b := fun b z => by
      rcases s1.ext.own b (.inr z) with q | q
      · exact q
      · obtain ⟨xs, q2⟩ := s1.good.ls b (.inr z)
        rw [q] at q2; cases q2
    have djB : Dj B O1 := fun b x y => by
      rcases O1sub b y with z | z
      · exact r3 b z x
      · exact dj b ((r4 b).mpr (.inr x)) z
    have sub2 : ∀ b, uni B O1 b → uni Ox O b := fun b z => z.elim (fun q => .inl ((r4 b).mpr (.inr q))) fun q => subA b (O1sub b q)
    obtain ⟨O2, s2, er2, a2, l2⟩ := setvs_sim er1 (gd.weak sub2) djB r2 eb
    refine ⟨O2, ⟨?_, s2.dj, s2.good⟩, er2, ?_, congrArg (· + 1) l2⟩
    · refine Ext.refl.weak fun b z => ?_
      rcases s2.ext.own b z with q | q
      · exact sub2 b q
      · obtain ⟨xs, q2⟩ := s2.good.ls b z
        rw [q] at q2; cases q2
    · refine Agree.trans (σ' := σ.set i (some v)) ⟨List.length_set, fun j hj => List.getElem?_set_ne (by rintro rfl; exact hp hj)⟩ a2
theorem par_sim {K : PySem.W.Frag} {w : World} {σ : L2.St} {H : Hp} {D : Ends} {is : List Nat} (h : TX K w C (ex C np (.par is ms)) D σ H) : TEvs K w C ms σ H fun vs H1 => is.length = vs.length ∧ D.nx ((is.zip vs).foldl (fun τ p => τ.set p.1 (some p.2)) σ) H1 := by
  obtain ⟨env, F, O, f, env', er, gd, e, q⟩ := h
  unfold ex at e
  simp only [Option.bind_eq_bind, Option.bind_eq_some_iff, Prod.exists] at e
  obtain ⟨ds, e1, ea, e2, eb, e⟩ := e
  obtain ⟨rfl, rfl⟩ := Prod.mk.inj (Option.some.inj e)
  refine ⟨env, F, O, ds, e1, er, gd, ea, fun vs H1 F1 Ox1 Oe1 s1 rx er1 => ?_⟩
  obtain ⟨O', s2, er2, a2, l2⟩ := setvs_sim er1 s1.good s1.dj (RL.rv rx) eb
  exact ⟨l2, q _ H1 F1 O' ⟨s1.ext.trans s2.ext, s2.dj, s2.good⟩ er2 a2⟩
theorem js_par {i j : Nat} {x y : Str} {px py pt : Pos} {kt k2 : Nat} {pt2 : Pos} (hi : N[i]? = some x) (hj : N[j]? = some y) (hij : i ≠ j) (hx : sc.names.lookup x = some .local) (hy : sc.names.lookup y = some .local)
    (hw : ∀ env : PySem.Env, env.scope = sc → swappedStores [.Tuple [.Name x px, .Name y py] kt pt] (.Tuple [a, b] k2 pt2) env = pure (some [x, y])) (hs : ∀ env : PySem.Env, swapsWithSole [.Tuple [.Name x px, .Name y py] kt pt] (.Tuple [a, b] k2 pt2) pos.line env = pure false)
    (ha : JV g N sc C [a, b] ms) : JS g N sc C np (.Assign [.Tuple [.Name x px, .Name y py] kt pt] (.Tuple [a, b] k2 pt2) pos) (.par [i, j] ms) := fun X c =>
  PS.imp (ps_par (i := i) (j := j) c.ok.calm c.ok.nd (by rw [c.ok.N]; exact hi) (by rw [c.ok.N]; exact hj) hij (by rw [c.scp]; exact hx) (by rw [c.scp]; exact hy) (ha X c.ok) (hw _ c.scp) (hs _)) fun D σ H h => by
    obtain ⟨env, F, O, ds, e1, er, gd, ea, k⟩ := par_sim h
    refine ⟨env, F, O, ds, e1, er, gd, ea, fun vs H1 F1 Ox1 Oe1 s1 rx er1 => ?_⟩
    obtain ⟨l, q⟩ := k vs H1 F1 Ox1 Oe1 s1 rx er1
    rcases vs with _ | ⟨v, _ | ⟨u, _ | ⟨z, r⟩⟩⟩
    · cases l
    · cases l
    · exact ⟨v, u, rfl, q⟩
    · cases l
theorem js_par3 {i j l : Nat} {x y z : Str} {px py pz pt : Pos} {kt k2 : Nat} {pt2 : Pos} (hi : N[i]? = some x) (hj : N[j]? = some y) (hl : N[l]? = some z) (hij : i ≠ j) (hil : i ≠ l) (hjl : j ≠ l) (hx : sc.names.lookup x = some .local) (hy : sc.names.lookup y = some .local) (hz : sc.names.lookup z = some .local)
    (hw : ∀ env : PySem.Env, env.scope = sc → swappedStores [.Tuple [.Name x px, .Name y py, .Name z pz] kt pt] (.Tuple [a, b, c] k2 pt2) env = pure (some [x, y, z])) (hs : ∀ env : PySem.Env, swapsWithSole [.Tuple [.Name x px, .Name y py, .Name z pz] kt pt] (.Tuple [a, b, c] k2 pt2) pos.line env = pure false)
    (ha : JV g N sc C [a, b, c] ms) : JS g N sc C np (.Assign [.Tuple [.Name x px, .Name y py, .Name z pz] kt pt] (.Tuple [a, b, c] k2 pt2) pos) (.par [i, j, l] ms) := fun X cx =>
  PS.imp (ps_par3 (i := i) (j := j) (l := l) cx.ok.calm cx.ok.nd (by rw [cx.ok.N]; exact hi) (by rw [cx.ok.N]; exact hj) (by rw [cx.ok.N]; exact hl) hij hil hjl (by rw [cx.scp]; exact hx) (by rw [cx.scp]; exact hy) (by rw [cx.scp]; exact hz) (ha X cx.ok) (hw _ cx.scp) (hs _)) fun D σ H h => by
    obtain ⟨env, F, O, ds, e1, er, gd, ea, k⟩ := par_sim h
    refine ⟨env, F, O, ds, e1, er, gd, ea, fun vs H1 F1 Ox1 Oe1 s1 rx er1 => ?_⟩
    obtain ⟨l, q⟩ := k vs H1 F1 Ox1 Oe1 s1 rx er1
    rcases vs with _ | ⟨v, _ | ⟨u, _ | ⟨z, _ | ⟨y, r⟩⟩⟩⟩
    · cases l
    · cases l
    · cases l
    · exact ⟨v, u, z, rfl, q⟩
    · cases l
end
end Mp

end
section
set_option Elab.async false
set_option linter.all false
/-! Mp18: each def keeps the small language's promise. -/
namespace Mp
open PySem PySem.Spec PyProof.Rows L2

section
variable {K : PySem.W.Frag} {w : World} {C : Ctx} {H H' H1 H2 : Hp} {F F' F1 F2 O O' O1 O2 Ox Oe Ox1 Oe1 Ox2 Oe2 A B : AS} {d : D} {v : V} {σ τ : L2.St} {env env' env1 env2 : Env}
theorem gt_nones {m i : Nat} : gt (List.replicate m none) i = none := by
  unfold gt
  rw [List.getElem?_replicate]
  split
  · rename_i d h
    split at h <;> cases h
  · rfl
theorem gt_cons_zero {x : Option D} {env : Env} : gt (x :: env) 0 = x := by
  unfold gt
  cases x <;> rfl
theorem gt_cons_succ {x : Option D} {env : Env} {i : Nat} : gt (x :: env) (i + 1) = gt env i := rfl
/-- a def's slots at its start -/
theorem env_start {m : Nat} : ∀ {ds : List D} {vs : List V} {O : AS}, RL (RV K w) H F σ ds vs O → EnvR K w H F (ds.map some ++ List.replicate m none) (vs.map some ++ List.replicate m none) O
  | [], [], O, r => by
    refine ⟨by simp, fun _ => emp, fun i d e => ?_, fun _ _ _ z => z, fun _ _ _ _ z => False.elim z, fun b => ⟨fun z => False.elim (r b z), fun ⟨_, z⟩ => False.elim z⟩⟩
    have e' : gt (List.replicate m none) i = some d := e
    rw [gt_nones] at e'
    cases e'
  | [], _ :: _, _, r => False.elim r
  | _ :: _, [], _, r => False.elim r
  | d :: ds, v :: vs, O, ⟨A, B, r1, r2, r3, r4⟩ => by
    obtain ⟨l, f, h1, h2, h3, h4⟩ := env_start (m := m) r2
    refine ⟨congrArg (· + 1) l, fun i => match i with | 0 => A | i + 1 => f i, fun i e he => ?_, fun i he b => ?_, fun i j n b x y => ?_, fun b => ?_⟩
    · cases i with
      | zero =>
        have he' : some d = some e := he
        cases he'
        exact ⟨v, rfl, r1⟩
      | succ i => exact h1 i e he
    · cases i with
      | zero =>
        have he' : some d = none := he
        cases he'
      | succ i => exact h2 i he b
    · cases i with
      | zero => cases j with
        | zero => exact n rfl
        | succ j => exact r3 b x ((h4 b).mpr ⟨j, y⟩)
      | succ i => cases j with
        | zero => exact r3 b y ((h4 b).mpr ⟨i, x⟩)
        | succ j => exact h3 i j (fun z => n (congrArg (· + 1) z)) b x y
    · rw [r4]
      constructor
      · rintro (z | z)
        · exact ⟨0, z⟩
        · obtain ⟨i, z⟩ := (h4 b).mp z
          exact ⟨i + 1, z⟩
      · rintro ⟨i, z⟩
        cases i with
        | zero => exact .inl z
        | succ i => exact .inr ((h4 b).mpr ⟨i, z⟩)
/-- the parameters behind the run -/
theorem fin_of {f : Nat → AS} (h1 : ∀ i d, gt env i = some d → ∃ v, σ[i]? = some (some v) ∧ RepV K w H F d v (f i)) (h3 : ∀ i j, i ≠ j → Dj (f i) (f j)) : ∀ (ds : List D) (vs : List V) (j : Nat), ds.length = vs.length →
    (∀ i, j ≤ i → i ∈ ownsAt j ds → ∃ v, vs[i - j]? = some v ∧ σ[i]? = some (some v)) → ∃ Oa, FinR K w H F (finals env j ds) vs Oa ∧ ∀ b, Oa b → ∃ i, j ≤ i ∧ f i b
  | [], [], j, _, _ => ⟨emp, fun _ z => z, fun _ z => False.elim z⟩
  | [], _ :: _, _, l, _ => by cases l
  | _ :: _, [], _, l, _ => by cases l
  | d :: ds, v :: vs, j, l, hv => by
    obtain ⟨Oa, r, s⟩ := fin_of h1 h3 ds vs (j + 1) (Nat.succ.inj l) fun i hi hm => by
      obtain ⟨u, e1, e2⟩ := hv i (by omega) (by
        unfold ownsAt
        split
        · exact List.mem_cons_of_mem _ hm
        · exact hm)
      refine ⟨u, ?_, e2⟩
      have : i - j = (i - (j + 1)) + 1 := by omega
      rw [this] at e1
      exact e1
    unfold finals
    have s' : ∀ b, Oa b → ∃ i, j ≤ i ∧ f i b := fun b z => by
      obtain ⟨i, hi, z⟩ := s b z
      exact ⟨i, by omega, z⟩
    by_cases ho : isOwn d = true
    · rw [if_pos ho]
      cases hg : gt env j with
      | none => exact ⟨Oa, r, s'⟩
      | some e =>
        obtain ⟨u, hu, ru⟩ := h1 j e hg
        obtain ⟨u', e1, e2⟩ := hv j (Nat.le_refl _) (by unfold ownsAt; rw [if_pos ho]; exact List.mem_cons_self)
        rw [Nat.sub_self] at e1
        have e1' : some v = some u' := e1
        cases e1'
        rw [hu] at e2
        cases e2
        refine ⟨uni (f j) Oa, ⟨f j, Oa, ru, r, fun b x y => ?_, fun _ => .rfl⟩, fun b z => z.elim (fun z => ⟨j, Nat.le_refl _, z⟩) (s' b)⟩
        obtain ⟨i, hi, y⟩ := s b y
        exact h3 j i (by omega) b x y
    · rw [if_neg ho]
      exact ⟨Oa, r, s'⟩
theorem ownsAt_mem : ∀ {ds : List D} {j i : Nat}, i ∈ ownsAt j ds → j ≤ i ∧ i < j + ds.length
  | [], _, _, h => by cases h
  | d :: ds, j, i, h => by
    have key : i ∈ ownsAt (j + 1) ds → j ≤ i ∧ i < j + (d :: ds).length := fun h => by
      obtain ⟨h1, h2⟩ := ownsAt_mem h
      rw [List.length_cons]
      exact ⟨by omega, by omega⟩
    unfold ownsAt at h
    split at h
    · rcases List.mem_cons.mp h with rfl | h
      · rw [List.length_cons]; exact ⟨Nat.le_refl _, by omega⟩
      · exact key h
    · exact key h
end
/-- what is known of a def's text -/
structure DefS (g : GI) (body : List Stmt) (scope : Scope) (ps N : List Str) (f : FnD) : Prop where
  fs : FnScope N ps scope
  np : f.np = ps.length
  ns : f.ns = N.length
  js : ∀ C, JSs g N scope C f.np body f.body
/-- the world that the defs are in -/
structure WorldOk (P : Program) (w : World) (K : PySem.W.Frag) (mg : Str → Option Value) (g : GI) (fs : List FnD) : Prop where
  con : ∀ x d, g.con x = some d → ∃ u v, mg x = some u ∧ RelV v u ∧ ∀ H F, Rep K w H F d v
  free : ∀ x, x ∈ g.free → mg x = none
  defs : ∀ (i : Nat) (x : Str), g.fns[i]? = some x → ∃ (a : Addr) (fd : FuncData) (qual : Str) (args : Arguments) (body : List Stmt) (scope : Scope) (ps N : List Str) (f : FnD), fs[i]? = some f ∧ FunD K x qual args body scope [] [] a fd ∧ mg x = some (.ref a) ∧ Binds K fd ps [] ∧ DefS g body scope ps N f ∧ g.pars[i]? = some ps ∧ (∀ (s : Shared) (us : List Value), us.length = ps.length → BindsTo s fd ⟨us, []⟩ (ps.zip us)) ∧ ∀ (s : Shared) (u : Value), ps.length = 1 → BindsTo s fd ⟨[], ps.zip [u]⟩ (ps.zip [u])
theorem ctx_start {P : Program} {w : World} {K : PySem.W.Frag} {mg : Str → Option Value} {base : Heap} {g : GI} {fs : List FnD} (W : WorldOk P w K mg g fs) {N ps : List Str} {scope : Scope} (S : FnScope N ps scope) {qual : Str} {f : Addr} {cdv : Value} {A : Around} {outer : List PySem.Env} {s : Shared} {H : Hp} {E : XK} {C : Ctx}
    (hc : ∃ k, Room k (A.deeper (envOfC qual scope s.heap.objs.size f cdv)) ∧ ∀ i x, g.fns[i]? = some x → FnAt P w K mg base g C.calls k i x) :
    StOk g N scope C (cxOf CX0 P w K mg base N qual scope f cdv A outer s H E).nox where
  ok := ⟨rfl, S.nd, rfl, fun x h => h, fun x h => ⟨h, .inl rfl⟩, fun x h => h, fun x h => h, W.con, W.free, hc⟩
  scp := rfl
  kind := S.kind
  own := PassesOwn.never
theorem def_step {P : Program} {w : World} {K : PySem.W.Frag} {mg : Str → Option Value} {base : Heap} {g : GI} {fs : List FnD} (W : WorldOk P w K mg g fs) {k : Nat} (ih : ∀ (i : Nat) (x : Str), g.fns[i]? = some x → FnAt P w K mg base g (callN fs k) k i x) {i : Nat} {x qual : Str} {a : Addr} {fd : FuncData} {args : Arguments} {body : List Stmt} {scope : Scope} {ps N : List Str} {f : FnD}
    (hf : fs[i]? = some f) (F : FunD K x qual args body scope [] [] a fd) (S : DefS g body scope ps N f) : FnOk P w K mg base CX0 (k + 1) a fd ps (spM K w (callN fs (k + 1)) i ps.length) ∧ ∀ ds r, callN fs (k + 1) i ds = some r → ds.length = ps.length := by
  have run : ∀ ds z, callN fs (k + 1) i ds = some z → runD (callN fs k) f ds = some z := fun ds z h => by
    unfold callN at h
    rw [hf] at h
    exact h
  have hlen : ∀ ds z, callN fs (k + 1) i ds = some z → ds.length = ps.length := fun ds z h => by
    have h := run ds z h
    unfold runD at h
    by_cases c : ds.length = f.np ∧ f.np ≤ f.ns
    · rw [c.1, S.np]
    · rw [if_neg c] at h; cases h
  refine ⟨?_, hlen⟩
  refine F.ok S.fs (fun vs H Q E h => h.1) fun cdv A outer s H vs Q E hr hsp => ?_
  obtain ⟨hvl, ds, Fz, O, r, fin, rl, gd, hcall, hk⟩ := hsp
  have hrun := run ds _ hcall
  unfold runD at hrun
  by_cases c : ds.length = f.np ∧ f.np ≤ f.ns
  · rw [if_pos c] at hrun
    refine ⟨TX K w ⟨callN fs k, ownsAt 0 ds⟩ (exs ⟨callN fs k, ownsAt 0 ds⟩ f.np f.body), PSs.nox (S.js ⟨callN fs k, ownsAt 0 ds⟩ _ (ctx_start (C := ⟨callN fs k, ownsAt 0 ds⟩) W S.fs ⟨k, hr, ih⟩)), ?_⟩
    have hst : start N vs = vs.map some ++ List.replicate (f.ns - f.np) none := by
      unfold L2.start
      rw [S.ns, S.np, hvl]
    have er : EnvR K w H Fz (ds.map some ++ List.replicate (f.ns - f.np) none) (start N vs) O := by
      rw [hst]
      exact env_start rl
    have hdv : ds.length = vs.length := RL.length rl
    have slot : ∀ σ', Agree ⟨callN fs k, ownsAt 0 ds⟩ (start N vs) σ' → ∀ i, 0 ≤ i → i ∈ ownsAt 0 ds → ∃ v, vs[i - 0]? = some v ∧ σ'[i]? = some (some v) := fun σ' ag i _ hi => by
      obtain ⟨_, h2⟩ := ownsAt_mem hi
      have hlt : i < vs.length := by omega
      refine ⟨vs[i], by rw [Nat.sub_zero, List.getElem?_eq_getElem hlt], ?_⟩
      rw [ag.2 i hi, hst, List.getElem?_append_left (by rw [List.length_map]; exact hlt), List.getElem?_map, List.getElem?_eq_getElem hlt]
      rfl
    split at hrun
    · rename_i e he
      obtain ⟨rfl, rfl⟩ := Prod.mk.inj (Option.some.inj hrun)
      refine ⟨_, Fz, O, .nx, e, er, gd, he, fun σ' H' F' O' s' er' ag => ?_⟩
      obtain ⟨l, f0, h1, h2, h3, h4⟩ := er'
      obtain ⟨Oa, fr, sub⟩ := fin_of h1 h3 ds vs 0 hdv (slot σ' ag)
      have sub' : ∀ b, Oa b → O' b := fun b z => let ⟨i, _, z⟩ := sub b z; (h4 b).mpr ⟨i, z⟩
      exact hk .non H' F' emp Oa (s'.sub sub') (.of rep_non) fr
    · rename_i d e he
      obtain ⟨rfl, rfl⟩ := Prod.mk.inj (Option.some.inj hrun)
      refine ⟨_, Fz, O, .ret d, e, er, gd, he, fun v σ' H' F' Ox Oe s' rv er' ag => ?_⟩
      obtain ⟨l, f0, h1, h2, h3, h4⟩ := er'
      obtain ⟨Oa, fr, sub⟩ := fin_of h1 h3 ds vs 0 hdv (slot σ' ag)
      have sub' : ∀ b, Oa b → Oe b := fun b z => let ⟨i, _, z⟩ := sub b z; (h4 b).mpr ⟨i, z⟩
      exact hk v H' F' Ox Oa (s'.sub sub') rv fr
    · cases hrun
  · rw [if_neg c] at hrun
    cases hrun
theorem defs_ok {P : Program} {w : World} {K : PySem.W.Frag} {mg : Str → Option Value} {base : Heap} {g : GI} {fs : List FnD} (W : WorldOk P w K mg g fs) : ∀ (k i : Nat) (x : Str), g.fns[i]? = some x → FnAt P w K mg base g (callN fs k) k i x := by
  intro k
  induction k with
  | zero =>
    intro i x hx
    obtain ⟨a, fd, qual, args, body, scope, ps, N, f, hf, F, hm, hb, S, hp, hbA, hbK⟩ := W.defs i x hx
    refine ⟨a, fd, ps, hm, F.kp, hb, ⟨fun vs H Q E h => h.1, fun A outer s H args us vs Q E hr he hb hv ⟨_, ds, F, O, r, fin, _, _, h, _⟩ => ?_⟩, fun ds r h => ?_, hp, hbA, hbK⟩
    · cases h
    · cases h
  | succ k ih =>
    intro i x hx
    obtain ⟨a, fd, qual, args, body, scope, ps, N, f, hf, F, hm, hb, S, hp, hbA, hbK⟩ := W.defs i x hx
    obtain ⟨k1, k2⟩ := def_step W ih hf F S
    exact ⟨a, fd, ps, hm, F.kp, hb, k1, k2, hp, hbA, hbK⟩
end Mp

end
section
set_option Elab.async false
set_option linter.all false
/-! Mp19: from the row's syntax to the small language. -/
namespace Mp
open PySem PySem.Spec PyProof.Rows L2

def ixOf : List Str → Str → Option Nat
  | [], _ => none
  | y :: r, x => if y = x then some 0 else (ixOf r x).map (· + 1)
theorem ixOf_get {x : Str} : ∀ {l : List Str} {i : Nat}, ixOf l x = some i → l[i]? = some x
  | [], _, h => by cases h
  | y :: r, i, h => by
    unfold ixOf at h
    split at h
    · rename_i e
      cases h
      rw [e]
      rfl
    · obtain ⟨j, h1, h2⟩ := Option.map_eq_some_iff.mp h
      subst h2
      exact ixOf_get (l := r) h1
def plainE : Expr → Bool
  | .Starred _ _ => false
  | _ => true
theorem star_plain {a : Expr} {es : List Expr} (h : plainE a = true) (env : PySem.Env) : starEach (a :: es) env = (false, eval a env) :: starEach es env := by
  cases a <;> first | rfl | (cases h)
theorem star_any {es : List Expr} (h : es.all plainE = true) (pos : Pos) (env : PySem.Env) : (backTo pos (starEach es env)).any (·.1) = false := by
  induction es with
  | nil => rfl
  | cons a es ih =>
    obtain ⟨h1, h2⟩ := Bool.and_eq_true_iff.mp (by rw [List.all_cons] at h; exact h)
    rw [star_plain h1]
    have := ih h2
    unfold backTo at this ⊢
    rw [List.map_cons, List.any_cons, this]
    rfl
theorem star_all {es : List Expr} (h : es.all plainE = true) (pos : Pos) (env : PySem.Env) : (backTo pos (starEach es env)).all (fun x => !x.1) = true := by
  induction es with
  | nil => rfl
  | cons a es ih =>
    obtain ⟨h1, h2⟩ := Bool.and_eq_true_iff.mp (by rw [List.all_cons] at h; exact h)
    rw [star_plain h1]
    have := ih h2
    unfold backTo at this ⊢
    rw [List.map_cons, List.all_cons, this]
    rfl
theorem assign_plain {a : Expr} {es : List Expr} (h : plainE a = true) (env : PySem.Env) : assignEach (a :: es) env = (false, assign a env) :: assignEach es env := by
  cases a <;> first | rfl | (cases h)
/-- expressions in a row -/
def trl (f : Expr → ME) : List Expr → MEs
  | [] => .nil
  | e :: r => .cons (f e) (trl f r)
def isNo : ME → Bool
  | .no => true
  | _ => false
def noDbg (x : Str) : Bool := (decide (x = "__debug__") || decide (x = "__classdict__") || decide (x = "__name__"))
theorem noDbg_of {x : Str} (h : noDbg x = false) : (x == ("__debug__" : Str)) = false ∧ (x == ("__classdict__" : Str)) = false ∧ x ≠ "__name__" := by
  unfold noDbg at h
  simp only [Bool.or_eq_false_iff, decide_eq_false_iff_not] at h
  exact ⟨beq_eq_false_iff_ne.mpr h.1.1, beq_eq_false_iff_ne.mpr h.1.2, h.2⟩
/-- a class's name -/
def tyOf (x : Str) : Option String :=
  if x = "int" then some "int" else if x = "bool" then some "bool" else if x = "str" then some "str" else if x = "list" then some "list" else if x = "tuple" then some "tuple" else if x = "dict" then some "dict" else none
def biOf (x : Str) : Option BI :=
  if x = "isinstance" then some .isi else if x = "len" then some .len else if x = "all" then some .all else if x = "str" then some .str else if x = "int" then some .int else
  if x = "max" then some .max else if x = "min" then some .min else if x = "abs" then some .abs else if x = "divmod" then some .divmod else if x = "ord" then some .ord else
  if x = "tuple" then some .tuple else if x = "list" then some .list else none
def trName (g : GI) (N : List Str) (sc : Scope) (x : Str) : ME :=
  if noDbg x then .bad else
  match sc.names.lookup x with
  | some .local => (match ixOf N x with | some i => .var i | none => .bad)
  | some .cell => (match ixOf N x with | some i => .var i | none => .bad)
  | some .free => (match ixOf N x with | some i => .var i | none => .bad)
  | some .globalImplicit => (match g.con x with
    | some d => .k d
    | none => if x ∈ g.free then (match tyOf x with | some T => .k (.ty T) | none => .bad) else .bad)
  | _ => .bad
def trConst : Const → ME
  | .int i => .k (.int i)
  | .bool b => .k (.bl b)
  | .none => .k .non
  | .str x => .k (.str x.cps.toList)
  | _ => .bad
def bopOf : Operator → Option BOp
  | .Add => some .add
  | .Sub => some .sub
  | .Mult => some .mul
  | .FloorDiv => some .fdiv
  | .Mod => some .mod
  | .Pow => some .pow
  | _ => none
def copOf : CmpOp → COp
  | .Eq => .eq
  | .NotEq => .ne
  | .Lt => .lt
  | .LtE => .le
  | .Gt => .gt
  | .GtE => .ge
  | .Is => .is
  | .IsNot => .isNot
  | .In => .isin
  | .NotIn => .notin
def trBin (o : Operator) (a b : ME) : ME := match bopOf o with
  | some p => .bin p a b
  | none => .bad
def trCmp (ops : List CmpOp) (es : List Expr) (a : ME) (f : Expr → ME) : ME := match ops, es with
  | [o], [b] => if behindInMarks o b then .bad else .cmp (copOf o) a (f b)
  | [o, p], [b, c] => if behindInMarks p c then .bad else .chain (copOf o) (copOf p) a (f b) (f c)
  | _, _ => .bad
def isSlice : Expr → Bool
  | .Slice .. => true
  | _ => false
def trOpt (f : Expr → ME) : Option Expr → ME
  | none => .no
  | some e => if isNo (f e) then .bad else f e
def trSub (f : Expr → ME) (a b : Expr) : ME := match b with
  | .Slice lo hi none _ => .slice (f a) (trOpt f lo) (trOpt f hi)
  | b => if isSlice b then .bad else .ix (f a) (f b)
/-- no call of a bare name -/
def plainBase : Expr → Bool
  | .Call .. => false
  | _ => true
def varOf : ME → Option Nat
  | .var i => some i
  | _ => none
def trMeth (f : Expr → ME) (a : Expr) (nm : Str) (apos : Pos) (es : List Expr) (pos : Pos) : ME :=
  if plainBase a && es.all plainE && (apos.endLine == pos.line) && decide (es.length < 20) then
    if nm = "find" then (match es with | [] => .bad | _ => .meth .find (f a) (trl f es))
    else if nm = "split" then (match es with | [] => .bad | _ => .meth .split (f a) (trl f es))
    else if nm = "join" then (match es with | [] => .bad | _ => .meth .join (f a) (trl f es))
    else if nm = "append" then (match es, varOf (f a) with | _ :: _, some i => .meth .append (.var i) (trl f es) | _, _ => .bad)
    else if nm = "extend" then (match es, varOf (f a) with | _ :: _, some i => .meth .extend (.var i) (trl f es) | _, _ => .bad)
    else if nm = "pop" then (match es, varOf (f a) with | [], some i => .meth .pop (.var i) .nil | _, _ => .bad)
    else .bad
  else .bad
def trFn (g : GI) (sc : Scope) (f : Expr → ME) (x : Str) (es : List Expr) : ME :=
  if noDbg x || !(es.all plainE) || !(sc.names.lookup x == some .globalImplicit) then .bad else
  match ixOf g.fns x with
  | some i => .call i (trl f es)
  | none => if x ∈ g.free then (match es, biOf x with
    | _ :: _, some b => .bi b (trl f es)
    | _, _ => .bad) else .bad
def trKw (g : GI) (sc : Scope) (f : Expr → ME) (x y : Str) (v : Expr) : ME :=
  if noDbg x || !(sc.names.lookup x == some .globalImplicit) then .bad else
  match ixOf g.fns x with
  | some i => if g.pars[i]? = some [y] then .call i (.cons (f v) .nil) else .bad
  | none => .bad
def trCall (g : GI) (sc : Scope) (f : Expr → ME) (fe : Expr) (es : List Expr) (kws : List Keyword) (pos : Pos) : ME := match kws with
  | [] => (match fe with
    | .Name x _ => trFn g sc f x es
    | .Attribute a nm apos => trMeth f a nm apos es pos
    | _ => .bad)
  | [⟨some y, v, _⟩] => (match fe, es with
    | .Name x _, [] => trKw g sc f x y v
    | _, _ => .bad)
  | _ => .bad
def trBool (o : PySem.BoolOp) (f : Expr → ME) (es : List Expr) (pos : Pos) : ME := match es with
  | [] => .bad
  | [a] => f a
  | a :: r => (match o with
    | .And => .and (f a) (f (.BoolOp .And r pos))
    | .Or => .or (f a) (f (.BoolOp .Or r pos)))
def notSet : Expr → Bool
  | .Set .. => false
  | _ => true
/-- targets -/
def trT (f : Scope → Expr → ME) (N : List Str) (sc : Scope) : Nat → Expr → MT
  | 0, _ => .bad
  | n + 1, .Name x _ => (match sc.names.lookup x with
    | some .local => (match ixOf N x with | some i => .nm i | none => .bad)
    | some .cell => (match ixOf N x with | some i => .nm i | none => .bad)
    | _ => .bad)
  | n + 1, .Tuple es _ _ => if es.all plainE then .tup (trTs (trT f N sc n) es) else .bad
  | n + 1, .Subscript o i _ => if isSlice i then .bad else .sub (f sc o) (f sc i)
  | _ + 1, _ => .bad
where trTs (t : Expr → MT) : List Expr → MTs
  | [] => .nil
  | e :: r => .cons (t e) (trTs t r)
def isTupE : Expr → Bool
  | .Tuple .. => true
  | _ => false
def trI (g : GI) (sc : Scope) (f : Expr → ME) (tg it : Expr) : MI2 := match it with
  | .Call (.Name x _) [a] [] _ =>
    if x = "range" then (if x ∈ g.free ∧ sc.names.lookup x = some .globalImplicit ∧ plainE a = true then .range1 (f a) else .seq .bad)
    else if x = "enumerate" then (if x ∈ g.free ∧ sc.names.lookup x = some .globalImplicit ∧ plainE a = true ∧ isTupE tg = true then .enum (f a) else .seq .bad)
    else .seq (f it)
  | .Call (.Name x _) [a, b] [] _ =>
    if x = "range" then (if x ∈ g.free ∧ sc.names.lookup x = some .globalImplicit ∧ plainE a = true ∧ plainE b = true then .range2 (f a) (f b) else .seq .bad)
    else .seq (f it)
  | it => .seq (f it)
def ownOf (N : List Str) (is : List Nat) : List (Str × Nat) := is.map fun i => ((N[i]?).getD "", i)
def trLc (g : GI) (N : List Str) (f : Scope → Expr → ME) (sc : Scope) (elt : Expr) (gs : List Comprehension) (scope : Scope) : ME := match gs with
  | [⟨tg, it, ifs, k⟩] =>
    if k = 0 ∧ notSet it = true ∧ blkC N sc scope (ownOf N (tsl (trT f N scope 4 tg))) = true then
      (match ifs with
      | [] => .lc (trT f N scope 4 tg) (trI g sc (f sc) tg it) .nil (f scope elt)
      | [c] => .lc (trT f N scope 4 tg) (trI g sc (f sc) tg it) (.cons (f scope c) .nil) (f scope elt)
      | _ => .bad)
    else .bad
  | _ => .bad
def tr (g : GI) (N : List Str) : Nat → Scope → Expr → ME
  | 0, _, _ => .bad
  | n + 1, sc, .Name x _ => trName g N sc x
  | n + 1, sc, .Constant c _ _ => trConst c
  | n + 1, sc, .BinOp a o b _ => trBin o (tr g N n sc a) (tr g N n sc b)
  | n + 1, sc, .UnaryOp .USub a _ => .neg (tr g N n sc a)
  | n + 1, sc, .UnaryOp .Not a _ => .not (tr g N n sc a)
  | n + 1, sc, .Compare a ops es _ => trCmp ops es (tr g N n sc a) (tr g N n sc)
  | n + 1, sc, .BoolOp o es p => trBool o (tr g N n sc) es p
  | n + 1, sc, .IfExp c a b _ => .ite (tr g N n sc c) (tr g N n sc a) (tr g N n sc b)
  | n + 1, sc, .Tuple es _ _ => if es.all plainE then .tup (trl (tr g N n sc) es) else .bad
  | n + 1, sc, .List es _ => if es.all plainE then .lst (trl (tr g N n sc) es) else .bad
  | n + 1, sc, .Subscript a b _ => trSub (tr g N n sc) a b
  | n + 1, sc, .Call fe es kws p => trCall g sc (tr g N n sc) fe es kws p
  | n + 1, sc, .ListComp elt gs scope _ => trLc g N (tr g N n) sc elt gs scope
  | _ + 1, _, _ => .bad
end Mp

end
section
set_option Elab.async false
set_option linter.all false
/-! Mp20: what the translation gives is sound: expressions. -/
namespace Mp
open PySem PySem.Spec PyProof.Rows L2

section
variable {g : GI} {N : List Str} {sc scope : Scope} {C : Ctx} {X : Cx} {a b c e : Expr} {pos p0 apos : Pos} {es : List Expr} {f : Expr → ME}
theorem CtxOk.units65 (c : CtxOk g N sc C X) : X.A.units + 65 < cLine := by
  obtain ⟨k, r, _⟩ := c.calls
  have := r.un
  omega
theorem bop_ok {o : Operator} {p : BOp} (h : bopOf o = some p) (X : Cx) : ∃ r, OpR X (binaryOp o) r ∧ ValSim2 X.K X.w r (binop p) := by
  cases o <;> cases h
  · exact add_ok
  · exact sub_ok
  · exact mul_ok
  · exact mod_ok
  · exact pow_ok
  · exact fdiv_ok
theorem cop_ok (o : CmpOp) (c : CtxOk g N sc C X) : ∃ r, OpR X (compareOp o) r ∧ ValSim2 X.K X.w r (fun x y => (cmpop (copOf o) x y).map .bl) := by
  cases o
  · exact eq_ok c.units65
  · exact ne_ok c.units65
  · exact lt_ok
  · exact le_ok
  · exact gt_ok
  · exact ge_ok
  · exact is_ok
  · exact isNot_ok
  · exact in_ok c.units65
  · exact notIn_ok c.units65
theorem tyOf_ok {x : Str} {T : String} (h : tyOf x = some T) : bootBuiltins x = some (.type T) := by
  unfold tyOf at h
  split at h
  · rename_i e; cases h; rw [e]; decide +kernel
  split at h
  · rename_i e; cases h; rw [e]; decide +kernel
  split at h
  · rename_i e; cases h; rw [e]; decide +kernel
  split at h
  · rename_i e; cases h; rw [e]; decide +kernel
  split at h
  · rename_i e; cases h; rw [e]; decide +kernel
  split at h
  · rename_i e; cases h; rw [e]; decide +kernel
  cases h
theorem trName_ok {x : Str} : J g N sc C (.Name x pos) (trName g N sc x) := by
  unfold trName
  split
  · exact j_bad
  · rename_i hd
    obtain ⟨d1, d2, d3⟩ := noDbg_of (by simpa using hd)
    split
    · rename_i h
      split
      · rename_i i hi
        exact j_var (ixOf_get hi) (.inl h) d1 d2
      · exact j_bad
    · rename_i h
      split
      · rename_i i hi
        exact j_var (ixOf_get hi) (.inr (.inl h)) d1 d2
      · exact j_bad
    · rename_i h
      split
      · rename_i i hi
        exact j_var (ixOf_get hi) (.inr (.inr h)) d1 d2
      · exact j_bad
    · rename_i h
      split
      · rename_i d hc
        exact j_con hc h d1
      · split
        · rename_i hf
          split
          · rename_i T ht
            exact j_ty hf (tyOf_ok ht) d3 h d1
          · exact j_bad
        · exact j_bad
    · exact j_bad
theorem trConst_ok {k : Const} {n : Nat} : J g N sc C (.Constant k n pos) (trConst k) := by
  cases k
  · exact j_none
  · exact j_bool
  · exact j_int
  · exact j_bad
  · exact j_bad
  · exact j_str
  · exact j_bad
  · exact j_bad
theorem trl_ja (h : ∀ e, J g N sc C e (f e)) : ∀ {es : List Expr}, es.all plainE = true → JA g N sc C es (trl f es)
  | [], _ => ja_nil
  | a :: es, hp => by
    obtain ⟨h1, h2⟩ := Bool.and_eq_true_iff.mp (by rw [List.all_cons] at hp; exact hp)
    exact ja_cons (fun env => star_plain h1 env) (h a) (trl_ja h h2)
theorem trl_jv (h : ∀ e, J g N sc C e (f e)) : ∀ {es : List Expr}, es.all plainE = true → JV g N sc C es (trl f es)
  | [], _ => jv_nil
  | a :: es, hp => by
    obtain ⟨h1, h2⟩ := Bool.and_eq_true_iff.mp (by rw [List.all_cons] at hp; exact hp)
    exact jv_cons (fun env => star_plain h1 env) (h a) (trl_jv h h2)
theorem cons_plain (hp : (a :: es).all plainE = true) : plainE a = true ∧ es.all plainE = true := Bool.and_eq_true_iff.mp (by rw [List.all_cons] at hp; exact hp)
theorem trOpt_ok {o : Option Expr} (h : ∀ e, J g N sc C e (f e)) : JP g N sc C o (trOpt f o) := by
  cases o with
  | none => exact jp_none
  | some e =>
    show JP g N sc C (some e) (if isNo (f e) = true then .bad else f e)
    by_cases hn : isNo (f e) = true
    · rw [if_pos hn]
      exact jp_some (fun z => by cases z) j_bad
    · rw [if_neg hn]
      exact jp_some (fun z => hn (by rw [z]; rfl)) (h e)
theorem trSub_ok (h : ∀ e, J g N sc C e (f e)) : J g N sc C (.Subscript a b pos) (trSub f a b) := by
  unfold trSub
  split
  · exact j_slice (fun X c => slice_ok) (h a) (trOpt_ok h) (trOpt_ok h)
  · rename_i hb
    split
    · exact j_bad
    · rename_i hs
      refine j_ix (fun X c => ix_ok) ?_ (h a) (h b)
      intro o i
      cases b <;> first | rfl | exact absurd rfl hs
theorem base_plain (h : plainBase a = true) (nm : Str) (env : PySem.Env) : attributeBase a nm env (eval a env) = eval a env := by
  cases a <;> first | rfl | (cases h)
theorem few_ok {n : Nat} (hp : (b :: es).all plainE = true) (hl : (b :: es).length < 20) (env : PySem.Env) : ((backTo pos (starEach (b :: es) env)).all (fun x => !x.1) && (backToKw pos (keywordEach [] env)).all (fun x => x.1.isSome) && decide ((b :: es).length + ([] : List Keyword).length + (if ([] : List Keyword).isEmpty then 0 else 1) < 30)) = true := by
  rw [star_all hp]
  have e : decide ((b :: es).length + ([] : List Keyword).length + (if ([] : List Keyword).isEmpty then 0 else 1) < 30) = true := decide_eq_true (by
    show (b :: es).length + 0 + 0 < 30
    omega)
  rw [e]
  rfl
theorem trMeth_ok {nm : Str} (h : ∀ e, J g N sc C e (f e)) : J g N sc C (.Call (.Attribute a nm apos) es [] pos) (trMeth f a nm apos es pos) := by
  unfold trMeth
  split
  · rename_i hc
    simp only [Bool.and_eq_true, decide_eq_true_eq] at hc
    obtain ⟨⟨⟨hb, hp⟩, hl⟩, hn⟩ := hc
    split
    · rename_i e; subst e
      cases es with
      | nil => exact j_bad
      | cons b es => exact j_meth rfl F.slot_str_find F.type_str_find (fun X => ⟨_, mt_find3, find_sim⟩) (base_plain hb _) (few_ok (n := 0) hp hn) hl (star_plain (cons_plain hp).1) (star_any (cons_plain hp).2 _) (h a) (trl_ja h hp)
    split
    · rename_i e; subst e
      cases es with
      | nil => exact j_bad
      | cons b es => exact j_meth rfl F.slot_str_split F.type_str_split (fun X => ⟨_, mt_split, split_sim⟩) (base_plain hb _) (few_ok (n := 0) hp hn) hl (star_plain (cons_plain hp).1) (star_any (cons_plain hp).2 _) (h a) (trl_ja h hp)
    split
    · rename_i e; subst e
      cases es with
      | nil => exact j_bad
      | cons b es => exact j_meth rfl F.slot_str_join F.type_str_join (fun X => ⟨_, mt_join, join_sim⟩) (base_plain hb _) (few_ok (n := 0) hp hn) hl (star_plain (cons_plain hp).1) (star_any (cons_plain hp).2 _) (h a) (trl_ja h hp)
    have hv : ∀ i, varOf (f a) = some i → J g N sc C a (.var i) := fun i hi => by
      have q := h a
      cases hf : f a with
      | var j =>
        rw [hf] at hi q
        cases hi
        exact q
      | _ => rw [hf] at hi; cases hi
    split
    · rename_i e; subst e
      split
      · rename_i i hi
        exact j_mut rfl F.slot_list_append F.type_list_append (fun X => ⟨_, mt_append, append_sim⟩) (base_plain hb _) (few_ok (n := 0) hp hn) hl (star_plain (cons_plain hp).1) (star_any (cons_plain hp).2 _) (hv i hi) (trl_jv h hp)
      · exact j_bad
    split
    · rename_i e; subst e
      split
      · rename_i i hi
        exact j_mut rfl F.slot_list_extend F.type_list_extend (fun X => ⟨_, MtM.or mt_extend mt_extendT, extend_sim⟩) (base_plain hb _) (few_ok (n := 0) hp hn) hl (star_plain (cons_plain hp).1) (star_any (cons_plain hp).2 _) (hv i hi) (trl_jv h hp)
      · exact j_bad
    split
    · rename_i e; subst e
      split
      · rename_i i hi
        exact j_mut0 rfl F.slot_list_pop F.type_list_pop (fun X => ⟨_, mt_pop, pop_sim⟩) (base_plain hb _) hl (hv i hi)
      · exact j_bad
    · exact j_bad
  · exact j_bad
theorem bi_ok {x : Str} {p : BI} (hb : biOf x = some p) (hx : x ∈ g.free) (hn : x ≠ "__name__") (hs : sc.names.lookup x = some .globalImplicit) (hd : (x == ("__debug__" : Str)) = false) (hp : (a :: es).all plainE = true) (h : ∀ e, J g N sc C e (f e)) : J g N sc C (.Call (.Name x p0) (a :: es) [] pos) (.bi p (trl f (a :: es))) := by
  have h1 : ∀ env : PySem.Env, starEach (a :: es) env = (false, eval a env) :: starEach es env := star_plain (cons_plain hp).1
  have h2 : ∀ env : PySem.Env, (backTo pos (starEach es env)).any (·.1) = false := star_any (cons_plain hp).2 _
  have h3 := trl_ja h hp
  unfold biOf at hb
  by_cases e : x = ("isinstance" : Str)
  · rw [if_pos e] at hb
    subst e
    cases hb
    exact j_bi (fun X c => isi_ok) hx boot_isinstance hn hs hd h1 h2 h3
  rw [if_neg e] at hb
  by_cases e : x = ("len" : Str)
  · rw [if_pos e] at hb
    subst e
    cases hb
    exact j_bi (fun X c => len_ok) hx boot_len hn hs hd h1 h2 h3
  rw [if_neg e] at hb
  by_cases e : x = ("all" : Str)
  · rw [if_pos e] at hb
    subst e
    cases hb
    exact j_bi (fun X c => Mp.all_ok c.calm) hx boot_all hn hs hd h1 h2 h3
  rw [if_neg e] at hb
  by_cases e : x = ("str" : Str)
  · rw [if_pos e] at hb
    subst e
    cases hb
    exact j_bt (fun X c => str_ok) hx boot_str hn hs hd h1 h2 h3
  rw [if_neg e] at hb
  by_cases e : x = ("int" : Str)
  · rw [if_pos e] at hb
    subst e
    cases hb
    exact j_bt (fun X c => int_ok) hx boot_int hn hs hd h1 h2 h3
  rw [if_neg e] at hb
  by_cases e : x = ("max" : Str)
  · rw [if_pos e] at hb
    subst e
    cases hb
    exact j_bi (fun X c => Mp.max_ok c.calm) hx boot_max hn hs hd h1 h2 h3
  rw [if_neg e] at hb
  by_cases e : x = ("min" : Str)
  · rw [if_pos e] at hb
    subst e
    cases hb
    exact j_bi (fun X c => Mp.min_ok c.calm) hx boot_min hn hs hd h1 h2 h3
  rw [if_neg e] at hb
  by_cases e : x = ("abs" : Str)
  · rw [if_pos e] at hb
    subst e
    cases hb
    exact j_bi (fun X c => abs_ok) hx boot_abs hn hs hd h1 h2 h3
  rw [if_neg e] at hb
  by_cases e : x = ("divmod" : Str)
  · rw [if_pos e] at hb
    subst e
    cases hb
    exact j_bi (fun X c => divmod_ok) hx boot_divmod hn hs hd h1 h2 h3
  rw [if_neg e] at hb
  by_cases e : x = ("ord" : Str)
  · rw [if_pos e] at hb
    subst e
    cases hb
    exact j_bi (fun X c => ord_ok) hx boot_ord hn hs hd h1 h2 h3
  rw [if_neg e] at hb
  by_cases e : x = ("tuple" : Str)
  · rw [if_pos e] at hb
    subst e
    cases hb
    exact j_bt (fun X c => tuple_ok) hx boot_tuple hn hs hd h1 h2 h3
  rw [if_neg e] at hb
  by_cases e : x = ("list" : Str)
  · rw [if_pos e] at hb
    subst e
    cases hb
    exact j_bt (fun X c => list_ok) hx boot_list hn hs hd h1 h2 h3
  rw [if_neg e] at hb
  cases hb
theorem trFn_ok {x : Str} (h : ∀ e, J g N sc C e (f e)) : J g N sc C (.Call (.Name x p0) es [] pos) (trFn g sc f x es) := by
  unfold trFn
  split
  · exact j_bad
  · rename_i hc
    simp only [Bool.or_eq_true, Bool.not_eq_true', not_or, Bool.not_eq_false, Bool.not_eq_true] at hc
    obtain ⟨⟨hd, hp⟩, hs⟩ := hc
    obtain ⟨d1, d2, d3⟩ := noDbg_of hd
    have hs' : sc.names.lookup x = some .globalImplicit := by simpa using hs
    split
    · rename_i i hi
      cases es with
      | nil => exact j_call0 (ixOf_get hi) hs' d1
      | cons a es => exact j_call (ixOf_get hi) hs' d1 (star_plain (cons_plain hp).1) (star_any (cons_plain hp).2 _) (trl_ja h hp)
    · split
      · rename_i hf
        split
        · rename_i a es p hb
          exact bi_ok hb hf d3 hs' d1 hp h
        · exact j_bad
      · exact j_bad
theorem trKw_ok {x y : Str} {v : Expr} {kpos : Pos} (h : ∀ e, J g N sc C e (f e)) : J g N sc C (.Call (.Name x p0) [] [⟨some y, v, kpos⟩] pos) (trKw g sc f x y v) := by
  unfold trKw
  split
  · exact j_bad
  · rename_i hc
    simp only [Bool.or_eq_true, Bool.not_eq_true', not_or, Bool.not_eq_false, Bool.not_eq_true] at hc
    obtain ⟨hd, hs⟩ := hc
    obtain ⟨d1, d2, d3⟩ := noDbg_of hd
    have hs' : sc.names.lookup x = some .globalImplicit := by simpa using hs
    split
    · rename_i i hi
      split
      · rename_i hp
        exact j_callk (ixOf_get hi) hp hs' d1 (h v)
      · exact j_bad
    · exact j_bad
theorem trCall_ok {fe : Expr} {kws : List Keyword} (h : ∀ e, J g N sc C e (f e)) : J g N sc C (.Call fe es kws pos) (trCall g sc f fe es kws pos) := by
  unfold trCall
  split
  · split
    · exact trFn_ok h
    · exact trMeth_ok h
    · exact j_bad
  · split
    · exact trKw_ok h
    · exact j_bad
  · exact j_bad
theorem trCmp_ok {ops : List CmpOp} (h : ∀ e, J g N sc C e (f e)) {ma : ME} (ha : J g N sc C a ma) : J g N sc C (.Compare a ops es pos) (trCmp ops es ma f) ∧ JT g N sc C (.Compare a ops es pos) (trCmp ops es ma f) := by
  have bad : ∀ e, J g N sc C e .bad ∧ JT g N sc C e .bad := fun e => ⟨j_bad, fun X c => PT.absurd fun σ H Q => TG.absurd fun env x h => by simp [tst, op] at h⟩
  unfold trCmp
  split
  · rename_i o b
    split
    · exact bad _
    · rename_i hm
      have hm' : behindInMarks o b = false := by simpa using hm
      exact ⟨j_cmp (fun X c => cop_ok o c) hm' ha (h b), jt_cmp (fun X c => cop_ok o c) hm' ha (h b)⟩
  · rename_i o p b c
    split
    · exact bad _
    · rename_i hm
      have hm' : lastMarks [o, p] [b, c] = false := by
        show behindInMarks p c = false
        simpa using hm
      exact ⟨j_chain (fun X c => cop_ok o c) (fun X c => cop_ok p c) hm' ha (h b) (h c), jt_chain (fun X c => cop_ok o c) (fun X c => cop_ok p c) hm' ha (h b) (h c)⟩
  · exact bad _
/-! targets and walks -/
theorem trT_ok {ff : Scope → Expr → ME} (h : ∀ e, J g N sc C e (ff sc e)) : ∀ (n : Nat) (tg : Expr), JG g N sc C tg (trT ff N sc n tg) := by
  intro n
  induction n with
  | zero => intro tg; unfold trT; exact jg_bad
  | succ n ih =>
    have ihs : ∀ es : List Expr, es.all plainE = true → JGs g N sc C es (trT.trTs (trT ff N sc n) es) := by
      intro es
      induction es with
      | nil => intro _; exact jgs_nil
      | cons a es ihe =>
        intro hp
        exact jgs_cons (assign_plain (cons_plain hp).1) (ih a) (ihe (cons_plain hp).2)
    have hlen : ∀ (es : List Expr), es.all plainE = true → (∀ env : PySem.Env, (assignEach es env).length = (trT.trTs (trT ff N sc n) es).len) ∧ ∀ env : PySem.Env, (assignEach es env).findIdx? (·.1) = none := by
      intro es
      induction es with
      | nil => intro _; exact ⟨fun _ => rfl, fun _ => rfl⟩
      | cons a es ihe =>
        intro hp
        obtain ⟨h1, h2⟩ := ihe (cons_plain hp).2
        refine ⟨fun env => ?_, fun env => ?_⟩
        · rw [assign_plain (cons_plain hp).1, List.length_cons, h1 env]
          rfl
        · rw [assign_plain (cons_plain hp).1, List.findIdx?_cons, h2 env]
          rfl
    intro tg
    cases tg with
    | Name x p =>
      unfold trT
      split
      · rename_i hl
        split
        · rename_i i hi
          exact jg_name (ixOf_get hi) (.inl hl)
        · exact jg_bad
      · rename_i hl
        split
        · rename_i i hi
          exact jg_name (ixOf_get hi) (.inr hl)
        · exact jg_bad
      · exact jg_bad
    | Tuple es k p =>
      unfold trT
      split
      · rename_i hp
        exact jg_tup (hlen es hp).1 (hlen es hp).2 (ihs es hp)
      · exact jg_bad
    | Subscript o i p =>
      unfold trT
      split
      · exact jg_bad
      · rename_i hs
        refine jg_sub (fun env v => ?_) (h o) (h i)
        cases i <;> first | rfl | exact absurd rfl hs
    | _ => unfold trT; exact jg_bad
theorem trI_ok {tg it : Expr} (h : ∀ e, J g N sc C e (f e)) : JI g N sc C tg it (trI g sc f tg it) := by
  unfold trI
  split
  · rename_i x p a q
    split
    · rename_i e; subst e
      split
      · rename_i hc
        exact ji_range1 hc.1 hc.2.1 (star_plain hc.2.2) (h a)
      · exact ji_seq j_bad
    · split
      · rename_i e; subst e
        split
        · rename_i hc
          cases tg <;> first | exact absurd hc.2.2.2 Bool.false_ne_true | exact ji_enum hc.1 hc.2.1 (star_plain hc.2.2.1) (h a)
        · exact ji_seq j_bad
      · exact ji_seq (h _)
  · rename_i x p a b q
    split
    · rename_i e; subst e
      split
      · rename_i hc
        exact ji_range2 hc.1 hc.2.1 (fun env => by rw [star_plain hc.2.2.1, star_plain hc.2.2.2]; rfl) (star_plain hc.2.2.2) (h a) (h b)
      · exact ji_seq j_bad
    · exact ji_seq (h _)
  · exact ji_seq (h _)
theorem notSet_ok {it : Expr} (h : notSet it = true) (env : PySem.Env) (x : Value) : foldedSetIterable it env x = pure x := by
  cases it <;> first | rfl | (cases h)
theorem ownOf_snd {is : List Nat} : (ownOf N is).map (·.2) = is := by
  unfold ownOf
  rw [List.map_map]
  show is.map (fun i => i) = is
  rw [List.map_id']
theorem trLc_ok {ff : Scope → Expr → ME} {elt : Expr} {gs : List Comprehension} (h : ∀ sc e, J g N sc C e (ff sc e)) (ht : ∀ sc e, JT g N sc C e (ff sc e)) : J g N sc C (.ListComp elt gs scope pos) (trLc g N ff sc elt gs scope) := by
  unfold trLc
  split
  · rename_i tg it ifs k
    split
    · rename_i hc
      obtain ⟨rfl, hn, hb⟩ := hc
      split
      · exact j_lc hb ownOf_snd (notSet_ok hn) (trI_ok (h sc)) (trT_ok (h scope) 4 tg) jcs_nil (h scope elt)
      · rename_i c
        exact j_lc hb ownOf_snd (notSet_ok hn) (trI_ok (h sc)) (trT_ok (h scope) 4 tg) (jcs_one (ht scope c)) (h scope elt)
      · exact j_bad
    · exact j_bad
  · exact j_bad
def isBool : Expr → Bool
  | .BoolOp .. => true
  | _ => false
theorem jt_bad : JT g N sc C a .bad := fun X c => PT.absurd fun σ H Q => TG.absurd fun env x h => by simp [tst, op] at h
theorem jw_bad : JW g N sc C a .bad := fun X c => ⟨fun wh pins s σ H Q I ⟨env, F, O, x, env', _, _, h, _⟩ => by simp [tst, op] at h⟩
theorem trBool_ok {o : PySem.BoolOp} (h : ∀ e, J g N sc C e (f e)) (ht : ∀ e, JT g N sc C e (f e)) (hw : ∀ e, isBool e = true → JW g N sc C e (f e)) : J g N sc C (.BoolOp o es pos) (trBool o f es pos) ∧ JW g N sc C (.BoolOp o es pos) (trBool o f es pos) := by
  cases es with
  | nil => exact ⟨j_bad, jw_bad⟩
  | cons a r =>
    cases r with
    | nil =>
      refine ⟨j_one (h a), ?_⟩
      cases o with
      | And => exact jw_one_and (ht a)
      | Or => exact jw_one_or (ht a)
    | cons b r =>
      cases o with
      | And => exact ⟨j_and (h a) (h _), jw_and (ht a) (hw _ rfl)⟩
      | Or => exact ⟨j_or (h a) (h _), jw_or (ht a) (hw _ rfl)⟩
theorem jt_ite {mc ma mb : ME} (hc : JT g N sc C c mc) (ha : JT g N sc C a ma) (hb : JT g N sc C b mb) : JT g N sc C (.IfExp c a b pos) (.ite mc ma mb) := fun X cx => by
  refine ⟨fun pins s σ H Q I hq => ?_⟩
  obtain ⟨env, F, O, z, env', er, gd, e, q⟩ := hq
  simp only [tst, op, Option.bind_eq_bind, Option.bind_eq_some_iff, Prod.exists] at e
  obtain ⟨p0, e0, ⟨p, e1, ea, x, ex, t, et, e⟩, x0, ex0, t0, et0, ee⟩ := e
  cases ee
  have e2 : isTrue (.IfExp c a b pos) X.env (eval (.IfExp c a b pos) X.env) = (do if ← isTrue c X.env (eval c X.env) then isTrue a X.env (eval a X.env) else isTrue b X.env (eval b X.env)) := rfl
  rw [e2]
  have hc' : TTst X.K X.w C mc σ H (fun d H1 => if d = true then TTst X.K X.w C ma σ H1 Q else TTst X.K X.w C mb σ H1 Q) := by
    refine ⟨env, F, O, t, e1, er, gd, by simp [tst, ea, ex, et], fun y H1 F1 Ox1 Oe1 s1 rx er1 => ?_⟩
    obtain ⟨rfl, n⟩ := rx
    cases t with
    | true =>
      rw [if_pos rfl] at e ⊢
      exact ⟨e1, F1, Oe1, z, env', er1, s1.goodE, by simp [tst, e, ex0, et0], fun vy H2 F2 Ox2 Oe2 s2 ry er2 => q vy H2 F2 Ox2 Oe2 ((s1.step s2).drop fun b z => .inr z) ry er2⟩
    | false =>
      rw [if_neg Bool.false_ne_true] at e ⊢
      exact ⟨e1, F1, Oe1, z, env', er1, s1.goodE, by simp [tst, e, ex0, et0], fun vy H2 F2 Ox2 Oe2 s2 ry er2 => q vy H2 F2 Ox2 Oe2 ((s1.step s2).drop fun b z => .inr z) ry er2⟩
  refine wpAny_bind (thn ((hc X cx).run pins s σ H _ I hc') fun d s1 ⟨H1, I1, q1⟩ => ?_)
  cases d with
  | true => exact (ha X cx).run pins s1 σ H1 Q I1 q1
  | false => exact (hb X cx).run pins s1 σ H1 Q I1 q1
theorem jt_val' {ma : ME} (ha : J g N sc C a ma) (he : ∀ (env : PySem.Env) whole, isTrue a env whole = (do let v ← whole; standAt a.pos; holding [v] (truthy v))) : J g N sc C a ma ∧ JT g N sc C a ma := ⟨ha, jt_val ha he⟩
theorem tr_ok : ∀ (n : Nat) (sc : Scope) (e : Expr), (J g N sc C e (tr g N n sc e) ∧ JT g N sc C e (tr g N n sc e)) ∧ (isBool e = true → JW g N sc C e (tr g N n sc e)) := by
  intro n
  induction n with
  | zero => intro sc e; unfold tr; exact ⟨⟨j_bad, jt_bad⟩, fun _ => jw_bad⟩
  | succ n ih =>
    intro sc e
    have h : ∀ e, J g N sc C e (tr g N n sc e) := fun e => (ih sc e).1.1
    have ht : ∀ e, JT g N sc C e (tr g N n sc e) := fun e => (ih sc e).1.2
    have hw : ∀ e, isBool e = true → JW g N sc C e (tr g N n sc e) := fun e => (ih sc e).2
    have bad : ∀ e, J g N sc C e .bad ∧ JT g N sc C e .bad := fun e => ⟨j_bad, jt_bad⟩
    cases e with
    | BoolOp o es p =>
      unfold tr
      obtain ⟨h1, h2⟩ := trBool_ok (o := o) (es := es) (pos := p) h ht hw
      exact ⟨⟨h1, h2.t⟩, fun _ => h2⟩
    | BinOp a o b p =>
      refine ⟨?_, fun z => by cases z⟩
      unfold tr trBin
      split
      · rename_i q hq
        exact jt_val' (j_bin (fun X c => bop_ok hq X) (h a) (h b)) fun env whole => rfl
      · exact bad _
    | UnaryOp o a p =>
      refine ⟨?_, fun z => by cases z⟩
      cases o with
      | Not => unfold tr; exact ⟨j_not (h a), jt_not (ht a)⟩
      | USub => unfold tr; exact jt_val' (j_neg (h a)) fun env whole => rfl
      | _ => unfold tr; exact bad _
    | IfExp c a b p =>
      refine ⟨?_, fun z => by cases z⟩
      unfold tr
      exact ⟨j_ite (ht c) (h a) (h b), jt_ite (ht c) (ht a) (ht b)⟩
    | ListComp elt gs scope p =>
      refine ⟨?_, fun z => by cases z⟩
      unfold tr
      exact jt_val' (trLc_ok (fun sc e => (ih sc e).1.1) fun sc e => (ih sc e).1.2) fun env whole => rfl
    | Compare a ops es p =>
      refine ⟨?_, fun z => by cases z⟩
      unfold tr
      exact trCmp_ok h (h a)
    | Call fe es kws p =>
      refine ⟨?_, fun z => by cases z⟩
      unfold tr
      exact jt_val' (trCall_ok h) fun env whole => rfl
    | Constant c k p =>
      refine ⟨?_, fun z => by cases z⟩
      unfold tr
      exact jt_val' trConst_ok fun env whole => rfl
    | Name x p =>
      refine ⟨?_, fun z => by cases z⟩
      unfold tr
      exact jt_val' trName_ok fun env whole => rfl
    | Subscript a b p =>
      refine ⟨?_, fun z => by cases z⟩
      unfold tr
      exact jt_val' (trSub_ok h) fun env whole => rfl
    | List es p =>
      refine ⟨?_, fun z => by cases z⟩
      unfold tr
      split
      · rename_i hp
        exact jt_val' (j_lst (trl_jv h hp)) fun env whole => rfl
      · exact bad _
    | Tuple es k p =>
      refine ⟨?_, fun z => by cases z⟩
      unfold tr
      split
      · rename_i hp
        exact jt_val' (j_tup (trl_jv h hp)) fun env whole => rfl
      · exact bad _
    | _ => exact ⟨by unfold tr; exact bad _, fun z => by cases z⟩
end
end Mp

end
section
set_option Elab.async false
set_option linter.all false
/-! Mp21: what the translation gives is sound: statements. -/
namespace Mp
open PySem PySem.Spec PyProof.Rows L2

def isComp : Expr → Bool
  | .ListComp .. => true
  | .SetComp .. => true
  | .DictComp .. => true
  | _ => false
/-- the slot of a name that is stored to -/
def slotOf (N : List Str) (sc : Scope) (x : Str) : Option Nat := match sc.names.lookup x with
  | some .local => ixOf N x
  | some .cell => ixOf N x
  | _ => none
def isLoc (sc : Scope) (x : Str) : Bool := match sc.names.lookup x with
  | some .local => true
  | _ => false
def isFunS (sc : Scope) : Bool := match sc.kind with
  | .function => true
  | _ => false
def aopOf : Operator → Option BOp
  | .Add => some .add
  | .Sub => some .sub
  | _ => none
def par2 (sc : Scope) (x y : Str) (px py : Pos) (a b : Expr) : Bool :=
  isFunS sc && isLoc sc x && isLoc sc y && (py.line == px.line) && !(x == y) && plainE a && plainE b && !([a, b].all (foldedForSure 8)) && !([a, b].all (constantsAlone 8))
def par3 (sc : Scope) (x y z : Str) (px py pz : Pos) (a b c : Expr) : Bool :=
  isFunS sc && isLoc sc x && isLoc sc y && isLoc sc z && (py.line == px.line) && (pz.line == px.line) && !(x == y) && !(x == z) && !(y == z) && plainE a && plainE b && plainE c && !([a, b, c].all (foldedForSure 8)) && !([a, b, c].all (constantsAlone 8))
def notList : Expr → Bool
  | .List .. => false
  | _ => true
def notLocT (sc : Scope) : Expr → Bool
  | .Name x _ => !isLoc sc x
  | _ => true
/-- stored from the left, by way of a tuple -/
def noSwap (sc : Scope) (ts es : List Expr) : Bool := es.all plainE && ts.all plainE && (es.all (foldedForSure 8) || ts.any (notLocT sc))
def trParT (N : List Str) (t : Scope → Expr → ME) (sc : Scope) (ts es : List Expr) : MS :=
  if noSwap sc ts es then .parT (trT.trTs (trT t N sc 3) ts) (trl (t sc) es) else .bad
def trAsg (g : GI) (N : List Str) (t : Scope → Expr → ME) (sc : Scope) (tg a : Expr) : MS := match tg, a with
  | .Tuple [.Name x px, .Name y py] _ _, .Tuple [a, b] k p =>
    if par2 sc x y px py a b then (match ixOf N x, ixOf N y with
      | some i, some j => if i = j then .bad else .par [i, j] (trl (t sc) [a, b])
      | _, _ => .bad)
    else trParT N t sc [.Name x px, .Name y py] [a, b]
  | .Tuple [.Name x px, .Name y py, .Name z pz] _ _, .Tuple [a, b, c] k p =>
    if par3 sc x y z px py pz a b c then (match ixOf N x, ixOf N y, ixOf N z with
      | some i, some j, some l => if i = j ∨ i = l ∨ j = l then .bad else .par [i, j, l] (trl (t sc) [a, b, c])
      | _, _, _ => .bad)
    else trParT N t sc [.Name x px, .Name y py, .Name z pz] [a, b, c]
  | .Name y py, .ListComp elt gs scope cpos =>
    if isLoc sc y then
      (if (py.line == cpos.line) && !(scope.names.any fun (n, k) => n == y && (k == .local || k == .cell)) then (match ixOf N y with
        | some i => .asg (.nm i) (trLc g N t sc elt gs scope)
        | none => .bad)
      else .bad)
    else .asg (trT t N sc 4 tg) (t sc a)
  | tg, a => if isComp a then .bad else if isTupE tg && isTupE a then .bad else if plainE tg && plainE a && notList tg then .asg (trT t N sc 4 tg) (t sc a) else .bad
def trSl (f : Stmt → MS) : List Stmt → MSs
  | [] => .nil
  | s :: r => .cons (f s) (trSl f r)
def trExp (t : Expr → ME) (e : Expr) : MS := match e with
  | .Constant (.str _) _ _ => .pass
  | e => if isComp e then .bad else .exp (t e)
def trS (g : GI) (N : List Str) (t : Scope → Expr → ME) (sc : Scope) : Nat → Stmt → MS
  | 0, _ => .bad
  | _ + 1, .Pass _ => .pass
  | _ + 1, .Break _ => .brk
  | _ + 1, .Continue _ => .ct
  | _ + 1, .Expr e _ => trExp (t sc) e
  | _ + 1, .Assign [tg] a _ => trAsg g N t sc tg a
  | _ + 1, .Return none _ => .ret (.k .non)
  | _ + 1, .Return (some a) _ => .ret (t sc a)
  | n + 1, .If c a b _ => .ite (t sc c) (trSl (trS g N t sc n) a) (trSl (trS g N t sc n) b)
  | n + 1, .While c b [] _ => .while (t sc c) (trSl (trS g N t sc n) b)
  | n + 1, .For tg it b [] _ => if notSet it then .for (trT t N sc 4 tg) (trI g sc (t sc) tg it) (trSl (trS g N t sc n) b) else .bad
  | _ + 1, .AugAssign (.Name x _) o a _ => (match slotOf N sc x, aopOf o with
    | some i, some p => .aug i p (t sc a)
    | _, _ => .bad)
  | _ + 1, _ => .bad

section
variable {g : GI} {N : List Str} {sc scope : Scope} {C : Ctx} {X : Cx} {np : Nat} {a b c e tg : Expr} {pos p0 apos : Pos} {es : List Expr} {t : Scope → Expr → ME}
theorem isLoc_of {x : Str} (h : isLoc sc x = true) : sc.names.lookup x = some .local := by
  unfold isLoc at h
  split at h
  · assumption
  · cases h
theorem isFunS_of (h : isFunS sc = true) : sc.kind = .function := by
  unfold isFunS at h
  split at h
  · assumption
  · cases h
theorem slotOf_ok {x : Str} {i : Nat} (h : slotOf N sc x = some i) : N[i]? = some x ∧ (sc.names.lookup x = some .local ∨ sc.names.lookup x = some .cell) := by
  unfold slotOf at h
  split at h
  · exact ⟨ixOf_get h, .inl (by assumption)⟩
  · exact ⟨ixOf_get h, .inr (by assumption)⟩
  · cases h
theorem blockKind_of {env : PySem.Env} (h : env.scope.kind = .function) : env.blockKind = .function := by unfold Env.blockKind; rw [h]; rfl
theorem any_star {es : List Expr} (h : es.all plainE = true) : (es.any fun | .Starred .. => true | _ => false) = false := by
  induction es with
  | nil => rfl
  | cons a es ih =>
    obtain ⟨h1, h2⟩ := cons_plain h
    rw [List.any_cons, ih h2, Bool.or_false]
    cases a <;> first | rfl | cases h1
theorem swapped2 {x y : Str} {px py pt pt2 : Pos} {kt k2 : Nat} (h : par2 sc x y px py a b = true) {env : PySem.Env} (he : env.scope = sc) : swappedStores [.Tuple [.Name x px, .Name y py] kt pt] (.Tuple [a, b] k2 pt2) env = pure (some [x, y]) := by
  unfold par2 at h
  simp only [Bool.and_eq_true, Bool.not_eq_true'] at h
  obtain ⟨⟨⟨⟨⟨⟨⟨⟨h1, h2⟩, h3⟩, h4⟩, h5⟩, h6⟩, h7⟩, h8⟩, h9⟩ := h
  have kx : env.kindOf x = some .local := by show env.scope.names.lookup x = _; rw [he]; exact isLoc_of h2
  have ky : env.kindOf y = some .local := by show env.scope.names.lookup y = _; rw [he]; exact isLoc_of h3
  have bk : env.blockKind = .function := blockKind_of (by rw [he]; exact isFunS_of h1)
  have st : ([a, b].any fun | .Starred .. => true | _ => false) = false := any_star (by rw [List.all_cons, h6, List.all_cons, h7]; rfl)
  have ne : x ≠ y := by simpa using h5
  have h4' : py.line = px.line := by simpa using h4
  unfold swappedStores
  dsimp only
  refine (if_neg (fun z => ?_)).trans ?_
  · rw [bk] at z
    exact Bool.false_ne_true z
  refine (if_neg (fun z => Bool.false_ne_true (st.symm.trans z))).trans ?_
  generalize hn : List.filterMap _ [Expr.Name x px, Expr.Name y py] = nms
  have nm : nms = [x, y] := by
    rw [← hn]
    have e1 : (([Expr.Name x px, Expr.Name y py].head?.map (·.pos.line)).getD 0) = px.line := rfl
    simp only [e1, List.filterMap_cons, List.filterMap_nil, kx, ky, h4']
    simp
  subst nm
  have er : [x, y].eraseDups.length = 2 := by
    simp [List.eraseDups_cons, ne, Ne.symm ne]
  refine (if_neg (fun z => ?_)).trans ?_
  · rw [er] at z
    exact Bool.false_ne_true z
  refine (if_neg (fun z => Bool.false_ne_true (h8.symm.trans z))).trans ?_
  exact if_neg (fun z => Bool.false_ne_true (h9.symm.trans z))
theorem swapped3 {x y z : Str} {px py pz pt pt2 : Pos} {kt k2 : Nat} (h : par3 sc x y z px py pz a b c = true) {env : PySem.Env} (he : env.scope = sc) : swappedStores [.Tuple [.Name x px, .Name y py, .Name z pz] kt pt] (.Tuple [a, b, c] k2 pt2) env = pure (some [x, y, z]) := by
  unfold par3 at h
  simp only [Bool.and_eq_true, Bool.not_eq_true'] at h
  obtain ⟨⟨⟨⟨⟨⟨⟨⟨⟨⟨⟨⟨⟨h1, h2⟩, h3⟩, h3'⟩, h4⟩, h4'⟩, h5⟩, h5'⟩, h5''⟩, h6⟩, h7⟩, h7'⟩, h8⟩, h9⟩ := h
  have kx : env.kindOf x = some .local := by show env.scope.names.lookup x = _; rw [he]; exact isLoc_of h2
  have ky : env.kindOf y = some .local := by show env.scope.names.lookup y = _; rw [he]; exact isLoc_of h3
  have kz : env.kindOf z = some .local := by show env.scope.names.lookup z = _; rw [he]; exact isLoc_of h3'
  have bk : env.blockKind = .function := blockKind_of (by rw [he]; exact isFunS_of h1)
  have st : ([a, b, c].any fun | .Starred .. => true | _ => false) = false := any_star (by rw [List.all_cons, h6, List.all_cons, h7, List.all_cons, h7']; rfl)
  have ne : x ≠ y := by simpa using h5
  have ne' : x ≠ z := by simpa using h5'
  have ne'' : y ≠ z := by simpa using h5''
  have h4y : py.line = px.line := by simpa using h4
  have h4z : pz.line = px.line := by simpa using h4'
  unfold swappedStores
  dsimp only
  refine (if_neg (fun z => ?_)).trans ?_
  · rw [bk] at z
    exact Bool.false_ne_true z
  refine (if_neg (fun z => Bool.false_ne_true (st.symm.trans z))).trans ?_
  generalize hn : List.filterMap _ [Expr.Name x px, Expr.Name y py, Expr.Name z pz] = nms
  have nm : nms = [x, y, z] := by
    rw [← hn]
    have e1 : (([Expr.Name x px, Expr.Name y py, Expr.Name z pz].head?.map (·.pos.line)).getD 0) = px.line := rfl
    simp only [e1, List.filterMap_cons, List.filterMap_nil, kx, ky, kz, h4y, h4z]
    simp
  subst nm
  have er : [x, y, z].eraseDups.length = 3 := by
    simp [List.eraseDups_cons, ne, Ne.symm ne, ne', Ne.symm ne', ne'', Ne.symm ne'']
  refine (if_neg (fun z => ?_)).trans ?_
  · rw [er] at z
    exact Bool.false_ne_true z
  refine (if_neg (fun z => Bool.false_ne_true (h8.symm.trans z))).trans ?_
  exact if_neg (fun z => Bool.false_ne_true (h9.symm.trans z))
theorem filterMap_short {α β : Type} {f : α → Option β} : ∀ {l : List α}, (∃ x ∈ l, f x = none) → (l.filterMap f).length < l.length
  | [], ⟨_, h, _⟩ => by cases h
  | a :: l, ⟨x, h, e⟩ => by
    cases hf : f a with
    | none =>
      rw [List.filterMap_cons_none hf, List.length_cons]
      exact Nat.lt_succ_of_le (List.length_filterMap_le f l)
    | some b =>
      rw [List.filterMap_cons_some hf, List.length_cons, List.length_cons]
      rcases List.mem_cons.mp h with rfl | h
      · rw [hf] at e; cases e
      · exact Nat.succ_lt_succ (filterMap_short ⟨x, h, e⟩)
theorem noSwap_ok {ts es : List Expr} {k k2 : Nat} {pt pt2 : Pos} (h : noSwap sc ts es = true) {env : PySem.Env} (he : env.scope = sc) : swappedStores [.Tuple ts k pt] (.Tuple es k2 pt2) env = pure none := by
  unfold noSwap at h
  simp only [Bool.and_eq_true] at h
  obtain ⟨⟨h1, h2⟩, h3⟩ := h
  have st : (es.any fun | .Starred .. => true | _ => false) = false := any_star h1
  unfold swappedStores
  dsimp only
  by_cases c1 : (!(ts.length == 2 || ts.length == 3) || es.length != ts.length || env.blockKind != ScopeKind.function) = true
  · exact if_pos c1
  refine (if_neg c1).trans ?_
  refine (if_neg (fun z => Bool.false_ne_true (st.symm.trans z))).trans ?_
  generalize hn : List.filterMap _ ts = nms
  by_cases c2 : (nms.length != ts.length || nms.eraseDups.length != nms.length) = true
  · exact if_pos c2
  refine (if_neg c2).trans ?_
  rcases Bool.or_eq_true_iff.mp h3 with h3 | h3
  · exact if_pos h3
  · exfalso
    apply c2
    obtain ⟨x, hx, hl⟩ := List.any_eq_true.mp h3
    have short : nms.length < ts.length := by
      rw [← hn]
      refine filterMap_short ⟨x, hx, ?_⟩
      cases x <;> first | rfl | skip
      rename_i y p
      have k : (env.kindOf y == some NameKind.local) = false := by
        show (env.scope.names.lookup y == some NameKind.local) = false
        rw [he]
        have hy : isLoc sc y = false := by simpa [notLocT] using hl
        unfold isLoc at hy
        split at hy
        · cases hy
        · rename_i hn
          exact beq_eq_false_iff_ne.mpr hn
      dsimp only
      rw [k, Bool.false_and]
      rfl
    have : (nms.length != ts.length) = true := by simp; omega
    rw [this]
    rfl
theorem js_asgbad {tt : MT} {st : Stmt} : JS g N sc C np st (.asg tt .bad) := fun X c => PS.absurd fun D σ H ⟨env, F, O, f, env', _, _, e, _⟩ => by
  simp [ex, ev, op] at e
theorem notComp_swaps (h : isComp a = false) (l : Nat) (env : PySem.Env) : swapsWithSole [tg] a l env = pure false := by
  cases a <;> first | rfl | cases h
theorem asg_one (h : plainE tg = true) (env : PySem.Env) : (assignEach [tg] env).map (·.2) = [assign tg env] := by
  rw [assign_plain h]
  rfl
theorem notLoc_swaps {elt : Expr} {gs : List Comprehension} {y : Str} {py cpos : Pos} (h : isLoc sc y = false) (l : Nat) {env : PySem.Env} (he : env.scope = sc) : swapsWithSole [.Name y py] (.ListComp elt gs scope cpos) l env = pure false := by
  have k : (env.kindOf y == some NameKind.local) = false := by
    show (env.scope.names.lookup y == some NameKind.local) = false
    rw [he]
    unfold isLoc at h
    split at h
    · cases h
    · rename_i hn
      exact beq_eq_false_iff_ne.mpr hn
  show (pure (env.blockKind == .function && env.kindOf y == some NameKind.local && py.line == cpos.line && !(scope.names.any fun (n, k) => n == y && (k == .local || k == .cell))) : Sem Bool) = pure false
  rw [k, Bool.and_false, Bool.false_and, Bool.false_and]
theorem stores_none (h1 : (isTupE tg && isTupE a) = false) (h2 : notList tg = true) (env : PySem.Env) : swappedStores [tg] a env = pure none := by
  cases tg <;> first | rfl | (cases h2; done) | (cases a <;> first | rfl | cases h1)
theorem trTs_go (h : ∀ sc e, J g N sc C e (t sc e)) (n : Nat) : ∀ (es : List Expr), es.all plainE = true → JGo g N sc C es (trT.trTs (trT t N sc n) es) ∧ (∀ env : PySem.Env, (assignEach es env).length = (trT.trTs (trT t N sc n) es).len) ∧ ∀ env : PySem.Env, (assignEach es env).findIdx? (·.1) = none
  | [], _ => ⟨jgo_nil, fun _ => rfl, fun _ => rfl⟩
  | a :: es, hp => by
    obtain ⟨h1, h2, h3⟩ := trTs_go h n es (cons_plain hp).2
    refine ⟨jgo_cons (assign_plain (cons_plain hp).1) (trT_ok (h sc) n a) h1, fun env => ?_, fun env => ?_⟩
    · rw [assign_plain (cons_plain hp).1, List.length_cons, h2 env]
      rfl
    · rw [assign_plain (cons_plain hp).1, List.findIdx?_cons, h3 env]
      rfl
theorem trParT_ok {ts : List Expr} {k k2 : Nat} {pt pt2 : Pos} (h : ∀ sc e, J g N sc C e (t sc e)) (ht : ∀ sc e, JT g N sc C e (t sc e)) : JS g N sc C np (.Assign [.Tuple ts k pt] (.Tuple es k2 pt2) pos) (trParT N t sc ts es) := by
  unfold trParT
  split
  · rename_i hc
    have hc' := hc
    unfold noSwap at hc'
    simp only [Bool.and_eq_true] at hc'
    obtain ⟨h1, h2, h3⟩ := trTs_go (sc := sc) h 3 ts hc'.1.2
    exact js_parT (fun env => rfl) (fun env he => noSwap_ok hc he) h2 h3 h1 (trl_jv (h sc) hc'.1.1)
  · exact js_bad
theorem trAsg_ok (h : ∀ sc e, J g N sc C e (t sc e)) (ht : ∀ sc e, JT g N sc C e (t sc e)) : JS g N sc C np (.Assign [tg] a pos) (trAsg g N t sc tg a) := by
  unfold trAsg
  split
  · rename_i x px y py kt pt a b k p
    split
    · rename_i hc
      split
      · rename_i i j hi hj
        split
        · exact js_bad
        · rename_i hij
          have hc' := hc
          unfold par2 at hc'
          simp only [Bool.and_eq_true, Bool.not_eq_true'] at hc'
          obtain ⟨⟨⟨⟨⟨⟨⟨⟨h1, h2⟩, h3⟩, h4⟩, h5⟩, h6⟩, h7⟩, h8⟩, h9⟩ := hc'
          exact js_par (ixOf_get hi) (ixOf_get hj) hij (isLoc_of h2) (isLoc_of h3) (fun env he => swapped2 hc he) (fun env => rfl) (trl_jv (h sc) (by rw [List.all_cons, h6, List.all_cons, h7]; rfl))
      · exact js_bad
    · exact trParT_ok h ht
  · rename_i x px y py z pz kt pt a b c k p
    split
    · rename_i hc
      split
      · rename_i i j l hi hj hl
        split
        · exact js_bad
        · rename_i hij
          have hc' := hc
          unfold par3 at hc'
          simp only [Bool.and_eq_true, Bool.not_eq_true'] at hc'
          obtain ⟨⟨⟨⟨⟨⟨⟨⟨⟨⟨⟨⟨⟨h1, h2⟩, h3⟩, h3'⟩, h4⟩, h4'⟩, h5⟩, h5'⟩, h5''⟩, h6⟩, h7⟩, h7'⟩, h8⟩, h9⟩ := hc'
          exact js_par3 (ixOf_get hi) (ixOf_get hj) (ixOf_get hl) (fun z => hij (.inl z)) (fun z => hij (.inr (.inl z))) (fun z => hij (.inr (.inr z))) (isLoc_of h2) (isLoc_of h3) (isLoc_of h3') (fun env he => swapped3 hc he) (fun env => rfl) (trl_jv (h sc) (by rw [List.all_cons, h6, List.all_cons, h7, List.all_cons, h7']; rfl))
      · exact js_bad
    · exact trParT_ok h ht
  · rename_i y py elt gs scope cpos
    split
    · rename_i hy
      split
      · rename_i hc
        split
        · rename_i i hi
          simp only [Bool.and_eq_true, Bool.not_eq_true'] at hc
          unfold trLc
          split
          · rename_i tg it ifs k
            split
            · rename_i hk
              obtain ⟨rfl, hn, hb⟩ := hk
              split
              · exact js_setLc (ixOf_get hi) (isLoc_of hy) hc.1 hc.2 hb ownOf_snd (notSet_ok hn) (trI_ok (h sc)) (trT_ok (h scope) 4 tg) jcs_nil (h scope elt)
              · rename_i c
                exact js_setLc (ixOf_get hi) (isLoc_of hy) hc.1 hc.2 hb ownOf_snd (notSet_ok hn) (trI_ok (h sc)) (trT_ok (h scope) 4 tg) (jcs_one (ht scope c)) (h scope elt)
              · exact js_asgbad
            · exact js_asgbad
          · exact js_asgbad
        · exact js_bad
      · exact js_bad
    · rename_i hy
      exact js_asg (fun env he => notLoc_swaps (by simpa using hy) _ he) (fun env _ => rfl) (fun env => rfl) (trT_ok (h sc) 4 _) (h sc _)
  · split
    · exact js_bad
    · rename_i h1
      split
      · exact js_bad
      · rename_i h2
        split
        · rename_i h3
          simp only [Bool.and_eq_true] at h3
          exact js_asg (fun env _ => notComp_swaps (by simpa using h1) _ env) (fun env _ => stores_none (by simpa using h2) h3.2 env) (asg_one h3.1.1) (trT_ok (h sc) 4 _) (h sc _)
        · exact js_bad
theorem trExp_ok (h : ∀ e, J g N sc C e (t sc e)) : JS g N sc C np (.Expr a pos) (trExp (t sc) a) := by
  unfold trExp
  split
  · exact js_doc
  · split
    · exact js_bad
    · rename_i hc
      refine js_exp (fun env => ?_) (h a)
      cases a <;> first | rfl | exact absurd rfl hc
theorem aug_ok {o : Operator} {p : BOp} (h : aopOf o = some p) (X : Cx) : ∃ f : Int → Int → Int, PIp X o (ipI f) ∧ ∀ x y d, augop p x y = some d → ∃ i j, x = .int i ∧ y = .int j ∧ d = .int (f i j) := by
  cases o <;> cases h
  · refine ⟨_, ip_add, fun x y d e => ?_⟩
    cases x <;> cases y <;> first | (cases e; done) | (cases e; exact ⟨_, _, rfl, rfl, rfl⟩)
  · refine ⟨_, ip_sub, fun x y d e => ?_⟩
    cases x <;> cases y <;> first | (cases e; done) | (cases e; exact ⟨_, _, rfl, rfl, rfl⟩)
end
section
variable {g : GI} {N : List Str} {sc : Scope} {np : Nat} {t : Scope → Expr → ME}
theorem trSl_ok {C : Ctx} {f : Stmt → MS} (h : ∀ s, JS g N sc C np s (f s)) : ∀ ss : List Stmt, JSs g N sc C np ss (trSl f ss)
  | [] => jss_nil
  | s :: ss => jss_cons (h s) (trSl_ok h ss)
theorem trS_ok (h : ∀ C sc e, J g N sc C e (t sc e)) (ht : ∀ C sc e, JT g N sc C e (t sc e)) : ∀ (n : Nat) (C : Ctx) (s : Stmt), JS g N sc C np s (trS g N t sc n s) := by
  intro n
  induction n with
  | zero => intro C s; unfold trS; exact js_bad
  | succ n ih =>
    intro C s
    cases s with
    | Pass p => unfold trS; exact js_pass
    | Break p => unfold trS; exact js_break
    | Continue p => unfold trS; exact js_cont
    | Expr e p => unfold trS; exact trExp_ok (h C sc)
    | Return v p =>
      cases v with
      | none => unfold trS; exact js_retN
      | some a => unfold trS; exact js_ret (h C sc a)
    | Assign tgs a p =>
      cases tgs with
      | nil => unfold trS; exact js_bad
      | cons tg r =>
        cases r with
        | nil => unfold trS; exact trAsg_ok (h C) (ht C)
        | cons _ _ => unfold trS; exact js_bad
    | If c a b p => unfold trS; exact js_if (ht C sc c) (trSl_ok (ih C) a) (trSl_ok (ih C) b)
    | While c b o p =>
      cases o with
      | nil => unfold trS; exact js_while (ht C sc c) (trSl_ok (ih C) b)
      | cons _ _ => unfold trS; exact js_bad
    | For tg it b o p =>
      cases o with
      | nil =>
        unfold trS
        split
        · rename_i hn
          exact js_for (notSet_ok hn) (trI_ok (h C sc)) (fun wk => trT_ok (h _ sc) 4 tg) (fun wk => trSl_ok (ih _) b)
        · exact js_bad
      | cons _ _ => unfold trS; exact js_bad
    | AugAssign tg o a p =>
      cases tg with
      | Name x q =>
        unfold trS
        split
        · rename_i i p hs ho
          obtain ⟨h1, h2⟩ := slotOf_ok hs
          exact js_aug h1 h2 (aug_ok ho) (h C sc a)
        · exact js_bad
      | _ => unfold trS; exact js_bad
    | _ => unfold trS; exact js_bad
/-- a def's body as the small language has it -/
def trBody (g : GI) (N : List Str) (sc : Scope) (b : List Stmt) : MSs := trSl (trS g N (tr g N 40) sc 20) b
theorem trBody_ok (C : Ctx) (b : List Stmt) : JSs g N sc C np b (trBody g N sc b) :=
  trSl_ok (trS_ok (fun C sc e => (tr_ok 40 sc e).1.1) (fun C sc e => (tr_ok 40 sc e).1.2) 20 C) b
/-- a def as the small language has it -/
theorem defS_of {body : List Stmt} {scope : Scope} {ps N : List Str} (fs : FnScope N ps scope) {f : FnD} (h : f = ⟨ps.length, N.length, trBody g N scope body⟩) : DefS g body scope ps N f := by
  subst h
  exact ⟨fs, rfl, rfl, fun C => trBody_ok C body⟩
end
end Mp

end
section
set_option Elab.async false
set_option linter.all false
/-! Mp22: what the head knows; the law's end. -/
namespace Mp
open PySem PySem.Spec PyProof.Rows L2

/-! ### constants as they lie -/
mutual
def valB (K : PySem.W.Frag) : D → Value → Bool
  | .non, u => (match u with | .none => true | _ => false)
  | .bl b, u => (match u with | .bool c => b == c | _ => false)
  | .int i, u => (match u with | .int j _ => decide (i = j) | _ => false)
  | .str t, u => (match u with | .str y _ => decide (st t = y) | _ => false)
  | .ty n, u => (match u with | .type m => decide (n = m) | _ => false)
  | .tup xs, u => (match u with
    | .ref a => (match K.lookup a with
      | some ⟨.type c, _, .seq its _, _⟩ => decide (c = "tuple") && (decide (its.size ≤ sizeLine) && valsB K xs its.toList)
      | _ => false)
    | _ => false)
  | .lst o xs, u => (match u with
    | .ref a => (match K.lookup a with
      | some ⟨.type c, none, .seq its _, _⟩ => !o && (decide (c = "list") && (decide (its.size ≤ sizeLine) && valsB K xs its.toList))
      | _ => false)
    | _ => false)
  | .dct _, _ => false
def valsB (K : PySem.W.Frag) : List D → List Value → Bool
  | [], us => us.isEmpty
  | d :: ds, us => (match us with
    | u :: us => valB K d u && valsB K ds us
    | [] => false)
end
mutual
theorem valB_ok {K : PySem.W.Frag} {w : World} : ∀ (d : D) (u : Value), valB K d u = true → ∃ v, RelV v u ∧ ∀ H F, Rep K w H F d v
  | .non, u, h => by
    unfold valB at h
    split at h
    · exact ⟨.non, rfl, fun H F => rep_non⟩
    · cases h
  | .bl b, u, h => by
    unfold valB at h
    split at h
    · rename_i c
      have e : b = c := eq_of_beq h
      subst e
      exact ⟨.bl b, rfl, fun H F => rep_bl⟩
    · cases h
  | .int i, u, h => by
    unfold valB at h
    split at h
    · rename_i c t
      have e : i = c := of_decide_eq_true h
      subst e
      exact ⟨.int i, ⟨t, rfl⟩, fun H F => rep_int⟩
    · cases h
  | .str s, u, h => by
    unfold valB at h
    split at h
    · rename_i c t
      have e : st s = c := of_decide_eq_true h
      subst e
      exact ⟨.str (st s), ⟨t, rfl⟩, fun H F => rep_str⟩
    · cases h
  | .ty n, u, h => by
    unfold valB at h
    split at h
    · rename_i m
      have e : n = m := of_decide_eq_true h
      subst e
      exact ⟨.ty n, rfl, fun H F => by unfold Rep; rfl⟩
    · cases h
  | .tup xs, u, h => by
    unfold valB at h
    split at h
    · rename_i a
      split at h
      · rename_i c od its n osl q
        obtain ⟨h1, h2⟩ := Bool.and_eq_true_iff.mp h
        obtain ⟨h3, h4⟩ := Bool.and_eq_true_iff.mp h2
        obtain ⟨vs, r, k⟩ := valsB_ok (w := w) xs its.toList h4
        exact ⟨.ref a, rfl, fun H F => rep_tup (.inr ⟨_, its, n, q, congrArg Value.type (of_decide_eq_true h1), rfl, of_decide_eq_true h3, r⟩) (k H F)⟩
      · cases h
    · cases h
  | .lst o xs, u, h => by
    unfold valB at h
    split at h
    · rename_i a
      split at h
      · rename_i c its n osl q
        obtain ⟨h0, h⟩ := Bool.and_eq_true_iff.mp h
        obtain ⟨h1, h2⟩ := Bool.and_eq_true_iff.mp h
        obtain ⟨h3, h4⟩ := Bool.and_eq_true_iff.mp h2
        obtain ⟨vs, r, k⟩ := valsB_ok (w := w) xs its.toList h4
        have ho : o = false := by simpa using h0
        subst ho
        refine ⟨.ref a, rfl, fun H F => ?_⟩
        unfold Rep
        exact ⟨a, vs, rfl, .inr ⟨_, its, n, q, congrArg Value.type (of_decide_eq_true h1), rfl, rfl, of_decide_eq_true h3, r⟩, k H F⟩
      · cases h
    · cases h
  | .dct _, _, h => by
    unfold valB at h
    cases h
theorem valsB_ok {K : PySem.W.Frag} {w : World} : ∀ (ds : List D) (us : List Value), valsB K ds us = true → ∃ vs, Vals vs us ∧ ∀ H F, Reps K w H F ds vs
  | [], us, h => by
    unfold valsB at h
    cases us with
    | nil => exact ⟨[], .nil, fun H F => .nil⟩
    | cons u us => cases h
  | d :: ds, us, h => by
    unfold valsB at h
    split at h
    · rename_i u us
      obtain ⟨h1, h2⟩ := Bool.and_eq_true_iff.mp h
      obtain ⟨v, r, k⟩ := valB_ok (w := w) d u h1
      obtain ⟨vs, rs, ks⟩ := valsB_ok (w := w) ds us h2
      exact ⟨v :: vs, .cons r rs, fun H F => .cons (k H F) (ks H F)⟩
    · cases h
end
/-- a name of the module stands for this value -/
def conOk (K : PySem.W.Frag) (p : Str × D) : Bool := match p.2 with
  | .dct kvs => eqO' (PySem.W.nsIn K mainGlobals p.1) (He.ga K p.1) && (decide (kvs.map (·.1)).Nodup && kvs.all fun q => (match PySem.W.nsIn K (He.ga K p.1) (st q.1) with
    | some (some u) => valB K q.2 u
    | _ => false))
  | d => (match PySem.W.nsIn K mainGlobals p.1 with
    | some (some u) => valB K d u
    | _ => false)
where eqO' (a : Option (Option Value)) (b : Addr) : Bool := decide (a = some (some (.ref b)))
def isDct : D → Bool
  | .dct _ => true
  | _ => false
def keysD : D → List Txt
  | .dct kvs => kvs.map (·.1)
  | _ => []
/-- the dicts among the constants -/
def tabsOf (cs : List (Str × D)) : List He.Tab := (cs.filter fun p => isDct p.2).map fun p => ((fun K => He.ga K p.1), (keysD p.2).map st)
abbrev AlM : Type := Bool × He.AlT
def obsM (fa : List He.Fa) (fn : List He.DefD) (cs : List (Str × D)) (K : PySem.W.Frag) : AlM := (cs.all (conOk K), He.obsT fa fn (tabsOf cs) K)
def valM (fn : List He.DefD) (cs : List (Str × D)) (w : World) : AlM := (true, He.valT fn (tabsOf cs) w)
def obsMG (n : Nat) (fa : List He.Fa) (fn : List He.DefD) (cs : List (Str × D)) (g : Addr → Option Obj) : AlM := obsM fa fn cs (He.frG g (He.asD g n))
def SaysM (fa : List He.Fa) (fn : List He.DefD) (cs : List (Str × D)) (w : World) (K : PySem.W.Frag) : Prop := obsM fa fn cs K = valM fn cs w
def hookM (n : Nat) (fa : List He.Fa) (fn : List He.DefD) (cs : List (Str × D)) : PySem.W.Hook where
  α := AlM
  obs := fun s => obsMG n fa fn cs s.heap.get?
  val := fun w => valM fn cs w
  says := fun w h => ∃ K : PySem.W.Frag, K.In h ∧ SaysM fa fn cs w K
  of := fun _ _ e => ⟨_, He.frG_in, e⟩
  keeps := fun _ _ _ ⟨K, hK, c⟩ k => ⟨K, PySem.W.Frag.In.keeps hK k, c⟩
theorem obsMG_eq {n : Nat} {fa : List He.Fa} {fn : List He.DefD} {cs : List (Str × D)} {g : Addr → Option Obj} {s : Shared} (h : ∀ a, g a = s.heap.get? a) : obsMG n fa fn cs g = (hookM n fa fn cs).obs s := by
  have e : g = s.heap.get? := funext h
  rw [e] <;> rfl
section
variable {fa : List He.Fa} {fn : List He.DefD} {cs : List (Str × D)} {w : World} {K : PySem.W.Frag}
theorem SaysM.t (c : SaysM fa fn cs w K) : He.SaysT fa fn (tabsOf cs) w K := congrArg (fun z : AlM => z.2) c
theorem SaysM.d (c : SaysM fa fn cs w K) : He.SaysD fa fn K := c.t.d
theorem tab_mem {ts : List He.Tab} (c : He.SaysT fa fn ts w K) {t : He.Tab} (h : t ∈ ts) : He.dicW K (t.1 K) = some (He.keysIn w.params t.2) := by
  have e : ts.map (fun t => He.dicW K (t.1 K)) = ts.map fun t => some (He.keysIn w.params t.2) := congrArg (fun z : He.AlT => z.2) c
  obtain ⟨i, hi⟩ := List.getElem?_of_mem h
  have e2 : (ts.map fun t => He.dicW K (t.1 K))[i]? = (ts.map fun t => some (He.keysIn w.params t.2))[i]? := by rw [e]
  rw [List.getElem?_map, List.getElem?_map, hi] at e2
  exact Option.some.inj e2
theorem keys_txt {P : Params} : ∀ {es : List DictEntry} {ks : List Str}, es.map He.keyOf = He.keysIn P ks → es.map keyTxt = ks.map some
  | [], [], _ => rfl
  | [], _ :: _, h => by cases h
  | _ :: _, [], h => by cases h
  | e :: es, k :: ks, h => by
    have h1 : He.keyOf e :: es.map He.keyOf = some (k, PyData.keyHash P k) :: He.keysIn P ks := h
    injection h1 with h2 h3
    rw [List.map_cons, List.map_cons, keys_txt h3]
    congr 1
    unfold He.keyOf at h2
    unfold keyTxt
    split at h2
    · rename_i x t q
      rw [q]
      have h4 := Option.some.inj h2
      rw [(Prod.mk.inj h4).1]
    · cases h2
/-- .. with the entries -/
theorem dic_of {a : Addr} {ks : List Str} (h : He.dicW K a = some (He.keysIn w.params ks)) : ∃ es n, KDict K w a es n ∧ es.toList.map keyTxt = ks.map some := by
  obtain ⟨es, n, D⟩ := He.dicW_ok h
  refine ⟨es, n, D, ?_⟩
  unfold He.dicW at h
  rw [D.at_] at h
  dsimp only at h
  split at h
  · exact keys_txt (Option.some.inj h)
  · cases h
theorem SaysM.con (c : SaysM fa fn cs w K) {h : Heap} {mg : Str → Option Value} (X : K.In h) (G : h.Ns mainGlobals mg) {x : Str} {d : D} (hm : (x, d) ∈ cs) : ∃ u v, mg x = some u ∧ RelV v u ∧ ∀ H F, Rep K w H F d v := by
  have c1 : cs.all (conOk K) = true := congrArg (fun z : AlM => z.1) c
  have c2 := List.all_eq_true.mp c1 _ hm
  cases d with
  | dct kvs =>
    unfold conOk at c2
    dsimp only at c2
    obtain ⟨h1, h2⟩ := Bool.and_eq_true_iff.mp c2
    obtain ⟨h3, h4⟩ := Bool.and_eq_true_iff.mp h2
    have hg : PySem.W.nsIn K mainGlobals x = some (some (.ref (He.ga K x))) := of_decide_eq_true h1
    have hnd : (kvs.map (·.1)).Nodup := of_decide_eq_true h3
    have ht := tab_mem (t := ((fun K => He.ga K x), (keysD (.dct kvs)).map st)) c.t (by
      unfold tabsOf
      exact List.mem_map.mpr ⟨(x, .dct kvs), List.mem_filter.mpr ⟨hm, rfl⟩, rfl⟩)
    obtain ⟨es, n, D, hk⟩ := dic_of ht
    refine ⟨_, .ref (He.ga K x), PySem.W.mg_of X G hg, rfl, fun H F => ?_⟩
    unfold Rep
    refine ⟨He.ga K x, rfl, ⟨es, n, D, ?_, hnd⟩, ?_⟩
    · have hk' : es.toList.map keyTxt = (kvs.map (·.1)).map fun k => some (st k) := by
        rw [hk]
        show ((kvs.map (·.1)).map st).map some = _
        rw [List.map_map]
        rfl
      exact hk'
    · clear hk D ht hm hnd h2 h3 c2 c1
      induction kvs with
      | nil => unfold Repd; trivial
      | cons q r ih =>
        obtain ⟨k, d⟩ := q
        rw [List.all_cons] at h4
        obtain ⟨h5, h6⟩ := Bool.and_eq_true_iff.mp h4
        unfold Repd
        refine ⟨?_, ih h6⟩
        dsimp only at h5
        split at h5
        · rename_i u hu
          obtain ⟨v, r, k⟩ := valB_ok (w := w) d u h5
          exact ⟨u, v, hu, r, k H F⟩
        · cases h5
  | _ =>
    unfold conOk at c2
    dsimp only at c2
    split at c2
    · rename_i u hu
      obtain ⟨v, r, k⟩ := valB_ok (w := w) _ u c2
      exact ⟨u, v, PySem.W.mg_of X G hu, r, k⟩
    · cases c2
theorem SaysM.free (c : SaysM fa fn cs w K) {h : Heap} {mg : Str → Option Value} (X : K.In h) (G : h.Ns mainGlobals mg) {x : Str} (hm : He.Fa.free x ∈ fa) : mg x = none := by
  have c1 := (He.ba (show ((fa.all fun f => f.ok K) && fn.all fun d => d.ok K) = true from congrArg (fun z : He.AlD => z.1) c.d)).1
  exact He.free_ok X G (List.all_eq_true.mp c1 _ hm)
theorem SaysM.glo (c : SaysM fa fn cs w K) {h : Heap} {mg : Str → Option Value} (X : K.In h) (G : h.Ns mainGlobals mg) {x : Str} (hm : He.Fa.glo x ∈ fa) : mg x = some (.ref (He.ga K x)) := by
  have c1 := (He.ba (show ((fa.all fun f => f.ok K) && fn.all fun d => d.ok K) = true from congrArg (fun z : He.AlD => z.1) c.d)).1
  exact He.glo_ok X G (List.all_eq_true.mp c1 _ hm)
end
/-- the defs, one behind another -/
def DefsOk (K : PySem.W.Frag) (mg : Str → Option Value) (g : GI) : List Str → List (List Str) → List FnD → Prop
  | [], _, _ => True
  | x :: xs, ps :: pss, f :: fs => (∃ (a : Addr) (fd : FuncData) (qual : Str) (args : Arguments) (body : List Stmt) (scope : Scope) (N : List Str), FunD K x qual args body scope [] [] a fd ∧ mg x = some (.ref a) ∧ Binds K fd ps [] ∧ DefS g body scope ps N f ∧
      (∀ (s : Shared) (us : List Value), us.length = ps.length → BindsTo s fd ⟨us, []⟩ (ps.zip us)) ∧ ∀ (s : Shared) (u : Value), ps.length = 1 → BindsTo s fd ⟨[], ps.zip [u]⟩ (ps.zip [u])) ∧ DefsOk K mg g xs pss fs
  | _ :: _, _, _ => False
theorem DefsOk.get {K : PySem.W.Frag} {mg : Str → Option Value} {g : GI} : ∀ {xs : List Str} {pss : List (List Str)} {fs : List FnD}, DefsOk K mg g xs pss fs → ∀ {i : Nat} {x : Str}, xs[i]? = some x →
    ∃ (a : Addr) (fd : FuncData) (qual : Str) (args : Arguments) (body : List Stmt) (scope : Scope) (ps N : List Str) (f : FnD), fs[i]? = some f ∧ FunD K x qual args body scope [] [] a fd ∧ mg x = some (.ref a) ∧ Binds K fd ps [] ∧ DefS g body scope ps N f ∧ pss[i]? = some ps ∧
      (∀ (s : Shared) (us : List Value), us.length = ps.length → BindsTo s fd ⟨us, []⟩ (ps.zip us)) ∧ ∀ (s : Shared) (u : Value), ps.length = 1 → BindsTo s fd ⟨[], ps.zip [u]⟩ (ps.zip [u])
  | [], _, _, _, _, _, h => by cases h
  | _ :: _, [], _, h, _, _, _ => False.elim h
  | _ :: _, _ :: _, [], h, _, _, _ => False.elim h
  | y :: xs, ps :: pss, f :: fs, ⟨h1, h2⟩, i, x, h => by
    cases i with
    | zero =>
      have h' : some y = some x := h
      cases h'
      obtain ⟨a, fd, qual, args, body, scope, N, k1, k2, k3, k4, k5, k6⟩ := h1
      exact ⟨a, fd, qual, args, body, scope, ps, N, f, rfl, k1, k2, k3, k4, rfl, k5, k6⟩
    | succ i => exact h2.get (i := i) h
/-- a def of the text, by its row in the head -/
theorem def_row {fa : List He.Fa} {fn : List He.DefD} {cs : List (Str × D)} {w : World} {K : PySem.W.Frag} {h : Heap} {mg : Str → Option Value} {g : GI} (X : K.In h) (G : h.Ns mainGlobals mg) (c : SaysM fa fn cs w K) {x qual : Str} {args : Arguments} {body : List Stmt} {scope : Scope} {ps N : List Str} {f : FnD}
    (hm : (⟨(x, none), x, qual, args, body, scope, [], []⟩ : He.DefD) ∈ fn) (hg : He.Fa.glo x ∈ fa) (fs : FnScope N ps scope) (hf : f = ⟨ps.length, N.length, trBody g N scope body⟩)
    (h1 : ∀ (kV doc pm : Value) (an : Option Addr) (cdv ct : Value) (us : List Value), us.length = ps.length → bindArgs (PySem.W.fnOf x qual args body scope .none kV doc pm an cdv ct) ⟨us, []⟩ = pure (ps.zip us))
    (h2 : ∀ (kV doc pm : Value) (an : Option Addr) (cdv ct : Value) (u : Value), ps.length = 1 → bindArgs (PySem.W.fnOf x qual args body scope .none kV doc pm an cdv ct) ⟨[], ps.zip [u]⟩ = pure (ps.zip [u])) :
    ∃ (a : Addr) (fd : FuncData) (qual : Str) (args : Arguments) (body : List Stmt) (scope : Scope) (N : List Str), FunD K x qual args body scope [] [] a fd ∧ mg x = some (.ref a) ∧ Binds K fd ps [] ∧ DefS g body scope ps N f ∧
      (∀ (s : Shared) (us : List Value), us.length = ps.length → BindsTo s fd ⟨us, []⟩ (ps.zip us)) ∧ ∀ (s : Shared) (u : Value), ps.length = 1 → BindsTo s fd ⟨[], ps.zip [u]⟩ (ps.zip [u]) := by
  obtain ⟨i, hi⟩ := List.getElem?_of_mem hm
  obtain ⟨fd, F⟩ := c.d.def_ i hi
  have F : FunD K x qual args body scope [] [] (He.ga K x) fd := F
  refine ⟨He.ga K x, fd, qual, args, body, scope, N, F, c.glo X G hg, F.bindsN h1, defS_of fs hf, fun s us hl => F.bindsA h1 s us hl, fun s u hl => ?_⟩
  obtain ⟨oc, od, dV, kV, doc, pm, an, cdv, ct, osl, rfl, lk, hcd, hD, hK⟩ := F.ex
  rcases hD with ⟨_, rfl⟩ | ⟨e, _⟩
  · exact .of_eq (h2 kV doc pm an cdv ct u hl)
  · exact absurd rfl e
/-- the law's end: the small language says true of every script -/
theorem law_end {l : PySem.W.OpenLaw} {n k : Nat} {q : Program} {loose : List Str} {XP : (Str → Option Value) → Heap → Prop} {d : DefRec} {x : Str} {fa : List He.Fa} {fn : List He.DefD} {cs : List (Str × D)} {g : GI} {fs : List FnD} {il m : Nat}
    (hn : l.most = some n) (hn2 : n ≤ sizeLine) (hdf : d.params.defaults = []) (hr : Room (k + 1) callerA)
    (hcon : ∀ x d, g.con x = some d → (x, d) ∈ cs) (hfree : ∀ x, x ∈ g.free → He.Fa.free x ∈ fa)
    (hd : ∀ (K : PySem.W.Frag) (w : World) (mg : Str → Option Value) (h : Heap), K.In h → h.Ns mainGlobals mg → SaysM fa fn cs w K → DefsOk K mg g g.fns g.pars fs)
    (hil : g.fns[il]? = some d.name) (hp : g.pars[il]? = some [x])
    (main : ∀ ns : List Int, ns.length ≤ n → ∃ fin, callN fs (k + 1) il [.lst false (ns.map .int)] = some (.bl true, fin)) :
    PySem.W.WalkO q loose XP (hookM m fa fn cs).says l.row.toRowW d [] (fun f vs => PySem.call f vs) := by
  refine L2.walk_ofE (n := n) (k := k + 1) (x := x) (CX := L2.CX0) hn hn2 hdf hr ?_ (fun _ _ _ _ z => z)
  intro w mg a h Y G hmg
  obtain ⟨K, KX, c⟩ := Y
  have dk := hd K w mg h KX G c
  have W : WorldOk l.prog w K mg g fs := ⟨fun x d e => c.con KX G (hcon x d e), fun x e => c.free KX G (hfree x e), fun i x hx => dk.get hx⟩
  obtain ⟨a0, fd0, qual, args, body, scope, ps0, N, f0, k0, F0, m0, b0, S0, p0, bA0, bK0⟩ := dk.get hil
  rw [hp] at p0
  have e0 := Option.some.inj p0
  subst e0
  rw [hmg] at m0
  cases m0
  refine ⟨K, fd0, spM K w (callN fs (k + 1)) il 1, KX, fun s u => bA0 s [u] rfl, fun H b ns hl ho hS => ?_, fun base _ _ => (def_step (base := base) W (defs_ok W k) k0 F0 S0).1⟩
  obtain ⟨fin, hc⟩ := main ns hl
  have fr : FinR K w H (fun _ => False) [none] [V.ref b] emp := fun _ z => z
  refine ⟨rfl, [.lst false (ns.map .int)], fun c => c = b ∧ H b ≠ none, emp, .bl true, fin, ?_, ⟨fun c z => by rw [z.1]; exact z.2, fun _ z => z.elim, fun _ z => z.elim⟩, hc, fun v H' F' Or Oa _ rv _ => rv.bl⟩
  refine ⟨emp, emp, ?_, fun _ z => z, fun _ z => z.elim, fun _ => ⟨.inl, fun z => z.elim id id⟩⟩
  show RepV K w H _ (.lst false (ns.map .int)) (.ref b) emp
  refine .of ?_
  unfold Rep
  refine ⟨b, ns.map V.int, rfl, ?_, ?_⟩
  · rcases hS with h | h
    · exact .inl ⟨⟨rfl, by rcases h with h | ⟨o, h⟩ <;> rw [h] <;> exact Option.some_ne_none _⟩, h⟩
    · exact .inr h
  · clear hl hc hS
    induction ns with
    | nil => exact .nil
    | cons n ns ih => exact .cons rep_int ih
end Mp

end
section
set_option Elab.async false
set_option linter.all false
set_option maxRecDepth 100000
set_option maxHeartbeats 0
/-! K1: the row's names, constants, defs (written by gen2.py). -/
namespace K68
open PySem PySem.Spec PyProof.Rows L2 Mp
def top (i : Nat) : Stmt := PySem.Challenge.pw_asktongue_k68_whole_journals_cut_and_spo.main.body.getD i (.Pass ⟨0, 0, 0, 0⟩)
def fns : List Str := [Str.ofString "is_integer", Str.ofString "is_count", Str.ofString "is_row", Str.ofString "is_int", Str.ofString "has_signs", Str.ofString "is_name", Str.ofString "is_ask_name", Str.ofString "is_sign", Str.ofString "are_two_names", Str.ofString "are_clauses", Str.ofString "is_node", Str.ofString "children_of", Str.ofString "is_within", Str.ofString "is_data_of", Str.ofString "is_telling_of", Str.ofString "word_of", Str.ofString "int_from", Str.ofString "telling_from", Str.ofString "telling_by", Str.ofString "is_record_of", Str.ofString "is_number", Str.ofString "follows", Str.ofString "are_records_of", Str.ofString "sum_of_signs", Str.ofString "parts_of", Str.ofString "line_of", Str.ofString "number_by", Str.ofString "record_by", Str.ofString "record_in", Str.ofString "journal_of", Str.ofString "read_of", Str.ofString "want_journal", Str.ofString "are_records", Str.ofString "sum_of", Str.ofString "record_line", Str.ofString "journal_text", Str.ofString "read_journal", Str.ofString "_law_pot", Str.ofString "_law_draw", Str.ofString "_law_pick", Str.ofString "_law_data", Str.ofString "_law_records", Str.ofString "_law_is_right", Str.ofString "law"]
def pars : List (List Str) := [[Str.ofString "value"], [Str.ofString "value"], [Str.ofString "value", Str.ofString "many"], [Str.ofString "value"], [Str.ofString "value", Str.ofString "first", Str.ofString "others"], [Str.ofString "value"], [Str.ofString "value"], [Str.ofString "value"], [Str.ofString "one", Str.ofString "other"], [Str.ofString "value"], [Str.ofString "value"], [Str.ofString "term"], [Str.ofString "value", Str.ofString "nodes", Str.ofString "deep"], [Str.ofString "value"], [Str.ofString "value"], [Str.ofString "telling"], [Str.ofString "text", Str.ofString "at"], [Str.ofString "text", Str.ofString "at", Str.ofString "deep"], [Str.ofString "text"], [Str.ofString "value"], [Str.ofString "value"], [Str.ofString "records", Str.ofString "record"], [Str.ofString "value"], [Str.ofString "text"], [Str.ofString "record"], [Str.ofString "number", Str.ofString "record"], [Str.ofString "text"], [Str.ofString "parts"], [Str.ofString "number", Str.ofString "line"], [Str.ofString "records"], [Str.ofString "text"], [Str.ofString "value"], [Str.ofString "value"], [Str.ofString "text"], [Str.ofString "number", Str.ofString "record"], [Str.ofString "records"], [Str.ofString "text"], [Str.ofString "script", Str.ofString "k"], [Str.ofString "pot", Str.ofString "size"], [Str.ofString "pot", Str.ofString "some"], [Str.ofString "pot", Str.ofString "deep"], [Str.ofString "pot", Str.ofString "many"], [Str.ofString "records", Str.ofString "many", Str.ofString "text"], [Str.ofString "script"]]
def consts : List (Str × Mp.D) := [(Str.ofString "LEAST_INT", Mp.D.int (-2147483648)),
  (Str.ofString "MOST_INT", Mp.D.int (2147483647)),
  (Str.ofString "MOST_SIGNS_words", Mp.D.int (12)),
  (Str.ofString "SMALL", Mp.D.str [97, 98, 99, 100, 101, 102, 103, 104, 105, 106, 107, 108, 109, 110, 111, 112, 113, 114, 115, 116, 117, 118, 119, 120, 121, 122]),
  (Str.ofString "GREAT", Mp.D.str [65, 66, 67, 68, 69, 70, 71, 72, 73, 74, 75, 76, 77, 78, 79, 80, 81, 82, 83, 84, 85, 86, 87, 88, 89, 90]),
  (Str.ofString "FIGURES", Mp.D.str [48, 49, 50, 51, 52, 53, 54, 55, 56, 57]),
  (Str.ofString "SIGNS", Mp.D.tup [Mp.D.str [43], Mp.D.str [45], Mp.D.str [42], Mp.D.str [60], Mp.D.str [61]]),
  (Str.ofString "RESERVED", Mp.D.tup [Mp.D.str [97, 115, 107], Mp.D.str [100, 111], Mp.D.str [101, 108, 115, 101], Mp.D.str [101, 110, 100], Mp.D.str [102, 97, 108, 115, 101], Mp.D.str [102, 110], Mp.D.str [102, 115, 116], Mp.D.str [104, 97, 110, 100, 108, 101], Mp.D.str [105, 102], Mp.D.str [105, 110], Mp.D.str [108, 101, 116], Mp.D.str [109, 97, 116, 99, 104], Mp.D.str [109, 111, 100, 117, 108, 101], Mp.D.str [114, 101, 99], Mp.D.str [114, 101, 116, 117, 114, 110], Mp.D.str [115, 110, 100], Mp.D.str [116, 104, 101, 110], Mp.D.str [116, 114, 117, 101], Mp.D.str [117, 115, 101], Mp.D.str [119, 105, 116, 104], Mp.D.str [105, 110, 116], Mp.D.str [98, 111, 111, 108], Mp.D.str [117, 110, 105, 116]]),
  (Str.ofString "INT", Mp.D.str [105, 110, 116]),
  (Str.ofString "BOOL", Mp.D.str [98, 111, 111, 108]),
  (Str.ofString "UNIT", Mp.D.str [117, 110, 105, 116]),
  (Str.ofString "NIL", Mp.D.str [110, 105, 108]),
  (Str.ofString "VAR", Mp.D.str [118, 97, 114]),
  (Str.ofString "FN", Mp.D.str [102, 110]),
  (Str.ofString "CALL", Mp.D.str [99, 97, 108, 108]),
  (Str.ofString "LET", Mp.D.str [108, 101, 116]),
  (Str.ofString "REC", Mp.D.str [114, 101, 99]),
  (Str.ofString "IF", Mp.D.str [105, 102]),
  (Str.ofString "OP", Mp.D.str [111, 112]),
  (Str.ofString "PAIR", Mp.D.str [112, 97, 105, 114]),
  (Str.ofString "FIRST", Mp.D.str [102, 105, 114, 115, 116]),
  (Str.ofString "SECOND", Mp.D.str [115, 101, 99, 111, 110, 100]),
  (Str.ofString "CONS", Mp.D.str [99, 111, 110, 115]),
  (Str.ofString "MATCH", Mp.D.str [109, 97, 116, 99, 104]),
  (Str.ofString "ASK", Mp.D.str [97, 115, 107]),
  (Str.ofString "HANDLE", Mp.D.str [104, 97, 110, 100, 108, 101]),
  (Str.ofString "MOST_VALUE_NODES", Mp.D.int (20000)),
  (Str.ofString "MOST_VALUE_DEEP", Mp.D.int (150)),
  (Str.ofString "CHILDREN", Mp.D.dct [([105, 110, 116], Mp.D.tup []), ([98, 111, 111, 108], Mp.D.tup []), ([117, 110, 105, 116], Mp.D.tup []), ([110, 105, 108], Mp.D.tup []), ([118, 97, 114], Mp.D.tup []), ([102, 110], Mp.D.tup [Mp.D.int (2)]), ([99, 97, 108, 108], Mp.D.tup [Mp.D.int (1), Mp.D.int (2)]), ([108, 101, 116], Mp.D.tup [Mp.D.int (2), Mp.D.int (3)]), ([114, 101, 99], Mp.D.tup [Mp.D.int (3), Mp.D.int (4)]), ([105, 102], Mp.D.tup [Mp.D.int (1), Mp.D.int (2), Mp.D.int (3)]), ([111, 112], Mp.D.tup [Mp.D.int (2), Mp.D.int (3)]), ([112, 97, 105, 114], Mp.D.tup [Mp.D.int (1), Mp.D.int (2)]), ([102, 105, 114, 115, 116], Mp.D.tup [Mp.D.int (1)]), ([115, 101, 99, 111, 110, 100], Mp.D.tup [Mp.D.int (1)]), ([99, 111, 110, 115], Mp.D.tup [Mp.D.int (1), Mp.D.int (2)]), ([109, 97, 116, 99, 104], Mp.D.tup [Mp.D.int (1), Mp.D.int (2), Mp.D.int (5)]), ([97, 115, 107], Mp.D.tup [Mp.D.int (2)])]),
  (Str.ofString "LONG", Mp.D.dct [([105, 110, 116], Mp.D.int (2)), ([98, 111, 111, 108], Mp.D.int (2)), ([117, 110, 105, 116], Mp.D.int (1)), ([110, 105, 108], Mp.D.int (1)), ([118, 97, 114], Mp.D.int (2)), ([102, 110], Mp.D.int (3)), ([99, 97, 108, 108], Mp.D.int (3)), ([108, 101, 116], Mp.D.int (4)), ([114, 101, 99], Mp.D.int (5)), ([105, 102], Mp.D.int (4)), ([111, 112], Mp.D.int (4)), ([112, 97, 105, 114], Mp.D.int (3)), ([102, 105, 114, 115, 116], Mp.D.int (2)), ([115, 101, 99, 111, 110, 100], Mp.D.int (2)), ([99, 111, 110, 115], Mp.D.int (3)), ([109, 97, 116, 99, 104], Mp.D.int (6)), ([97, 115, 107], Mp.D.int (3)), ([104, 97, 110, 100, 108, 101], Mp.D.int (5))]),
  (Str.ofString "BEGUN", Mp.D.str [98, 101, 103, 117, 110]),
  (Str.ofString "ASKED", Mp.D.str [97, 115, 107, 101, 100]),
  (Str.ofString "ANSWERED", Mp.D.str [97, 110, 115, 119, 101, 114, 101, 100]),
  (Str.ofString "KEPT", Mp.D.str [107, 101, 112, 116]),
  (Str.ofString "ENDED", Mp.D.str [101, 110, 100, 101, 100]),
  (Str.ofString "FUN", Mp.D.str [102, 117, 110]),
  (Str.ofString "UNDER", Mp.D.int (9973)),
  (Str.ofString "MOST_SIGNS_journals", Mp.D.int (200000)),
  (Str.ofString "MOST_COUNT", Mp.D.int (1000000000000)),
  (Str.ofString "MOST_DEEP", Mp.D.int (150)),
  (Str.ofString "PLAIN", Mp.D.dct [([116], Mp.D.tup [Mp.D.str [98, 111, 111, 108], Mp.D.bl true]), ([102], Mp.D.tup [Mp.D.str [98, 111, 111, 108], Mp.D.bl false]), ([117], Mp.D.tup [Mp.D.str [117, 110, 105, 116]]), ([110], Mp.D.tup [Mp.D.str [110, 105, 108]]), ([70], Mp.D.tup [Mp.D.str [102, 117, 110]])]),
  (Str.ofString "DOUBLE", Mp.D.dct [([112], Mp.D.str [112, 97, 105, 114]), ([99], Mp.D.str [99, 111, 110, 115])])]
def free : List Str := [Str.ofString "isinstance", Str.ofString "int", Str.ofString "bool", Str.ofString "str", Str.ofString "tuple", Str.ofString "list", Str.ofString "len", Str.ofString "all", Str.ofString "range", Str.ofString "enumerate", Str.ofString "abs", Str.ofString "max", Str.ofString "min", Str.ofString "divmod", Str.ofString "ord"]
def g : GI := ⟨fun x => consts.lookup x, fns, pars, free⟩
def N_is_integer : List Str := [Str.ofString "value"]
def f_is_integer : FnD := ⟨1, 1, trBody g N_is_integer (defScope (top 6)) (defBody (top 6))⟩
def N_is_count : List Str := [Str.ofString "value"]
def f_is_count : FnD := ⟨1, 1, trBody g N_is_count (defScope (top 7)) (defBody (top 7))⟩
def N_is_row : List Str := [Str.ofString "value", Str.ofString "many"]
def f_is_row : FnD := ⟨2, 2, trBody g N_is_row (defScope (top 8)) (defBody (top 8))⟩
def N_is_int : List Str := [Str.ofString "value"]
def f_is_int : FnD := ⟨1, 1, trBody g N_is_int (defScope (top 18)) (defBody (top 18))⟩
def N_has_signs : List Str := [Str.ofString "value", Str.ofString "first", Str.ofString "others", Str.ofString "sign"]
def f_has_signs : FnD := ⟨3, 4, trBody g N_has_signs (defScope (top 19)) (defBody (top 19))⟩
def N_is_name : List Str := [Str.ofString "value"]
def f_is_name : FnD := ⟨1, 1, trBody g N_is_name (defScope (top 20)) (defBody (top 20))⟩
def N_is_ask_name : List Str := [Str.ofString "value"]
def f_is_ask_name : FnD := ⟨1, 1, trBody g N_is_ask_name (defScope (top 21)) (defBody (top 21))⟩
def N_is_sign : List Str := [Str.ofString "value"]
def f_is_sign : FnD := ⟨1, 1, trBody g N_is_sign (defScope (top 22)) (defBody (top 22))⟩
def N_are_two_names : List Str := [Str.ofString "one", Str.ofString "other"]
def f_are_two_names : FnD := ⟨2, 2, trBody g N_are_two_names (defScope (top 46)) (defBody (top 46))⟩
def N_are_clauses : List Str := [Str.ofString "value", Str.ofString "names", Str.ofString "row"]
def f_are_clauses : FnD := ⟨1, 3, trBody g N_are_clauses (defScope (top 47)) (defBody (top 47))⟩
def N_is_node : List Str := [Str.ofString "value", Str.ofString "word"]
def f_is_node : FnD := ⟨1, 2, trBody g N_is_node (defScope (top 48)) (defBody (top 48))⟩
def N_children_of : List Str := [Str.ofString "term", Str.ofString "at", Str.ofString "row"]
def f_children_of : FnD := ⟨1, 3, trBody g N_children_of (defScope (top 49)) (defBody (top 49))⟩
def N_is_within : List Str := [Str.ofString "value", Str.ofString "nodes", Str.ofString "deep", Str.ofString "left", Str.ofString "many", Str.ofString "node", Str.ofString "at", Str.ofString "child"]
def f_is_within : FnD := ⟨3, 8, trBody g N_is_within (defScope (top 50)) (defBody (top 50))⟩
def N_is_data_of : List Str := [Str.ofString "value", Str.ofString "left", Str.ofString "node"]
def f_is_data_of : FnD := ⟨1, 3, trBody g N_is_data_of (defScope (top 51)) (defBody (top 51))⟩
def N_is_telling_of : List Str := [Str.ofString "value", Str.ofString "left", Str.ofString "one", Str.ofString "deep", Str.ofString "child"]
def f_is_telling_of : FnD := ⟨1, 5, trBody g N_is_telling_of (defScope (top 65)) (defBody (top 65))⟩
def N_word_of : List Str := [Str.ofString "telling", Str.ofString "sign"]
def f_word_of : FnD := ⟨1, 2, trBody g N_word_of (defScope (top 66)) (defBody (top 66))⟩
def N_int_from : List Str := [Str.ofString "text", Str.ofString "at", Str.ofString "end", Str.ofString "digits", Str.ofString "bare", Str.ofString "number", Str.ofString "sign"]
def f_int_from : FnD := ⟨2, 7, trBody g N_int_from (defScope (top 67)) (defBody (top 67))⟩
def N_telling_from : List Str := [Str.ofString "text", Str.ofString "at", Str.ofString "deep", Str.ofString "sign", Str.ofString "near", Str.ofString "far", Str.ofString "found"]
def f_telling_from : FnD := ⟨3, 7, trBody g N_telling_from (defScope (top 68)) (defBody (top 68))⟩
def N_telling_by : List Str := [Str.ofString "text", Str.ofString "found"]
def f_telling_by : FnD := ⟨1, 2, trBody g N_telling_by (defScope (top 69)) (defBody (top 69))⟩
def N_is_record_of : List Str := [Str.ofString "value"]
def f_is_record_of : FnD := ⟨1, 1, trBody g N_is_record_of (defScope (top 70)) (defBody (top 70))⟩
def N_is_number : List Str := [Str.ofString "value"]
def f_is_number : FnD := ⟨1, 1, trBody g N_is_number (defScope (top 71)) (defBody (top 71))⟩
def N_follows : List Str := [Str.ofString "records", Str.ofString "record", Str.ofString "words", Str.ofString "one"]
def f_follows : FnD := ⟨2, 4, trBody g N_follows (defScope (top 72)) (defBody (top 72))⟩
def N_are_records_of : List Str := [Str.ofString "value", Str.ofString "at", Str.ofString "one"]
def f_are_records_of : FnD := ⟨1, 3, trBody g N_are_records_of (defScope (top 73)) (defBody (top 73))⟩
def N_sum_of_signs : List Str := [Str.ofString "text", Str.ofString "sign", Str.ofString "one", Str.ofString "other"]
def f_sum_of_signs : FnD := ⟨1, 4, trBody g N_sum_of_signs (defScope (top 74)) (defBody (top 74))⟩
def N_parts_of : List Str := [Str.ofString "record", Str.ofString "number"]
def f_parts_of : FnD := ⟨1, 2, trBody g N_parts_of (defScope (top 75)) (defBody (top 75))⟩
def N_line_of : List Str := [Str.ofString "number", Str.ofString "record", Str.ofString "head"]
def f_line_of : FnD := ⟨2, 3, trBody g N_line_of (defScope (top 76)) (defBody (top 76))⟩
def N_number_by : List Str := [Str.ofString "text", Str.ofString "sign"]
def f_number_by : FnD := ⟨1, 2, trBody g N_number_by (defScope (top 77)) (defBody (top 77))⟩
def N_record_by : List Str := [Str.ofString "parts", Str.ofString "word", Str.ofString "rest", Str.ofString "found", Str.ofString "one"]
def f_record_by : FnD := ⟨1, 5, trBody g N_record_by (defScope (top 78)) (defBody (top 78))⟩
def N_record_in : List Str := [Str.ofString "number", Str.ofString "line", Str.ofString "parts", Str.ofString "head"]
def f_record_in : FnD := ⟨2, 4, trBody g N_record_in (defScope (top 79)) (defBody (top 79))⟩
def N_journal_of : List Str := [Str.ofString "records", Str.ofString "number", Str.ofString "record"]
def f_journal_of : FnD := ⟨1, 3, trBody g N_journal_of (defScope (top 80)) (defBody (top 80))⟩
def N_read_of : List Str := [Str.ofString "text", Str.ofString "end", Str.ofString "records", Str.ofString "at", Str.ofString "record"]
def f_read_of : FnD := ⟨1, 5, trBody g N_read_of (defScope (top 81)) (defBody (top 81))⟩
def N_want_journal : List Str := [Str.ofString "value"]
def f_want_journal : FnD := ⟨1, 1, trBody g N_want_journal (defScope (top 82)) (defBody (top 82))⟩
def N_are_records : List Str := [Str.ofString "value"]
def f_are_records : FnD := ⟨1, 1, trBody g N_are_records (defScope (top 83)) (defBody (top 83))⟩
def N_sum_of : List Str := [Str.ofString "text"]
def f_sum_of : FnD := ⟨1, 1, trBody g N_sum_of (defScope (top 84)) (defBody (top 84))⟩
def N_record_line : List Str := [Str.ofString "number", Str.ofString "record"]
def f_record_line : FnD := ⟨2, 2, trBody g N_record_line (defScope (top 85)) (defBody (top 85))⟩
def N_journal_text : List Str := [Str.ofString "records"]
def f_journal_text : FnD := ⟨1, 1, trBody g N_journal_text (defScope (top 86)) (defBody (top 86))⟩
def N_read_journal : List Str := [Str.ofString "text"]
def f_read_journal : FnD := ⟨1, 1, trBody g N_read_journal (defScope (top 87)) (defBody (top 87))⟩
def N__law_pot : List Str := [Str.ofString "script", Str.ofString "k", Str.ofString "cell"]
def f__law_pot : FnD := ⟨2, 3, trBody g N__law_pot (defScope (top 89)) (defBody (top 89))⟩
def N__law_draw : List Str := [Str.ofString "pot", Str.ofString "size", Str.ofString "digit"]
def f__law_draw : FnD := ⟨2, 3, trBody g N__law_draw (defScope (top 90)) (defBody (top 90))⟩
def N__law_pick : List Str := [Str.ofString "pot", Str.ofString "some"]
def f__law_pick : FnD := ⟨2, 2, trBody g N__law_pick (defScope (top 91)) (defBody (top 91))⟩
def N__law_data : List Str := [Str.ofString "pot", Str.ofString "deep", Str.ofString "way"]
def f__law_data : FnD := ⟨2, 3, trBody g N__law_data (defScope (top 92)) (defBody (top 92))⟩
def N__law_records : List Str := [Str.ofString "pot", Str.ofString "many", Str.ofString "turn", Str.ofString "found", Str.ofString "last"]
def f__law_records : FnD := ⟨2, 5, trBody g N__law_records (defScope (top 93)) (defBody (top 93))⟩
def N__law_is_right : List Str := [Str.ofString "records", Str.ofString "many", Str.ofString "text", Str.ofString "due", Str.ofString "told", Str.ofString "signs", Str.ofString "number", Str.ofString "record"]
def f__law_is_right : FnD := ⟨3, 8, trBody g N__law_is_right (defScope (top 94)) (defBody (top 94))⟩
def N_law : List Str := [Str.ofString "script", Str.ofString "pot", Str.ofString "records", Str.ofString "lines", Str.ofString "line", Str.ofString "turn", Str.ofString "late", Str.ofString "text", Str.ofString "ends", Str.ofString "at", Str.ofString "cut", Str.ofString "spot", Str.ofString "sign", Str.ofString "whole", Str.ofString "one", Str.ofString "other", Str.ofString "told", Str.ofString "signs", Str.ofString "number", Str.ofString "record", Str.ofString "end"]
def f_law : FnD := ⟨1, 21, trBody g N_law (defScope (top 95)) (defBody (top 95))⟩
def fs : List FnD := [f_is_integer, f_is_count, f_is_row, f_is_int, f_has_signs, f_is_name, f_is_ask_name, f_is_sign, f_are_two_names, f_are_clauses, f_is_node, f_children_of, f_is_within, f_is_data_of, f_is_telling_of, f_word_of, f_int_from, f_telling_from, f_telling_by, f_is_record_of, f_is_number, f_follows, f_are_records_of, f_sum_of_signs, f_parts_of, f_line_of, f_number_by, f_record_by, f_record_in, f_journal_of, f_read_of, f_want_journal, f_are_records, f_sum_of, f_record_line, f_journal_text, f_read_journal, f__law_pot, f__law_draw, f__law_pick, f__law_data, f__law_records, f__law_is_right, f_law]
end K68

end
section
set_option Elab.async false
set_option linter.all false
set_option maxRecDepth 100000
set_option maxHeartbeats 0
/-! K2: the head's facts (written by gen3.py). -/
namespace K68
open PySem PySem.Spec PyProof.Rows L2 Mp
def dd (x : Str) (i : Nat) : He.DefD := ⟨(x, none), x, x, defArgs (top i), defBody (top i), defScope (top i), [], []⟩
def fn : List He.DefD := [dd (Str.ofString "is_integer") 6, dd (Str.ofString "is_count") 7, dd (Str.ofString "is_row") 8, dd (Str.ofString "is_int") 18, dd (Str.ofString "has_signs") 19, dd (Str.ofString "is_name") 20, dd (Str.ofString "is_ask_name") 21, dd (Str.ofString "is_sign") 22, dd (Str.ofString "are_two_names") 46, dd (Str.ofString "are_clauses") 47, dd (Str.ofString "is_node") 48, dd (Str.ofString "children_of") 49, dd (Str.ofString "is_within") 50, dd (Str.ofString "is_data_of") 51, dd (Str.ofString "is_telling_of") 65, dd (Str.ofString "word_of") 66, dd (Str.ofString "int_from") 67, dd (Str.ofString "telling_from") 68, dd (Str.ofString "telling_by") 69, dd (Str.ofString "is_record_of") 70, dd (Str.ofString "is_number") 71, dd (Str.ofString "follows") 72, dd (Str.ofString "are_records_of") 73, dd (Str.ofString "sum_of_signs") 74, dd (Str.ofString "parts_of") 75, dd (Str.ofString "line_of") 76, dd (Str.ofString "number_by") 77, dd (Str.ofString "record_by") 78, dd (Str.ofString "record_in") 79, dd (Str.ofString "journal_of") 80, dd (Str.ofString "read_of") 81, dd (Str.ofString "want_journal") 82, dd (Str.ofString "are_records") 83, dd (Str.ofString "sum_of") 84, dd (Str.ofString "record_line") 85, dd (Str.ofString "journal_text") 86, dd (Str.ofString "read_journal") 87, dd (Str.ofString "_law_pot") 89, dd (Str.ofString "_law_draw") 90, dd (Str.ofString "_law_pick") 91, dd (Str.ofString "_law_data") 92, dd (Str.ofString "_law_records") 93, dd (Str.ofString "_law_is_right") 94, dd (Str.ofString "law") 95]
def fa : List He.Fa := fns.map He.Fa.glo ++ free.map He.Fa.free
abbrev R : PySem.W.OpenRow := PySem.W.OpenLaw.row PySem.Challenge.rw_asktongue_k68_whole_journals_cut_and_spo
abbrev hk : PySem.W.Hook := hookM 6 fa fn consts
def ob (s : PySem.W.SharedT) : AlM := obsMG 6 fa fn consts (HandSHeadRun.getT s)
theorem ob_eq (s : PySem.W.SharedT) : ob s = hk.obs s.abs := obsMG_eq (HandSHeadRun.getT_eq s)
def loose0 : List Str := [Str.ofString "TongueError", Str.ofString "InvalidText", Str.ofString "InvalidNumber", Str.ofString "InvalidRecord", Str.ofString "is_integer", Str.ofString "is_count", Str.ofString "is_row", Str.ofString "LEAST_INT", Str.ofString "MOST_INT", Str.ofString "MOST_SIGNS_words", Str.ofString "SMALL", Str.ofString "GREAT", Str.ofString "FIGURES", Str.ofString "SIGNS", Str.ofString "RESERVED", Str.ofString "is_int", Str.ofString "has_signs", Str.ofString "is_name", Str.ofString "is_ask_name", Str.ofString "is_sign", Str.ofString "INT", Str.ofString "BOOL", Str.ofString "UNIT", Str.ofString "NIL", Str.ofString "VAR", Str.ofString "FN", Str.ofString "CALL", Str.ofString "LET", Str.ofString "REC", Str.ofString "IF"]
def loose1 : List Str := [Str.ofString "OP", Str.ofString "PAIR", Str.ofString "FIRST", Str.ofString "SECOND", Str.ofString "CONS", Str.ofString "MATCH", Str.ofString "ASK", Str.ofString "HANDLE", Str.ofString "MOST_VALUE_NODES", Str.ofString "MOST_VALUE_DEEP", Str.ofString "CHILDREN", Str.ofString "LONG", Str.ofString "are_two_names", Str.ofString "are_clauses", Str.ofString "is_node", Str.ofString "children_of", Str.ofString "is_within", Str.ofString "is_data_of", Str.ofString "BEGUN", Str.ofString "ASKED", Str.ofString "ANSWERED", Str.ofString "KEPT", Str.ofString "ENDED", Str.ofString "FUN", Str.ofString "UNDER", Str.ofString "MOST_SIGNS_journals", Str.ofString "MOST_COUNT", Str.ofString "MOST_DEEP", Str.ofString "PLAIN", Str.ofString "DOUBLE"]
def loose2 : List Str := [Str.ofString "is_telling_of", Str.ofString "word_of", Str.ofString "int_from", Str.ofString "telling_from", Str.ofString "telling_by", Str.ofString "is_record_of", Str.ofString "is_number", Str.ofString "follows", Str.ofString "are_records_of", Str.ofString "sum_of_signs", Str.ofString "parts_of", Str.ofString "line_of", Str.ofString "number_by", Str.ofString "record_by", Str.ofString "record_in", Str.ofString "journal_of", Str.ofString "read_of", Str.ofString "want_journal", Str.ofString "are_records", Str.ofString "sum_of", Str.ofString "record_line", Str.ofString "journal_text", Str.ofString "read_journal", Str.ofString "_law_pot", Str.ofString "_law_draw", Str.ofString "_law_pick", Str.ofString "_law_data", Str.ofString "_law_records", Str.ofString "_law_is_right"]
def loose : List Str := loose0 ++ loose1 ++ loose2
theorem sc_is_integer : FnScope N_is_integer [Str.ofString "value"] (defScope (top 6)) := ⟨rfl, rfl, rfl, by decide +kernel, rfl, by decide +kernel, by decide +kernel⟩
theorem sc_is_count : FnScope N_is_count [Str.ofString "value"] (defScope (top 7)) := ⟨rfl, rfl, rfl, by decide +kernel, rfl, by decide +kernel, by decide +kernel⟩
theorem sc_is_row : FnScope N_is_row [Str.ofString "value", Str.ofString "many"] (defScope (top 8)) := ⟨rfl, rfl, rfl, by decide +kernel, rfl, by decide +kernel, by decide +kernel⟩
theorem sc_is_int : FnScope N_is_int [Str.ofString "value"] (defScope (top 18)) := ⟨rfl, rfl, rfl, by decide +kernel, rfl, by decide +kernel, by decide +kernel⟩
theorem sc_has_signs : FnScope N_has_signs [Str.ofString "value", Str.ofString "first", Str.ofString "others"] (defScope (top 19)) := ⟨rfl, rfl, rfl, by decide +kernel, rfl, by decide +kernel, by decide +kernel⟩
theorem sc_is_name : FnScope N_is_name [Str.ofString "value"] (defScope (top 20)) := ⟨rfl, rfl, rfl, by decide +kernel, rfl, by decide +kernel, by decide +kernel⟩
theorem sc_is_ask_name : FnScope N_is_ask_name [Str.ofString "value"] (defScope (top 21)) := ⟨rfl, rfl, rfl, by decide +kernel, rfl, by decide +kernel, by decide +kernel⟩
theorem sc_is_sign : FnScope N_is_sign [Str.ofString "value"] (defScope (top 22)) := ⟨rfl, rfl, rfl, by decide +kernel, rfl, by decide +kernel, by decide +kernel⟩
theorem sc_are_two_names : FnScope N_are_two_names [Str.ofString "one", Str.ofString "other"] (defScope (top 46)) := ⟨rfl, rfl, rfl, by decide +kernel, rfl, by decide +kernel, by decide +kernel⟩
theorem sc_are_clauses : FnScope N_are_clauses [Str.ofString "value"] (defScope (top 47)) := ⟨rfl, rfl, rfl, by decide +kernel, rfl, by decide +kernel, by decide +kernel⟩
theorem sc_is_node : FnScope N_is_node [Str.ofString "value"] (defScope (top 48)) := ⟨rfl, rfl, rfl, by decide +kernel, rfl, by decide +kernel, by decide +kernel⟩
theorem sc_children_of : FnScope N_children_of [Str.ofString "term"] (defScope (top 49)) := ⟨rfl, rfl, rfl, by decide +kernel, rfl, by decide +kernel, by decide +kernel⟩
theorem sc_is_within : FnScope N_is_within [Str.ofString "value", Str.ofString "nodes", Str.ofString "deep"] (defScope (top 50)) := ⟨rfl, rfl, rfl, by decide +kernel, rfl, by decide +kernel, by decide +kernel⟩
theorem sc_is_data_of : FnScope N_is_data_of [Str.ofString "value"] (defScope (top 51)) := ⟨rfl, rfl, rfl, by decide +kernel, rfl, by decide +kernel, by decide +kernel⟩
theorem sc_is_telling_of : FnScope N_is_telling_of [Str.ofString "value"] (defScope (top 65)) := ⟨rfl, rfl, rfl, by decide +kernel, rfl, by decide +kernel, by decide +kernel⟩
theorem sc_word_of : FnScope N_word_of [Str.ofString "telling"] (defScope (top 66)) := ⟨rfl, rfl, rfl, by decide +kernel, rfl, by decide +kernel, by decide +kernel⟩
theorem sc_int_from : FnScope N_int_from [Str.ofString "text", Str.ofString "at"] (defScope (top 67)) := ⟨rfl, rfl, rfl, by decide +kernel, rfl, by decide +kernel, by decide +kernel⟩
theorem sc_telling_from : FnScope N_telling_from [Str.ofString "text", Str.ofString "at", Str.ofString "deep"] (defScope (top 68)) := ⟨rfl, rfl, rfl, by decide +kernel, rfl, by decide +kernel, by decide +kernel⟩
theorem sc_telling_by : FnScope N_telling_by [Str.ofString "text"] (defScope (top 69)) := ⟨rfl, rfl, rfl, by decide +kernel, rfl, by decide +kernel, by decide +kernel⟩
theorem sc_is_record_of : FnScope N_is_record_of [Str.ofString "value"] (defScope (top 70)) := ⟨rfl, rfl, rfl, by decide +kernel, rfl, by decide +kernel, by decide +kernel⟩
theorem sc_is_number : FnScope N_is_number [Str.ofString "value"] (defScope (top 71)) := ⟨rfl, rfl, rfl, by decide +kernel, rfl, by decide +kernel, by decide +kernel⟩
theorem sc_follows : FnScope N_follows [Str.ofString "records", Str.ofString "record"] (defScope (top 72)) := ⟨rfl, rfl, rfl, by decide +kernel, rfl, by decide +kernel, by decide +kernel⟩
theorem sc_are_records_of : FnScope N_are_records_of [Str.ofString "value"] (defScope (top 73)) := ⟨rfl, rfl, rfl, by decide +kernel, rfl, by decide +kernel, by decide +kernel⟩
theorem sc_sum_of_signs : FnScope N_sum_of_signs [Str.ofString "text"] (defScope (top 74)) := ⟨rfl, rfl, rfl, by decide +kernel, rfl, by decide +kernel, by decide +kernel⟩
theorem sc_parts_of : FnScope N_parts_of [Str.ofString "record"] (defScope (top 75)) := ⟨rfl, rfl, rfl, by decide +kernel, rfl, by decide +kernel, by decide +kernel⟩
theorem sc_line_of : FnScope N_line_of [Str.ofString "number", Str.ofString "record"] (defScope (top 76)) := ⟨rfl, rfl, rfl, by decide +kernel, rfl, by decide +kernel, by decide +kernel⟩
theorem sc_number_by : FnScope N_number_by [Str.ofString "text"] (defScope (top 77)) := ⟨rfl, rfl, rfl, by decide +kernel, rfl, by decide +kernel, by decide +kernel⟩
theorem sc_record_by : FnScope N_record_by [Str.ofString "parts"] (defScope (top 78)) := ⟨rfl, rfl, rfl, by decide +kernel, rfl, by decide +kernel, by decide +kernel⟩
theorem sc_record_in : FnScope N_record_in [Str.ofString "number", Str.ofString "line"] (defScope (top 79)) := ⟨rfl, rfl, rfl, by decide +kernel, rfl, by decide +kernel, by decide +kernel⟩
theorem sc_journal_of : FnScope N_journal_of [Str.ofString "records"] (defScope (top 80)) := ⟨rfl, rfl, rfl, by decide +kernel, rfl, by decide +kernel, by decide +kernel⟩
theorem sc_read_of : FnScope N_read_of [Str.ofString "text"] (defScope (top 81)) := ⟨rfl, rfl, rfl, by decide +kernel, rfl, by decide +kernel, by decide +kernel⟩
theorem sc_want_journal : FnScope N_want_journal [Str.ofString "value"] (defScope (top 82)) := ⟨rfl, rfl, rfl, by decide +kernel, rfl, by decide +kernel, by decide +kernel⟩
theorem sc_are_records : FnScope N_are_records [Str.ofString "value"] (defScope (top 83)) := ⟨rfl, rfl, rfl, by decide +kernel, rfl, by decide +kernel, by decide +kernel⟩
theorem sc_sum_of : FnScope N_sum_of [Str.ofString "text"] (defScope (top 84)) := ⟨rfl, rfl, rfl, by decide +kernel, rfl, by decide +kernel, by decide +kernel⟩
theorem sc_record_line : FnScope N_record_line [Str.ofString "number", Str.ofString "record"] (defScope (top 85)) := ⟨rfl, rfl, rfl, by decide +kernel, rfl, by decide +kernel, by decide +kernel⟩
theorem sc_journal_text : FnScope N_journal_text [Str.ofString "records"] (defScope (top 86)) := ⟨rfl, rfl, rfl, by decide +kernel, rfl, by decide +kernel, by decide +kernel⟩
theorem sc_read_journal : FnScope N_read_journal [Str.ofString "text"] (defScope (top 87)) := ⟨rfl, rfl, rfl, by decide +kernel, rfl, by decide +kernel, by decide +kernel⟩
theorem sc__law_pot : FnScope N__law_pot [Str.ofString "script", Str.ofString "k"] (defScope (top 89)) := ⟨rfl, rfl, rfl, by decide +kernel, rfl, by decide +kernel, by decide +kernel⟩
theorem sc__law_draw : FnScope N__law_draw [Str.ofString "pot", Str.ofString "size"] (defScope (top 90)) := ⟨rfl, rfl, rfl, by decide +kernel, rfl, by decide +kernel, by decide +kernel⟩
theorem sc__law_pick : FnScope N__law_pick [Str.ofString "pot", Str.ofString "some"] (defScope (top 91)) := ⟨rfl, rfl, rfl, by decide +kernel, rfl, by decide +kernel, by decide +kernel⟩
theorem sc__law_data : FnScope N__law_data [Str.ofString "pot", Str.ofString "deep"] (defScope (top 92)) := ⟨rfl, rfl, rfl, by decide +kernel, rfl, by decide +kernel, by decide +kernel⟩
theorem sc__law_records : FnScope N__law_records [Str.ofString "pot", Str.ofString "many"] (defScope (top 93)) := ⟨rfl, rfl, rfl, by decide +kernel, rfl, by decide +kernel, by decide +kernel⟩
theorem sc__law_is_right : FnScope N__law_is_right [Str.ofString "records", Str.ofString "many", Str.ofString "text"] (defScope (top 94)) := ⟨rfl, rfl, rfl, by decide +kernel, rfl, by decide +kernel, by decide +kernel⟩
theorem sc_law : FnScope N_law [Str.ofString "script"] (defScope (top 95)) := ⟨rfl, rfl, rfl, by decide +kernel, rfl, by decide +kernel, by decide +kernel⟩
theorem defs {K : PySem.W.Frag} {w : World} {mg : Str → Option Value} {h : Heap} (X : K.In h) (G : h.Ns mainGlobals mg) (c : SaysM fa fn consts w K) : DefsOk K mg g g.fns g.pars fs :=
  And.intro (def_row (x := Str.ofString "is_integer") X G c (List.mem_of_getElem? (i := 0) rfl) (List.mem_of_getElem? (i := 0) rfl) sc_is_integer rfl (fun _ _ _ _ _ _ us hl => match us, hl with | [_], _ => rfl) (fun _ _ _ _ _ _ _ _ => rfl)) <|
  And.intro (def_row (x := Str.ofString "is_count") X G c (List.mem_of_getElem? (i := 1) rfl) (List.mem_of_getElem? (i := 1) rfl) sc_is_count rfl (fun _ _ _ _ _ _ us hl => match us, hl with | [_], _ => rfl) (fun _ _ _ _ _ _ _ _ => rfl)) <|
  And.intro (def_row (x := Str.ofString "is_row") X G c (List.mem_of_getElem? (i := 2) rfl) (List.mem_of_getElem? (i := 2) rfl) sc_is_row rfl (fun _ _ _ _ _ _ us hl => match us, hl with | [_, _], _ => rfl) (fun _ _ _ _ _ _ _ h => absurd h (by decide))) <|
  And.intro (def_row (x := Str.ofString "is_int") X G c (List.mem_of_getElem? (i := 3) rfl) (List.mem_of_getElem? (i := 3) rfl) sc_is_int rfl (fun _ _ _ _ _ _ us hl => match us, hl with | [_], _ => rfl) (fun _ _ _ _ _ _ _ _ => rfl)) <|
  And.intro (def_row (x := Str.ofString "has_signs") X G c (List.mem_of_getElem? (i := 4) rfl) (List.mem_of_getElem? (i := 4) rfl) sc_has_signs rfl (fun _ _ _ _ _ _ us hl => match us, hl with | [_, _, _], _ => rfl) (fun _ _ _ _ _ _ _ h => absurd h (by decide))) <|
  And.intro (def_row (x := Str.ofString "is_name") X G c (List.mem_of_getElem? (i := 5) rfl) (List.mem_of_getElem? (i := 5) rfl) sc_is_name rfl (fun _ _ _ _ _ _ us hl => match us, hl with | [_], _ => rfl) (fun _ _ _ _ _ _ _ _ => rfl)) <|
  And.intro (def_row (x := Str.ofString "is_ask_name") X G c (List.mem_of_getElem? (i := 6) rfl) (List.mem_of_getElem? (i := 6) rfl) sc_is_ask_name rfl (fun _ _ _ _ _ _ us hl => match us, hl with | [_], _ => rfl) (fun _ _ _ _ _ _ _ _ => rfl)) <|
  And.intro (def_row (x := Str.ofString "is_sign") X G c (List.mem_of_getElem? (i := 7) rfl) (List.mem_of_getElem? (i := 7) rfl) sc_is_sign rfl (fun _ _ _ _ _ _ us hl => match us, hl with | [_], _ => rfl) (fun _ _ _ _ _ _ _ _ => rfl)) <|
  And.intro (def_row (x := Str.ofString "are_two_names") X G c (List.mem_of_getElem? (i := 8) rfl) (List.mem_of_getElem? (i := 8) rfl) sc_are_two_names rfl (fun _ _ _ _ _ _ us hl => match us, hl with | [_, _], _ => rfl) (fun _ _ _ _ _ _ _ h => absurd h (by decide))) <|
  And.intro (def_row (x := Str.ofString "are_clauses") X G c (List.mem_of_getElem? (i := 9) rfl) (List.mem_of_getElem? (i := 9) rfl) sc_are_clauses rfl (fun _ _ _ _ _ _ us hl => match us, hl with | [_], _ => rfl) (fun _ _ _ _ _ _ _ _ => rfl)) <|
  And.intro (def_row (x := Str.ofString "is_node") X G c (List.mem_of_getElem? (i := 10) rfl) (List.mem_of_getElem? (i := 10) rfl) sc_is_node rfl (fun _ _ _ _ _ _ us hl => match us, hl with | [_], _ => rfl) (fun _ _ _ _ _ _ _ _ => rfl)) <|
  And.intro (def_row (x := Str.ofString "children_of") X G c (List.mem_of_getElem? (i := 11) rfl) (List.mem_of_getElem? (i := 11) rfl) sc_children_of rfl (fun _ _ _ _ _ _ us hl => match us, hl with | [_], _ => rfl) (fun _ _ _ _ _ _ _ _ => rfl)) <|
  And.intro (def_row (x := Str.ofString "is_within") X G c (List.mem_of_getElem? (i := 12) rfl) (List.mem_of_getElem? (i := 12) rfl) sc_is_within rfl (fun _ _ _ _ _ _ us hl => match us, hl with | [_, _, _], _ => rfl) (fun _ _ _ _ _ _ _ h => absurd h (by decide))) <|
  And.intro (def_row (x := Str.ofString "is_data_of") X G c (List.mem_of_getElem? (i := 13) rfl) (List.mem_of_getElem? (i := 13) rfl) sc_is_data_of rfl (fun _ _ _ _ _ _ us hl => match us, hl with | [_], _ => rfl) (fun _ _ _ _ _ _ _ _ => rfl)) <|
  And.intro (def_row (x := Str.ofString "is_telling_of") X G c (List.mem_of_getElem? (i := 14) rfl) (List.mem_of_getElem? (i := 14) rfl) sc_is_telling_of rfl (fun _ _ _ _ _ _ us hl => match us, hl with | [_], _ => rfl) (fun _ _ _ _ _ _ _ _ => rfl)) <|
  And.intro (def_row (x := Str.ofString "word_of") X G c (List.mem_of_getElem? (i := 15) rfl) (List.mem_of_getElem? (i := 15) rfl) sc_word_of rfl (fun _ _ _ _ _ _ us hl => match us, hl with | [_], _ => rfl) (fun _ _ _ _ _ _ _ _ => rfl)) <|
  And.intro (def_row (x := Str.ofString "int_from") X G c (List.mem_of_getElem? (i := 16) rfl) (List.mem_of_getElem? (i := 16) rfl) sc_int_from rfl (fun _ _ _ _ _ _ us hl => match us, hl with | [_, _], _ => rfl) (fun _ _ _ _ _ _ _ h => absurd h (by decide))) <|
  And.intro (def_row (x := Str.ofString "telling_from") X G c (List.mem_of_getElem? (i := 17) rfl) (List.mem_of_getElem? (i := 17) rfl) sc_telling_from rfl (fun _ _ _ _ _ _ us hl => match us, hl with | [_, _, _], _ => rfl) (fun _ _ _ _ _ _ _ h => absurd h (by decide))) <|
  And.intro (def_row (x := Str.ofString "telling_by") X G c (List.mem_of_getElem? (i := 18) rfl) (List.mem_of_getElem? (i := 18) rfl) sc_telling_by rfl (fun _ _ _ _ _ _ us hl => match us, hl with | [_], _ => rfl) (fun _ _ _ _ _ _ _ _ => rfl)) <|
  And.intro (def_row (x := Str.ofString "is_record_of") X G c (List.mem_of_getElem? (i := 19) rfl) (List.mem_of_getElem? (i := 19) rfl) sc_is_record_of rfl (fun _ _ _ _ _ _ us hl => match us, hl with | [_], _ => rfl) (fun _ _ _ _ _ _ _ _ => rfl)) <|
  And.intro (def_row (x := Str.ofString "is_number") X G c (List.mem_of_getElem? (i := 20) rfl) (List.mem_of_getElem? (i := 20) rfl) sc_is_number rfl (fun _ _ _ _ _ _ us hl => match us, hl with | [_], _ => rfl) (fun _ _ _ _ _ _ _ _ => rfl)) <|
  And.intro (def_row (x := Str.ofString "follows") X G c (List.mem_of_getElem? (i := 21) rfl) (List.mem_of_getElem? (i := 21) rfl) sc_follows rfl (fun _ _ _ _ _ _ us hl => match us, hl with | [_, _], _ => rfl) (fun _ _ _ _ _ _ _ h => absurd h (by decide))) <|
  And.intro (def_row (x := Str.ofString "are_records_of") X G c (List.mem_of_getElem? (i := 22) rfl) (List.mem_of_getElem? (i := 22) rfl) sc_are_records_of rfl (fun _ _ _ _ _ _ us hl => match us, hl with | [_], _ => rfl) (fun _ _ _ _ _ _ _ _ => rfl)) <|
  And.intro (def_row (x := Str.ofString "sum_of_signs") X G c (List.mem_of_getElem? (i := 23) rfl) (List.mem_of_getElem? (i := 23) rfl) sc_sum_of_signs rfl (fun _ _ _ _ _ _ us hl => match us, hl with | [_], _ => rfl) (fun _ _ _ _ _ _ _ _ => rfl)) <|
  And.intro (def_row (x := Str.ofString "parts_of") X G c (List.mem_of_getElem? (i := 24) rfl) (List.mem_of_getElem? (i := 24) rfl) sc_parts_of rfl (fun _ _ _ _ _ _ us hl => match us, hl with | [_], _ => rfl) (fun _ _ _ _ _ _ _ _ => rfl)) <|
  And.intro (def_row (x := Str.ofString "line_of") X G c (List.mem_of_getElem? (i := 25) rfl) (List.mem_of_getElem? (i := 25) rfl) sc_line_of rfl (fun _ _ _ _ _ _ us hl => match us, hl with | [_, _], _ => rfl) (fun _ _ _ _ _ _ _ h => absurd h (by decide))) <|
  And.intro (def_row (x := Str.ofString "number_by") X G c (List.mem_of_getElem? (i := 26) rfl) (List.mem_of_getElem? (i := 26) rfl) sc_number_by rfl (fun _ _ _ _ _ _ us hl => match us, hl with | [_], _ => rfl) (fun _ _ _ _ _ _ _ _ => rfl)) <|
  And.intro (def_row (x := Str.ofString "record_by") X G c (List.mem_of_getElem? (i := 27) rfl) (List.mem_of_getElem? (i := 27) rfl) sc_record_by rfl (fun _ _ _ _ _ _ us hl => match us, hl with | [_], _ => rfl) (fun _ _ _ _ _ _ _ _ => rfl)) <|
  And.intro (def_row (x := Str.ofString "record_in") X G c (List.mem_of_getElem? (i := 28) rfl) (List.mem_of_getElem? (i := 28) rfl) sc_record_in rfl (fun _ _ _ _ _ _ us hl => match us, hl with | [_, _], _ => rfl) (fun _ _ _ _ _ _ _ h => absurd h (by decide))) <|
  And.intro (def_row (x := Str.ofString "journal_of") X G c (List.mem_of_getElem? (i := 29) rfl) (List.mem_of_getElem? (i := 29) rfl) sc_journal_of rfl (fun _ _ _ _ _ _ us hl => match us, hl with | [_], _ => rfl) (fun _ _ _ _ _ _ _ _ => rfl)) <|
  And.intro (def_row (x := Str.ofString "read_of") X G c (List.mem_of_getElem? (i := 30) rfl) (List.mem_of_getElem? (i := 30) rfl) sc_read_of rfl (fun _ _ _ _ _ _ us hl => match us, hl with | [_], _ => rfl) (fun _ _ _ _ _ _ _ _ => rfl)) <|
  And.intro (def_row (x := Str.ofString "want_journal") X G c (List.mem_of_getElem? (i := 31) rfl) (List.mem_of_getElem? (i := 31) rfl) sc_want_journal rfl (fun _ _ _ _ _ _ us hl => match us, hl with | [_], _ => rfl) (fun _ _ _ _ _ _ _ _ => rfl)) <|
  And.intro (def_row (x := Str.ofString "are_records") X G c (List.mem_of_getElem? (i := 32) rfl) (List.mem_of_getElem? (i := 32) rfl) sc_are_records rfl (fun _ _ _ _ _ _ us hl => match us, hl with | [_], _ => rfl) (fun _ _ _ _ _ _ _ _ => rfl)) <|
  And.intro (def_row (x := Str.ofString "sum_of") X G c (List.mem_of_getElem? (i := 33) rfl) (List.mem_of_getElem? (i := 33) rfl) sc_sum_of rfl (fun _ _ _ _ _ _ us hl => match us, hl with | [_], _ => rfl) (fun _ _ _ _ _ _ _ _ => rfl)) <|
  And.intro (def_row (x := Str.ofString "record_line") X G c (List.mem_of_getElem? (i := 34) rfl) (List.mem_of_getElem? (i := 34) rfl) sc_record_line rfl (fun _ _ _ _ _ _ us hl => match us, hl with | [_, _], _ => rfl) (fun _ _ _ _ _ _ _ h => absurd h (by decide))) <|
  And.intro (def_row (x := Str.ofString "journal_text") X G c (List.mem_of_getElem? (i := 35) rfl) (List.mem_of_getElem? (i := 35) rfl) sc_journal_text rfl (fun _ _ _ _ _ _ us hl => match us, hl with | [_], _ => rfl) (fun _ _ _ _ _ _ _ _ => rfl)) <|
  And.intro (def_row (x := Str.ofString "read_journal") X G c (List.mem_of_getElem? (i := 36) rfl) (List.mem_of_getElem? (i := 36) rfl) sc_read_journal rfl (fun _ _ _ _ _ _ us hl => match us, hl with | [_], _ => rfl) (fun _ _ _ _ _ _ _ _ => rfl)) <|
  And.intro (def_row (x := Str.ofString "_law_pot") X G c (List.mem_of_getElem? (i := 37) rfl) (List.mem_of_getElem? (i := 37) rfl) sc__law_pot rfl (fun _ _ _ _ _ _ us hl => match us, hl with | [_, _], _ => rfl) (fun _ _ _ _ _ _ _ h => absurd h (by decide))) <|
  And.intro (def_row (x := Str.ofString "_law_draw") X G c (List.mem_of_getElem? (i := 38) rfl) (List.mem_of_getElem? (i := 38) rfl) sc__law_draw rfl (fun _ _ _ _ _ _ us hl => match us, hl with | [_, _], _ => rfl) (fun _ _ _ _ _ _ _ h => absurd h (by decide))) <|
  And.intro (def_row (x := Str.ofString "_law_pick") X G c (List.mem_of_getElem? (i := 39) rfl) (List.mem_of_getElem? (i := 39) rfl) sc__law_pick rfl (fun _ _ _ _ _ _ us hl => match us, hl with | [_, _], _ => rfl) (fun _ _ _ _ _ _ _ h => absurd h (by decide))) <|
  And.intro (def_row (x := Str.ofString "_law_data") X G c (List.mem_of_getElem? (i := 40) rfl) (List.mem_of_getElem? (i := 40) rfl) sc__law_data rfl (fun _ _ _ _ _ _ us hl => match us, hl with | [_, _], _ => rfl) (fun _ _ _ _ _ _ _ h => absurd h (by decide))) <|
  And.intro (def_row (x := Str.ofString "_law_records") X G c (List.mem_of_getElem? (i := 41) rfl) (List.mem_of_getElem? (i := 41) rfl) sc__law_records rfl (fun _ _ _ _ _ _ us hl => match us, hl with | [_, _], _ => rfl) (fun _ _ _ _ _ _ _ h => absurd h (by decide))) <|
  And.intro (def_row (x := Str.ofString "_law_is_right") X G c (List.mem_of_getElem? (i := 42) rfl) (List.mem_of_getElem? (i := 42) rfl) sc__law_is_right rfl (fun _ _ _ _ _ _ us hl => match us, hl with | [_, _, _], _ => rfl) (fun _ _ _ _ _ _ _ h => absurd h (by decide))) <|
  And.intro (def_row (x := Str.ofString "law") X G c (List.mem_of_getElem? (i := 43) rfl) (List.mem_of_getElem? (i := 43) rfl) sc_law rfl (fun _ _ _ _ _ _ us hl => match us, hl with | [_], _ => rfl) (fun _ _ _ _ _ _ _ _ => rfl)) <|
  trivial
theorem run (w : World) : HandSHeadRun.RunEq R (PySem.W.view R.prog [95]) hk ob 20000 loose w :=
  PySem.W.byRow2 "special-get-raises" (P := fun w => HandSHeadRun.RunEq R (PySem.W.view R.prog [95]) hk ob 20000 loose w) (fun w os => by kernel_rfl) (fun w os => by kernel_rfl) w
/-- what is left: the small language says true -/
def Main : Prop := ∀ ns : List Int, ns.length ≤ 63 → ∃ fin, callN fs 230 43 [.lst false (ns.map .int)] = some (.bl true, fin)
theorem con_mem : ∀ (x : Str) (d : Mp.D), g.con x = some d → (x, d) ∈ consts := fun x d e => PySem.mem_of_lookup e
end K68
open PySem PySem.W PySem.Calls PyProof.Rows
theorem K68.holds (main : K68.Main) : PySem.Challenge.rw_asktongue_k68_whole_journals_cut_and_spo.Holds := by
  w_on; o_law
  refine HandSHeadRun.head_any (r := OpenLaw.row PySem.Challenge.rw_asktongue_k68_whole_journals_cut_and_spo) (q := view (OpenLaw.row PySem.Challenge.rw_asktongue_k68_whole_journals_cut_and_spo).prog [95]) (H := K68.hk) (ob := K68.ob) (M := 20000) (loose := K68.loose) (d := HandSHeadRun.topDef (OpenLaw.row PySem.Challenge.rw_asktongue_k68_whole_journals_cut_and_spo).prog 95) (kwd := []) K68.ob_eq
    (by kernel_rfl) (fun s => by kernel_rfl) K68.run (by kernel_rfl) (by kernel_rfl) (by kernel_rfl) (by rfl) (by first | assumption | decide +kernel) (by decide +kernel) ⟨rfl, rfl, rfl, rfl, rfl, by decide +kernel⟩ ?hw ?hc
  case hw => w_witness2
  case hc =>
    exact Mp.law_end (n := 63) (k := 229) (x := "script") (il := 43) rfl (by decide) (by kernel_rfl) ⟨rfl, by decide, by decide⟩ K68.con_mem (fun x hx => List.mem_append.mpr (.inr (List.mem_map.mpr ⟨x, hx, rfl⟩))) (fun K w mg h X G c => K68.defs X G c) rfl rfl main

end
section
set_option Elab.async false
set_option linter.all false
set_option maxRecDepth 100000
set_option maxHeartbeats 0
/-! K3: the defs as literals (written by gen4.py). -/
namespace K68
open PySem Mp
theorem b_is_integer : f_is_integer = ⟨1, 1, MSs.cons
      (MS.ret
        (ME.and (ME.bi BI.isi (MEs.cons (ME.var 0) (MEs.cons (ME.k (D.ty "int")) MEs.nil)))
          (ME.not (ME.bi BI.isi (MEs.cons (ME.var 0) (MEs.cons (ME.k (D.ty "bool")) MEs.nil))))))
      MSs.nil⟩ := by kernel_rfl
theorem b_is_count : f_is_count = ⟨1, 1, MSs.cons
      (MS.ret
        (ME.and (ME.call 0 (MEs.cons (ME.var 0) MEs.nil)) (ME.cmp COp.ge (ME.var 0) (ME.k (D.int (0))))))
      MSs.nil⟩ := by kernel_rfl
theorem b_is_row : f_is_row = ⟨2, 2, MSs.cons
      (MS.ret
        (ME.and (ME.bi BI.isi (MEs.cons (ME.var 0) (MEs.cons (ME.k (D.ty "tuple")) MEs.nil)))
          (ME.cmp COp.eq (ME.bi BI.len (MEs.cons (ME.var 0) MEs.nil)) (ME.var 1))))
      MSs.nil⟩ := by kernel_rfl
theorem b_is_int : f_is_int = ⟨1, 1, MSs.cons
      (MS.ret
        (ME.and (ME.call 0 (MEs.cons (ME.var 0) MEs.nil))
          (ME.chain COp.le COp.le (ME.k (D.int (-2147483648))) (ME.var 0)
            (ME.k (D.int (2147483647))))))
      MSs.nil⟩ := by kernel_rfl
theorem b_has_signs : f_has_signs = ⟨3, 4, MSs.cons
      (MS.ite
        (ME.or (ME.not (ME.bi BI.isi (MEs.cons (ME.var 0) (MEs.cons (ME.k (D.ty "str")) MEs.nil))))
          (ME.not
            (ME.chain COp.le COp.le (ME.k (D.int (1))) (ME.bi BI.len (MEs.cons (ME.var 0) MEs.nil))
              (ME.k (D.int (12))))))
        (MSs.cons (MS.ret (ME.k (D.bl false))) MSs.nil) MSs.nil)
      (MSs.cons
        (MS.ret
          (ME.and (ME.cmp COp.isin (ME.ix (ME.var 0) (ME.k (D.int (0)))) (ME.var 1))
            (ME.bi BI.all
              (MEs.cons (ME.lc (MT.nm 3) (MI2.seq (ME.var 0)) MEs.nil (ME.cmp COp.isin (ME.var 3) (ME.var 2)))
                MEs.nil))))
        MSs.nil)⟩ := by kernel_rfl
theorem b_is_name : f_is_name = ⟨1, 1, MSs.cons
      (MS.ret
        (ME.and
          (ME.call 4
            (MEs.cons (ME.var 0)
              (MEs.cons
                (ME.k
                  (D.str
                    [97, 98, 99, 100, 101, 102, 103, 104, 105, 106, 107, 108, 109, 110, 111, 112, 113, 114, 115, 116,
                      117, 118, 119, 120, 121, 122]))
                (MEs.cons
                  (ME.bin BOp.add
                    (ME.bin BOp.add
                      (ME.k
                        (D.str
                          [97, 98, 99, 100, 101, 102, 103, 104, 105, 106, 107, 108, 109, 110, 111, 112, 113, 114, 115,
                            116, 117, 118, 119, 120, 121, 122]))
                      (ME.k (D.str [48, 49, 50, 51, 52, 53, 54, 55, 56, 57])))
                    (ME.k (D.str [95])))
                  MEs.nil))))
          (ME.cmp COp.notin (ME.var 0)
            (ME.k
              (D.tup
                [D.str [97, 115, 107], D.str [100, 111], D.str [101, 108, 115, 101], D.str [101, 110, 100],
                  D.str [102, 97, 108, 115, 101], D.str [102, 110], D.str [102, 115, 116],
                  D.str [104, 97, 110, 100, 108, 101], D.str [105, 102], D.str [105, 110], D.str [108, 101, 116],
                  D.str [109, 97, 116, 99, 104], D.str [109, 111, 100, 117, 108, 101], D.str [114, 101, 99],
                  D.str [114, 101, 116, 117, 114, 110], D.str [115, 110, 100], D.str [116, 104, 101, 110],
                  D.str [116, 114, 117, 101], D.str [117, 115, 101], D.str [119, 105, 116, 104], D.str [105, 110, 116],
                  D.str [98, 111, 111, 108], D.str [117, 110, 105, 116]])))))
      MSs.nil⟩ := by kernel_rfl
theorem b_is_ask_name : f_is_ask_name = ⟨1, 1, MSs.cons
      (MS.ret
        (ME.call 4
          (MEs.cons (ME.var 0)
            (MEs.cons
              (ME.k
                (D.str
                  [65, 66, 67, 68, 69, 70, 71, 72, 73, 74, 75, 76, 77, 78, 79, 80, 81, 82, 83, 84, 85, 86, 87, 88, 89,
                    90]))
              (MEs.cons
                (ME.bin BOp.add
                  (ME.bin BOp.add
                    (ME.k
                      (D.str
                        [97, 98, 99, 100, 101, 102, 103, 104, 105, 106, 107, 108, 109, 110, 111, 112, 113, 114, 115,
                          116, 117, 118, 119, 120, 121, 122]))
                    (ME.k
                      (D.str
                        [65, 66, 67, 68, 69, 70, 71, 72, 73, 74, 75, 76, 77, 78, 79, 80, 81, 82, 83, 84, 85, 86, 87, 88,
                          89, 90])))
                  (ME.k (D.str [48, 49, 50, 51, 52, 53, 54, 55, 56, 57])))
                MEs.nil)))))
      MSs.nil⟩ := by kernel_rfl
theorem b_is_sign : f_is_sign = ⟨1, 1, MSs.cons
      (MS.ret
        (ME.and (ME.bi BI.isi (MEs.cons (ME.var 0) (MEs.cons (ME.k (D.ty "str")) MEs.nil)))
          (ME.cmp COp.isin (ME.var 0) (ME.k (D.tup [D.str [43], D.str [45], D.str [42], D.str [60], D.str [61]])))))
      MSs.nil⟩ := by kernel_rfl
theorem b_are_two_names : f_are_two_names = ⟨2, 2, MSs.cons
      (MS.ret
        (ME.and (ME.call 5 (MEs.cons (ME.var 0) MEs.nil))
          (ME.and (ME.call 5 (MEs.cons (ME.var 1) MEs.nil)) (ME.cmp COp.ne (ME.var 0) (ME.var 1)))))
      MSs.nil⟩ := by kernel_rfl
theorem b_are_clauses : f_are_clauses = ⟨1, 3, MSs.cons
      (MS.ite
        (ME.or (ME.not (ME.bi BI.isi (MEs.cons (ME.var 0) (MEs.cons (ME.k (D.ty "tuple")) MEs.nil))))
          (ME.or (ME.cmp COp.eq (ME.var 0) (ME.tup MEs.nil))
            (ME.not
              (ME.bi BI.all
                (MEs.cons
                  (ME.lc (MT.nm 2) (MI2.seq (ME.var 0)) MEs.nil
                    (ME.call 2 (MEs.cons (ME.var 2) (MEs.cons (ME.k (D.int (4))) MEs.nil))))
                  MEs.nil)))))
        (MSs.cons (MS.ret (ME.k (D.bl false))) MSs.nil) MSs.nil)
      (MSs.cons
        (MS.ite
          (ME.not
            (ME.bi BI.all
              (MEs.cons
                (ME.lc (MT.nm 2) (MI2.seq (ME.var 0)) MEs.nil
                  (ME.and (ME.call 6 (MEs.cons (ME.ix (ME.var 2) (ME.k (D.int (0)))) MEs.nil))
                    (ME.call 8
                      (MEs.cons (ME.ix (ME.var 2) (ME.k (D.int (1))))
                        (MEs.cons (ME.ix (ME.var 2) (ME.k (D.int (2)))) MEs.nil)))))
                MEs.nil)))
          (MSs.cons (MS.ret (ME.k (D.bl false))) MSs.nil) MSs.nil)
        (MSs.cons
          (MS.asg (MT.nm 1)
            (ME.lc (MT.nm 2) (MI2.seq (ME.var 0)) MEs.nil (ME.ix (ME.var 2) (ME.k (D.int (0))))))
          (MSs.cons (MS.ret (ME.cmp COp.eq (ME.var 1) ME.bad)) MSs.nil)))⟩ := by kernel_rfl
theorem b_is_node : f_is_node = ⟨1, 2, MSs.cons
      (MS.ite
        (ME.or (ME.not (ME.bi BI.isi (MEs.cons (ME.var 0) (MEs.cons (ME.k (D.ty "tuple")) MEs.nil))))
          (ME.or (ME.cmp COp.eq (ME.var 0) (ME.tup MEs.nil))
            (ME.not
              (ME.bi BI.isi
                (MEs.cons (ME.ix (ME.var 0) (ME.k (D.int (0)))) (MEs.cons (ME.k (D.ty "str")) MEs.nil))))))
        (MSs.cons (MS.ret (ME.k (D.bl false))) MSs.nil) MSs.nil)
      (MSs.cons (MS.asg (MT.nm 1) (ME.ix (ME.var 0) (ME.k (D.int (0)))))
        (MSs.cons
          (MS.ite
            (ME.or
              (ME.cmp COp.notin (ME.var 1)
                (ME.k
                  (D.dct
                    [([105, 110, 116], D.int (2)), ([98, 111, 111, 108], D.int (2)),
                      ([117, 110, 105, 116], D.int (1)), ([110, 105, 108], D.int (1)),
                      ([118, 97, 114], D.int (2)), ([102, 110], D.int (3)),
                      ([99, 97, 108, 108], D.int (3)), ([108, 101, 116], D.int (4)),
                      ([114, 101, 99], D.int (5)), ([105, 102], D.int (4)),
                      ([111, 112], D.int (4)), ([112, 97, 105, 114], D.int (3)),
                      ([102, 105, 114, 115, 116], D.int (2)),
                      ([115, 101, 99, 111, 110, 100], D.int (2)), ([99, 111, 110, 115], D.int (3)),
                      ([109, 97, 116, 99, 104], D.int (6)), ([97, 115, 107], D.int (3)),
                      ([104, 97, 110, 100, 108, 101], D.int (5))])))
              (ME.cmp COp.ne (ME.bi BI.len (MEs.cons (ME.var 0) MEs.nil))
                (ME.ix
                  (ME.k
                    (D.dct
                      [([105, 110, 116], D.int (2)), ([98, 111, 111, 108], D.int (2)),
                        ([117, 110, 105, 116], D.int (1)), ([110, 105, 108], D.int (1)),
                        ([118, 97, 114], D.int (2)), ([102, 110], D.int (3)),
                        ([99, 97, 108, 108], D.int (3)), ([108, 101, 116], D.int (4)),
                        ([114, 101, 99], D.int (5)), ([105, 102], D.int (4)),
                        ([111, 112], D.int (4)), ([112, 97, 105, 114], D.int (3)),
                        ([102, 105, 114, 115, 116], D.int (2)),
                        ([115, 101, 99, 111, 110, 100], D.int (2)),
                        ([99, 111, 110, 115], D.int (3)), ([109, 97, 116, 99, 104], D.int (6)),
                        ([97, 115, 107], D.int (3)), ([104, 97, 110, 100, 108, 101], D.int (5))]))
                  (ME.var 1))))
            (MSs.cons (MS.ret (ME.k (D.bl false))) MSs.nil) MSs.nil)
          (MSs.cons
            (MS.ite (ME.cmp COp.eq (ME.var 1) (ME.k (D.str [105, 110, 116])))
              (MSs.cons (MS.ret (ME.call 3 (MEs.cons (ME.ix (ME.var 0) (ME.k (D.int (1)))) MEs.nil))) MSs.nil)
              MSs.nil)
            (MSs.cons
              (MS.ite (ME.cmp COp.eq (ME.var 1) (ME.k (D.str [98, 111, 111, 108])))
                (MSs.cons
                  (MS.ret
                    (ME.bi BI.isi
                      (MEs.cons (ME.ix (ME.var 0) (ME.k (D.int (1))))
                        (MEs.cons (ME.k (D.ty "bool")) MEs.nil))))
                  MSs.nil)
                MSs.nil)
              (MSs.cons
                (MS.ite
                  (ME.cmp COp.isin (ME.var 1)
                    (ME.tup
                      (MEs.cons (ME.k (D.str [118, 97, 114]))
                        (MEs.cons (ME.k (D.str [102, 110])) (MEs.cons (ME.k (D.str [108, 101, 116])) MEs.nil)))))
                  (MSs.cons (MS.ret (ME.call 5 (MEs.cons (ME.ix (ME.var 0) (ME.k (D.int (1)))) MEs.nil)))
                    MSs.nil)
                  MSs.nil)
                (MSs.cons
                  (MS.ite (ME.cmp COp.eq (ME.var 1) (ME.k (D.str [114, 101, 99])))
                    (MSs.cons
                      (MS.ret
                        (ME.call 8
                          (MEs.cons (ME.ix (ME.var 0) (ME.k (D.int (1))))
                            (MEs.cons (ME.ix (ME.var 0) (ME.k (D.int (2)))) MEs.nil))))
                      MSs.nil)
                    MSs.nil)
                  (MSs.cons
                    (MS.ite (ME.cmp COp.eq (ME.var 1) (ME.k (D.str [111, 112])))
                      (MSs.cons (MS.ret (ME.call 7 (MEs.cons (ME.ix (ME.var 0) (ME.k (D.int (1)))) MEs.nil)))
                        MSs.nil)
                      MSs.nil)
                    (MSs.cons
                      (MS.ite (ME.cmp COp.eq (ME.var 1) (ME.k (D.str [109, 97, 116, 99, 104])))
                        (MSs.cons
                          (MS.ret
                            (ME.call 8
                              (MEs.cons (ME.ix (ME.var 0) (ME.k (D.int (3))))
                                (MEs.cons (ME.ix (ME.var 0) (ME.k (D.int (4)))) MEs.nil))))
                          MSs.nil)
                        MSs.nil)
                      (MSs.cons
                        (MS.ite (ME.cmp COp.eq (ME.var 1) (ME.k (D.str [97, 115, 107])))
                          (MSs.cons
                            (MS.ret (ME.call 6 (MEs.cons (ME.ix (ME.var 0) (ME.k (D.int (1)))) MEs.nil)))
                            MSs.nil)
                          MSs.nil)
                        (MSs.cons
                          (MS.ret
                            (ME.or (ME.cmp COp.ne (ME.var 1) (ME.k (D.str [104, 97, 110, 100, 108, 101])))
                              (ME.and (ME.call 5 (MEs.cons (ME.ix (ME.var 0) (ME.k (D.int (2)))) MEs.nil))
                                (ME.call 9 (MEs.cons (ME.ix (ME.var 0) (ME.k (D.int (4)))) MEs.nil)))))
                          MSs.nil))))))))))⟩ := by kernel_rfl
theorem b_children_of : f_children_of = ⟨1, 3, MSs.cons
      (MS.ite
        (ME.cmp COp.eq (ME.ix (ME.var 0) (ME.k (D.int (0)))) (ME.k (D.str [104, 97, 110, 100, 108, 101])))
        (MSs.cons
          (MS.ret
            (ME.bin BOp.add
              (ME.tup
                (MEs.cons (ME.ix (ME.var 0) (ME.k (D.int (1))))
                  (MEs.cons (ME.ix (ME.var 0) (ME.k (D.int (3)))) MEs.nil)))
              (ME.bi BI.tuple
                (MEs.cons
                  (ME.lc (MT.nm 2) (MI2.seq (ME.ix (ME.var 0) (ME.k (D.int (4))))) MEs.nil
                    (ME.ix (ME.var 2) (ME.k (D.int (3)))))
                  MEs.nil))))
          MSs.nil)
        MSs.nil)
      (MSs.cons
        (MS.ret
          (ME.bi BI.tuple
            (MEs.cons
              (ME.lc (MT.nm 1)
                (MI2.seq
                  (ME.ix
                    (ME.k
                      (D.dct
                        [([105, 110, 116], D.tup []), ([98, 111, 111, 108], D.tup []), ([117, 110, 105, 116], D.tup []),
                          ([110, 105, 108], D.tup []), ([118, 97, 114], D.tup []),
                          ([102, 110], D.tup [D.int (2)]),
                          ([99, 97, 108, 108], D.tup [D.int (1), D.int (2)]),
                          ([108, 101, 116], D.tup [D.int (2), D.int (3)]),
                          ([114, 101, 99], D.tup [D.int (3), D.int (4)]),
                          ([105, 102], D.tup [D.int (1), D.int (2), D.int (3)]),
                          ([111, 112], D.tup [D.int (2), D.int (3)]),
                          ([112, 97, 105, 114], D.tup [D.int (1), D.int (2)]),
                          ([102, 105, 114, 115, 116], D.tup [D.int (1)]),
                          ([115, 101, 99, 111, 110, 100], D.tup [D.int (1)]),
                          ([99, 111, 110, 115], D.tup [D.int (1), D.int (2)]),
                          ([109, 97, 116, 99, 104],
                            D.tup [D.int (1), D.int (2), D.int (5)]),
                          ([97, 115, 107], D.tup [D.int (2)])]))
                    (ME.ix (ME.var 0) (ME.k (D.int (0))))))
                MEs.nil (ME.ix (ME.var 0) (ME.var 1)))
              MEs.nil)))
        MSs.nil)⟩ := by kernel_rfl
theorem b_is_within : f_is_within = ⟨3, 8, MSs.cons
      (MS.par [3, 4]
        (MEs.cons
          (ME.lst (MEs.cons (ME.tup (MEs.cons (ME.var 0) (MEs.cons (ME.k (D.int (1))) MEs.nil))) MEs.nil))
          (MEs.cons (ME.k (D.int (0))) MEs.nil)))
      (MSs.cons
        (MS.while (ME.cmp COp.ne (ME.var 3) (ME.lst MEs.nil))
          (MSs.cons
            (MS.asg (MT.tup (MTs.cons (MT.nm 5) (MTs.cons (MT.nm 6) MTs.nil))) (ME.meth MI.pop (ME.var 3) MEs.nil))
            (MSs.cons (MS.aug 4 BOp.add (ME.k (D.int (1))))
              (MSs.cons
                (MS.ite
                  (ME.or (ME.cmp COp.gt (ME.var 4) (ME.var 1))
                    (ME.or (ME.cmp COp.gt (ME.var 6) (ME.var 2)) (ME.not (ME.call 10 (MEs.cons (ME.var 5) MEs.nil)))))
                  (MSs.cons (MS.ret (ME.k (D.bl false))) MSs.nil) MSs.nil)
                (MSs.cons
                  (MS.exp
                    (ME.meth MI.extend (ME.var 3)
                      (MEs.cons
                        (ME.lc (MT.nm 7) (MI2.seq (ME.call 11 (MEs.cons (ME.var 5) MEs.nil))) MEs.nil
                          (ME.tup
                            (MEs.cons (ME.var 7)
                              (MEs.cons (ME.bin BOp.add (ME.var 6) (ME.k (D.int (1)))) MEs.nil))))
                        MEs.nil)))
                  MSs.nil)))))
        (MSs.cons (MS.ret (ME.k (D.bl true))) MSs.nil))⟩ := by kernel_rfl
theorem b_is_data_of : f_is_data_of = ⟨1, 3, MSs.cons
      (MS.ite
        (ME.not
          (ME.call 12
            (MEs.cons (ME.var 0)
              (MEs.cons (ME.k (D.int (20000))) (MEs.cons (ME.k (D.int (150))) MEs.nil)))))
        (MSs.cons (MS.ret (ME.k (D.bl false))) MSs.nil) MSs.nil)
      (MSs.cons (MS.asg (MT.nm 1) (ME.lst (MEs.cons (ME.var 0) MEs.nil)))
        (MSs.cons
          (MS.while (ME.cmp COp.ne (ME.var 1) (ME.lst MEs.nil))
            (MSs.cons (MS.asg (MT.nm 2) (ME.meth MI.pop (ME.var 1) MEs.nil))
              (MSs.cons
                (MS.ite
                  (ME.cmp COp.notin (ME.ix (ME.var 2) (ME.k (D.int (0))))
                    (ME.tup
                      (MEs.cons (ME.k (D.str [105, 110, 116]))
                        (MEs.cons (ME.k (D.str [98, 111, 111, 108]))
                          (MEs.cons (ME.k (D.str [117, 110, 105, 116]))
                            (MEs.cons (ME.k (D.str [110, 105, 108]))
                              (MEs.cons (ME.k (D.str [112, 97, 105, 114]))
                                (MEs.cons (ME.k (D.str [99, 111, 110, 115])) MEs.nil))))))))
                  (MSs.cons (MS.ret (ME.k (D.bl false))) MSs.nil) MSs.nil)
                (MSs.cons
                  (MS.exp (ME.meth MI.extend (ME.var 1) (MEs.cons (ME.call 11 (MEs.cons (ME.var 2) MEs.nil)) MEs.nil)))
                  MSs.nil))))
          (MSs.cons (MS.ret (ME.k (D.bl true))) MSs.nil)))⟩ := by kernel_rfl
theorem b_is_telling_of : f_is_telling_of = ⟨1, 5, MSs.cons
      (MS.asg (MT.nm 1)
        (ME.lst (MEs.cons (ME.tup (MEs.cons (ME.var 0) (MEs.cons (ME.k (D.int (1))) MEs.nil))) MEs.nil)))
      (MSs.cons
        (MS.while (ME.cmp COp.ne (ME.var 1) (ME.lst MEs.nil))
          (MSs.cons
            (MS.asg (MT.tup (MTs.cons (MT.nm 2) (MTs.cons (MT.nm 3) MTs.nil))) (ME.meth MI.pop (ME.var 1) MEs.nil))
            (MSs.cons
              (MS.ite (ME.cmp COp.gt (ME.var 3) (ME.k (D.int (150))))
                (MSs.cons (MS.ret (ME.k (D.bl false))) MSs.nil) MSs.nil)
              (MSs.cons
                (MS.ite (ME.cmp COp.ne (ME.var 2) (ME.tup (MEs.cons (ME.k (D.str [102, 117, 110])) MEs.nil)))
                  (MSs.cons
                    (MS.ite
                      (ME.or (ME.not (ME.call 10 (MEs.cons (ME.var 2) MEs.nil)))
                        (ME.cmp COp.notin (ME.ix (ME.var 2) (ME.k (D.int (0))))
                          (ME.tup
                            (MEs.cons (ME.k (D.str [105, 110, 116]))
                              (MEs.cons (ME.k (D.str [98, 111, 111, 108]))
                                (MEs.cons (ME.k (D.str [117, 110, 105, 116]))
                                  (MEs.cons (ME.k (D.str [110, 105, 108]))
                                    (MEs.cons (ME.k (D.str [112, 97, 105, 114]))
                                      (MEs.cons (ME.k (D.str [99, 111, 110, 115])) MEs.nil)))))))))
                      (MSs.cons (MS.ret (ME.k (D.bl false))) MSs.nil) MSs.nil)
                    (MSs.cons
                      (MS.exp
                        (ME.meth MI.extend (ME.var 1)
                          (MEs.cons
                            (ME.lc (MT.nm 4) (MI2.seq (ME.call 11 (MEs.cons (ME.var 2) MEs.nil))) MEs.nil
                              (ME.tup
                                (MEs.cons (ME.var 4)
                                  (MEs.cons (ME.bin BOp.add (ME.var 3) (ME.k (D.int (1)))) MEs.nil))))
                            MEs.nil)))
                      MSs.nil))
                  MSs.nil)
                MSs.nil))))
        (MSs.cons (MS.ret (ME.k (D.bl true))) MSs.nil))⟩ := by kernel_rfl
theorem b_word_of : f_word_of = ⟨1, 2, MSs.cons
      (MS.ite (ME.cmp COp.eq (ME.ix (ME.var 0) (ME.k (D.int (0)))) (ME.k (D.str [105, 110, 116])))
        (MSs.cons
          (MS.ret
            (ME.bin BOp.add
              (ME.bin BOp.add (ME.k (D.str [105]))
                (ME.bi BI.str (MEs.cons (ME.ix (ME.var 0) (ME.k (D.int (1)))) MEs.nil)))
              (ME.k (D.str [59]))))
          MSs.nil)
        MSs.nil)
      (MSs.cons
        (MS.for (MT.nm 1)
          (MI2.seq
            (ME.k
              (D.dct
                [([116], D.tup [D.str [98, 111, 111, 108], D.bl true]),
                  ([102], D.tup [D.str [98, 111, 111, 108], D.bl false]), ([117], D.tup [D.str [117, 110, 105, 116]]),
                  ([110], D.tup [D.str [110, 105, 108]]), ([70], D.tup [D.str [102, 117, 110]])])))
          (MSs.cons
            (MS.ite
              (ME.cmp COp.eq
                (ME.ix
                  (ME.k
                    (D.dct
                      [([116], D.tup [D.str [98, 111, 111, 108], D.bl true]),
                        ([102], D.tup [D.str [98, 111, 111, 108], D.bl false]),
                        ([117], D.tup [D.str [117, 110, 105, 116]]), ([110], D.tup [D.str [110, 105, 108]]),
                        ([70], D.tup [D.str [102, 117, 110]])]))
                  (ME.var 1))
                (ME.var 0))
              (MSs.cons (MS.ret (ME.var 1)) MSs.nil) MSs.nil)
            MSs.nil))
        (MSs.cons
          (MS.asg (MT.nm 1)
            (ME.ite (ME.cmp COp.eq (ME.ix (ME.var 0) (ME.k (D.int (0)))) (ME.k (D.str [112, 97, 105, 114])))
              (ME.k (D.str [112])) (ME.k (D.str [99]))))
          (MSs.cons
            (MS.ret
              (ME.bin BOp.add
                (ME.bin BOp.add (ME.var 1)
                  (ME.call 15 (MEs.cons (ME.ix (ME.var 0) (ME.k (D.int (1)))) MEs.nil)))
                (ME.call 15 (MEs.cons (ME.ix (ME.var 0) (ME.k (D.int (2)))) MEs.nil))))
            MSs.nil)))⟩ := by kernel_rfl
theorem b_int_from : f_int_from = ⟨2, 7, MSs.cons
      (MS.asg (MT.nm 2) (ME.meth MI.find (ME.var 0) (MEs.cons (ME.k (D.str [59])) (MEs.cons (ME.var 1) MEs.nil))))
      (MSs.cons
        (MS.asg (MT.nm 3)
          (ME.ite (ME.cmp COp.ge (ME.var 2) (ME.k (D.int (0)))) (ME.slice (ME.var 0) (ME.var 1) (ME.var 2))
            (ME.k (D.str []))))
        (MSs.cons
          (MS.asg (MT.nm 4)
            (ME.ite (ME.cmp COp.eq (ME.slice (ME.var 3) ME.no (ME.k (D.int (1)))) (ME.k (D.str [45])))
              (ME.slice (ME.var 3) (ME.k (D.int (1))) ME.no) (ME.var 3)))
          (MSs.cons
            (MS.ite
              (ME.or (ME.cmp COp.eq (ME.var 4) (ME.k (D.str [])))
                (ME.or
                  (ME.not
                    (ME.bi BI.all
                      (MEs.cons
                        (ME.lc (MT.nm 6) (MI2.seq (ME.var 4)) MEs.nil
                          (ME.cmp COp.isin (ME.var 6) (ME.k (D.str [48, 49, 50, 51, 52, 53, 54, 55, 56, 57]))))
                        MEs.nil)))
                  (ME.cmp COp.gt (ME.bi BI.len (MEs.cons (ME.var 4) MEs.nil)) (ME.k (D.int (10))))))
              (MSs.cons (MS.ret (ME.k D.non)) MSs.nil) MSs.nil)
            (MSs.cons (MS.asg (MT.nm 5) (ME.bi BI.int (MEs.cons (ME.var 3) MEs.nil)))
              (MSs.cons
                (MS.ret
                  (ME.ite
                    (ME.and (ME.cmp COp.eq (ME.bi BI.str (MEs.cons (ME.var 5) MEs.nil)) (ME.var 3))
                      (ME.call 3 (MEs.cons (ME.var 5) MEs.nil)))
                    (ME.tup
                      (MEs.cons (ME.var 5) (MEs.cons (ME.bin BOp.add (ME.var 2) (ME.k (D.int (1)))) MEs.nil)))
                    (ME.k D.non)))
                MSs.nil)))))⟩ := by kernel_rfl
theorem b_telling_from : f_telling_from = ⟨3, 7, MSs.cons
      (MS.asg (MT.nm 3) (ME.slice (ME.var 0) (ME.var 1) (ME.bin BOp.add (ME.var 1) (ME.k (D.int (1))))))
      (MSs.cons
        (MS.ite (ME.cmp COp.eq (ME.var 2) (ME.k (D.int (0)))) (MSs.cons (MS.ret (ME.k D.non)) MSs.nil)
          MSs.nil)
        (MSs.cons
          (MS.ite
            (ME.cmp COp.isin (ME.var 3)
              (ME.k
                (D.dct
                  [([116], D.tup [D.str [98, 111, 111, 108], D.bl true]),
                    ([102], D.tup [D.str [98, 111, 111, 108], D.bl false]), ([117], D.tup [D.str [117, 110, 105, 116]]),
                    ([110], D.tup [D.str [110, 105, 108]]), ([70], D.tup [D.str [102, 117, 110]])])))
            (MSs.cons
              (MS.ret
                (ME.tup
                  (MEs.cons
                    (ME.ix
                      (ME.k
                        (D.dct
                          [([116], D.tup [D.str [98, 111, 111, 108], D.bl true]),
                            ([102], D.tup [D.str [98, 111, 111, 108], D.bl false]),
                            ([117], D.tup [D.str [117, 110, 105, 116]]), ([110], D.tup [D.str [110, 105, 108]]),
                            ([70], D.tup [D.str [102, 117, 110]])]))
                      (ME.var 3))
                    (MEs.cons (ME.bin BOp.add (ME.var 1) (ME.k (D.int (1)))) MEs.nil))))
              MSs.nil)
            MSs.nil)
          (MSs.cons
            (MS.ite (ME.cmp COp.eq (ME.var 3) (ME.k (D.str [105])))
              (MSs.cons
                (MS.asg (MT.nm 6)
                  (ME.call 16
                    (MEs.cons (ME.var 0) (MEs.cons (ME.bin BOp.add (ME.var 1) (ME.k (D.int (1)))) MEs.nil))))
                (MSs.cons
                  (MS.ret
                    (ME.ite (ME.cmp COp.is (ME.var 6) (ME.k D.non)) (ME.k D.non)
                      (ME.tup
                        (MEs.cons
                          (ME.tup
                            (MEs.cons (ME.k (D.str [105, 110, 116]))
                              (MEs.cons (ME.ix (ME.var 6) (ME.k (D.int (0)))) MEs.nil)))
                          (MEs.cons (ME.ix (ME.var 6) (ME.k (D.int (1)))) MEs.nil)))))
                  MSs.nil))
              MSs.nil)
            (MSs.cons
              (MS.ite
                (ME.cmp COp.notin (ME.var 3)
                  (ME.k (D.dct [([112], D.str [112, 97, 105, 114]), ([99], D.str [99, 111, 110, 115])])))
                (MSs.cons (MS.ret (ME.k D.non)) MSs.nil) MSs.nil)
              (MSs.cons
                (MS.asg (MT.nm 4)
                  (ME.call 17
                    (MEs.cons (ME.var 0)
                      (MEs.cons (ME.bin BOp.add (ME.var 1) (ME.k (D.int (1))))
                        (MEs.cons (ME.bin BOp.sub (ME.var 2) (ME.k (D.int (1)))) MEs.nil)))))
                (MSs.cons
                  (MS.asg (MT.nm 5)
                    (ME.ite (ME.cmp COp.is (ME.var 4) (ME.k D.non)) (ME.k D.non)
                      (ME.call 17
                        (MEs.cons (ME.var 0)
                          (MEs.cons (ME.ix (ME.var 4) (ME.k (D.int (1))))
                            (MEs.cons (ME.bin BOp.sub (ME.var 2) (ME.k (D.int (1)))) MEs.nil))))))
                  (MSs.cons
                    (MS.ret
                      (ME.ite (ME.cmp COp.is (ME.var 5) (ME.k D.non)) (ME.k D.non)
                        (ME.tup
                          (MEs.cons
                            (ME.tup
                              (MEs.cons
                                (ME.ix
                                  (ME.k (D.dct [([112], D.str [112, 97, 105, 114]), ([99], D.str [99, 111, 110, 115])]))
                                  (ME.var 3))
                                (MEs.cons (ME.ix (ME.var 4) (ME.k (D.int (0))))
                                  (MEs.cons (ME.ix (ME.var 5) (ME.k (D.int (0)))) MEs.nil))))
                            (MEs.cons (ME.ix (ME.var 5) (ME.k (D.int (1)))) MEs.nil)))))
                    MSs.nil)))))))⟩ := by kernel_rfl
theorem b_telling_by : f_telling_by = ⟨1, 2, MSs.cons
      (MS.asg (MT.nm 1)
        (ME.call 17
          (MEs.cons (ME.var 0)
            (MEs.cons (ME.k (D.int (0))) (MEs.cons (ME.k (D.int (150))) MEs.nil)))))
      (MSs.cons
        (MS.ret
          (ME.ite
            (ME.and (ME.cmp COp.isNot (ME.var 1) (ME.k D.non))
              (ME.cmp COp.eq (ME.ix (ME.var 1) (ME.k (D.int (1))))
                (ME.bi BI.len (MEs.cons (ME.var 0) MEs.nil))))
            (ME.ix (ME.var 1) (ME.k (D.int (0)))) (ME.k D.non)))
        MSs.nil)⟩ := by kernel_rfl
theorem b_is_record_of : f_is_record_of = ⟨1, 1, MSs.cons
      (MS.ite
        (ME.or (ME.not (ME.bi BI.isi (MEs.cons (ME.var 0) (MEs.cons (ME.k (D.ty "tuple")) MEs.nil))))
          (ME.or (ME.cmp COp.eq (ME.var 0) (ME.tup MEs.nil))
            (ME.not
              (ME.bi BI.isi
                (MEs.cons (ME.ix (ME.var 0) (ME.k (D.int (0)))) (MEs.cons (ME.k (D.ty "str")) MEs.nil))))))
        (MSs.cons (MS.ret (ME.k (D.bl false))) MSs.nil) MSs.nil)
      (MSs.cons
        (MS.ite (ME.cmp COp.eq (ME.ix (ME.var 0) (ME.k (D.int (0)))) (ME.k (D.str [98, 101, 103, 117, 110])))
          (MSs.cons
            (MS.ret
              (ME.and (ME.call 2 (MEs.cons (ME.var 0) (MEs.cons (ME.k (D.int (2))) MEs.nil)))
                (ME.call 20 (MEs.cons (ME.ix (ME.var 0) (ME.k (D.int (1)))) MEs.nil))))
            MSs.nil)
          MSs.nil)
        (MSs.cons
          (MS.ite
            (ME.cmp COp.eq (ME.ix (ME.var 0) (ME.k (D.int (0)))) (ME.k (D.str [97, 115, 107, 101, 100])))
            (MSs.cons
              (MS.ret
                (ME.and (ME.call 2 (MEs.cons (ME.var 0) (MEs.cons (ME.k (D.int (3))) MEs.nil)))
                  (ME.and (ME.call 6 (MEs.cons (ME.ix (ME.var 0) (ME.k (D.int (1)))) MEs.nil))
                    (ME.call 14 (MEs.cons (ME.ix (ME.var 0) (ME.k (D.int (2)))) MEs.nil)))))
              MSs.nil)
            MSs.nil)
          (MSs.cons
            (MS.ite
              (ME.cmp COp.eq (ME.ix (ME.var 0) (ME.k (D.int (0))))
                (ME.k (D.str [97, 110, 115, 119, 101, 114, 101, 100])))
              (MSs.cons
                (MS.ret
                  (ME.and (ME.call 2 (MEs.cons (ME.var 0) (MEs.cons (ME.k (D.int (2))) MEs.nil)))
                    (ME.call 13 (MEs.cons (ME.ix (ME.var 0) (ME.k (D.int (1)))) MEs.nil))))
                MSs.nil)
              MSs.nil)
            (MSs.cons
              (MS.ite
                (ME.cmp COp.eq (ME.ix (ME.var 0) (ME.k (D.int (0)))) (ME.k (D.str [107, 101, 112, 116])))
                (MSs.cons
                  (MS.ret
                    (ME.and (ME.call 2 (MEs.cons (ME.var 0) (MEs.cons (ME.k (D.int (3))) MEs.nil)))
                      (ME.and (ME.call 20 (MEs.cons (ME.ix (ME.var 0) (ME.k (D.int (1)))) MEs.nil))
                        (ME.call 20 (MEs.cons (ME.ix (ME.var 0) (ME.k (D.int (2)))) MEs.nil)))))
                  MSs.nil)
                MSs.nil)
              (MSs.cons
                (MS.ret
                  (ME.and
                    (ME.cmp COp.eq (ME.ix (ME.var 0) (ME.k (D.int (0))))
                      (ME.k (D.str [101, 110, 100, 101, 100])))
                    (ME.and (ME.call 2 (MEs.cons (ME.var 0) (MEs.cons (ME.k (D.int (2))) MEs.nil)))
                      (ME.call 14 (MEs.cons (ME.ix (ME.var 0) (ME.k (D.int (1)))) MEs.nil)))))
                MSs.nil)))))⟩ := by kernel_rfl
theorem b_is_number : f_is_number = ⟨1, 1, MSs.cons
      (MS.ret
        (ME.and (ME.call 1 (MEs.cons (ME.var 0) MEs.nil))
          (ME.cmp COp.lt (ME.var 0) (ME.k (D.int (1000000000000))))))
      MSs.nil⟩ := by kernel_rfl
theorem b_follows : f_follows = ⟨2, 4, MSs.cons
      (MS.ite (ME.cmp COp.eq (ME.var 0) (ME.lst MEs.nil))
        (MSs.cons
          (MS.ret
            (ME.cmp COp.eq (ME.ix (ME.var 1) (ME.k (D.int (0)))) (ME.k (D.str [98, 101, 103, 117, 110]))))
          MSs.nil)
        MSs.nil)
      (MSs.cons
        (MS.asg (MT.nm 2)
          (ME.lc (MT.nm 3) (MI2.seq (ME.var 0))
            (MEs.cons
              (ME.cmp COp.ne (ME.ix (ME.var 3) (ME.k (D.int (0)))) (ME.k (D.str [107, 101, 112, 116])))
              MEs.nil)
            (ME.ix (ME.var 3) (ME.k (D.int (0))))))
        (MSs.cons
          (MS.ite
            (ME.or
              (ME.cmp COp.eq (ME.ix (ME.var 1) (ME.k (D.int (0)))) (ME.k (D.str [98, 101, 103, 117, 110])))
              (ME.cmp COp.eq (ME.var 2) (ME.lst MEs.nil)))
            (MSs.cons (MS.ret (ME.k (D.bl false))) MSs.nil) MSs.nil)
          (MSs.cons
            (MS.ite (ME.cmp COp.eq (ME.ix (ME.var 1) (ME.k (D.int (0)))) (ME.k (D.str [107, 101, 112, 116])))
              (MSs.cons (MS.ret (ME.k (D.bl true))) MSs.nil) MSs.nil)
            (MSs.cons
              (MS.ite
                (ME.cmp COp.eq (ME.ix (ME.var 1) (ME.k (D.int (0))))
                  (ME.k (D.str [97, 110, 115, 119, 101, 114, 101, 100])))
                (MSs.cons
                  (MS.ret
                    (ME.cmp COp.eq (ME.ix (ME.var 2) (ME.neg (ME.k (D.int (1)))))
                      (ME.k (D.str [97, 115, 107, 101, 100]))))
                  MSs.nil)
                MSs.nil)
              (MSs.cons
                (MS.ret
                  (ME.cmp COp.isin (ME.ix (ME.var 2) (ME.neg (ME.k (D.int (1)))))
                    (ME.tup
                      (MEs.cons (ME.k (D.str [98, 101, 103, 117, 110]))
                        (MEs.cons (ME.k (D.str [97, 110, 115, 119, 101, 114, 101, 100])) MEs.nil)))))
                MSs.nil)))))⟩ := by kernel_rfl
theorem b_are_records_of : f_are_records_of = ⟨1, 3, MSs.cons
      (MS.ite
        (ME.or
          (ME.not
            (ME.bi BI.isi
              (MEs.cons (ME.var 0)
                (MEs.cons (ME.tup (MEs.cons (ME.k (D.ty "list")) (MEs.cons (ME.k (D.ty "tuple")) MEs.nil))) MEs.nil))))
          (ME.not
            (ME.bi BI.all
              (MEs.cons (ME.lc (MT.nm 2) (MI2.seq (ME.var 0)) MEs.nil (ME.call 19 (MEs.cons (ME.var 2) MEs.nil)))
                MEs.nil))))
        (MSs.cons (MS.ret (ME.k (D.bl false))) MSs.nil) MSs.nil)
      (MSs.cons
        (MS.ret
          (ME.bi BI.all
            (MEs.cons
              (ME.lc (MT.tup (MTs.cons (MT.nm 1) (MTs.cons (MT.nm 2) MTs.nil))) (MI2.enum (ME.var 0)) MEs.nil
                (ME.call 21
                  (MEs.cons (ME.bi BI.list (MEs.cons (ME.slice (ME.var 0) ME.no (ME.var 1)) MEs.nil))
                    (MEs.cons (ME.var 2) MEs.nil))))
              MEs.nil)))
        MSs.nil)⟩ := by kernel_rfl
theorem b_sum_of_signs : f_sum_of_signs = ⟨1, 4, MSs.cons
      (MS.parT (MTs.cons (MT.nm 2) (MTs.cons (MT.nm 3) MTs.nil))
        (MEs.cons (ME.k (D.int (1))) (MEs.cons (ME.k (D.int (0))) MEs.nil)))
      (MSs.cons
        (MS.for (MT.nm 1) (MI2.seq (ME.var 0))
          (MSs.cons
            (MS.asg (MT.nm 2)
              (ME.bin BOp.mod (ME.bin BOp.add (ME.var 2) (ME.bi BI.ord (MEs.cons (ME.var 1) MEs.nil)))
                (ME.k (D.int (9973)))))
            (MSs.cons
              (MS.asg (MT.nm 3) (ME.bin BOp.mod (ME.bin BOp.add (ME.var 3) (ME.var 2)) (ME.k (D.int (9973)))))
              MSs.nil)))
        (MSs.cons (MS.ret (ME.bin BOp.add (ME.bin BOp.mul (ME.var 3) (ME.k (D.int (9973)))) (ME.var 2)))
          MSs.nil))⟩ := by kernel_rfl
theorem b_parts_of : f_parts_of = ⟨1, 2, MSs.cons
      (MS.ite
        (ME.cmp COp.isin (ME.ix (ME.var 0) (ME.k (D.int (0))))
          (ME.tup
            (MEs.cons (ME.k (D.str [98, 101, 103, 117, 110])) (MEs.cons (ME.k (D.str [107, 101, 112, 116])) MEs.nil))))
        (MSs.cons
          (MS.ret
            (ME.bin BOp.add (ME.lst (MEs.cons (ME.ix (ME.var 0) (ME.k (D.int (0)))) MEs.nil))
              (ME.lc (MT.nm 1) (MI2.seq (ME.slice (ME.var 0) (ME.k (D.int (1))) ME.no)) MEs.nil
                (ME.bi BI.str (MEs.cons (ME.var 1) MEs.nil)))))
          MSs.nil)
        MSs.nil)
      (MSs.cons
        (MS.ite (ME.cmp COp.eq (ME.ix (ME.var 0) (ME.k (D.int (0)))) (ME.k (D.str [97, 115, 107, 101, 100])))
          (MSs.cons
            (MS.ret
              (ME.lst
                (MEs.cons (ME.k (D.str [97, 115, 107, 101, 100]))
                  (MEs.cons (ME.ix (ME.var 0) (ME.k (D.int (1))))
                    (MEs.cons (ME.call 15 (MEs.cons (ME.ix (ME.var 0) (ME.k (D.int (2)))) MEs.nil))
                      MEs.nil)))))
            MSs.nil)
          MSs.nil)
        (MSs.cons
          (MS.ret
            (ME.lst
              (MEs.cons (ME.ix (ME.var 0) (ME.k (D.int (0))))
                (MEs.cons (ME.call 15 (MEs.cons (ME.ix (ME.var 0) (ME.k (D.int (1)))) MEs.nil)) MEs.nil))))
          MSs.nil))⟩ := by kernel_rfl
theorem b_line_of : f_line_of = ⟨2, 3, MSs.cons
      (MS.asg (MT.nm 2)
        (ME.meth MI.join (ME.k (D.str [32]))
          (MEs.cons
            (ME.bin BOp.add (ME.lst (MEs.cons (ME.bi BI.str (MEs.cons (ME.var 0) MEs.nil)) MEs.nil))
              (ME.call 24 (MEs.cons (ME.var 1) MEs.nil)))
            MEs.nil)))
      (MSs.cons
        (MS.ret
          (ME.bin BOp.add
            (ME.bin BOp.add (ME.bin BOp.add (ME.var 2) (ME.k (D.str [32])))
              (ME.bi BI.str (MEs.cons (ME.call 23 (MEs.cons (ME.var 2) MEs.nil)) MEs.nil)))
            (ME.k (D.str [10]))))
        MSs.nil)⟩ := by kernel_rfl
theorem b_number_by : f_number_by = ⟨1, 2, MSs.cons
      (MS.ite
        (ME.or (ME.cmp COp.eq (ME.var 0) (ME.k (D.str [])))
          (ME.or (ME.cmp COp.gt (ME.bi BI.len (MEs.cons (ME.var 0) MEs.nil)) (ME.k (D.int (12))))
            (ME.not
              (ME.bi BI.all
                (MEs.cons
                  (ME.lc (MT.nm 1) (MI2.seq (ME.var 0)) MEs.nil
                    (ME.cmp COp.isin (ME.var 1) (ME.k (D.str [48, 49, 50, 51, 52, 53, 54, 55, 56, 57]))))
                  MEs.nil)))))
        (MSs.cons (MS.ret (ME.k D.non)) MSs.nil) MSs.nil)
      (MSs.cons
        (MS.ret
          (ME.ite
            (ME.cmp COp.eq (ME.bi BI.str (MEs.cons (ME.bi BI.int (MEs.cons (ME.var 0) MEs.nil)) MEs.nil)) (ME.var 0))
            (ME.bi BI.int (MEs.cons (ME.var 0) MEs.nil)) (ME.k D.non)))
        MSs.nil)⟩ := by kernel_rfl
theorem b_record_by : f_record_by = ⟨1, 5, MSs.cons
      (MS.par [1, 2]
        (MEs.cons (ME.ix (ME.var 0) (ME.k (D.int (0))))
          (MEs.cons (ME.slice (ME.var 0) (ME.k (D.int (1))) ME.no) MEs.nil)))
      (MSs.cons
        (MS.ite
          (ME.cmp COp.isin (ME.var 1)
            (ME.tup
              (MEs.cons (ME.k (D.str [98, 101, 103, 117, 110]))
                (MEs.cons (ME.k (D.str [107, 101, 112, 116])) MEs.nil))))
          (MSs.cons
            (MS.asg (MT.nm 3)
              (ME.bin BOp.add (ME.tup (MEs.cons (ME.var 1) MEs.nil))
                (ME.bi BI.tuple
                  (MEs.cons (ME.lc (MT.nm 4) (MI2.seq (ME.var 2)) MEs.nil (ME.call 26 (MEs.cons (ME.var 4) MEs.nil)))
                    MEs.nil))))
            MSs.nil)
          (MSs.cons
            (MS.ite
              (ME.and (ME.cmp COp.eq (ME.var 1) (ME.k (D.str [97, 115, 107, 101, 100])))
                (ME.cmp COp.eq (ME.bi BI.len (MEs.cons (ME.var 2) MEs.nil)) (ME.k (D.int (2)))))
              (MSs.cons
                (MS.asg (MT.nm 3)
                  (ME.tup
                    (MEs.cons (ME.k (D.str [97, 115, 107, 101, 100]))
                      (MEs.cons (ME.ix (ME.var 2) (ME.k (D.int (0))))
                        (MEs.cons (ME.call 18 (MEs.cons (ME.ix (ME.var 2) (ME.k (D.int (1)))) MEs.nil))
                          MEs.nil)))))
                MSs.nil)
              (MSs.cons
                (MS.ite
                  (ME.and
                    (ME.cmp COp.isin (ME.var 1)
                      (ME.tup
                        (MEs.cons (ME.k (D.str [97, 110, 115, 119, 101, 114, 101, 100]))
                          (MEs.cons (ME.k (D.str [101, 110, 100, 101, 100])) MEs.nil))))
                    (ME.cmp COp.eq (ME.bi BI.len (MEs.cons (ME.var 2) MEs.nil)) (ME.k (D.int (1)))))
                  (MSs.cons
                    (MS.asg (MT.nm 3)
                      (ME.tup
                        (MEs.cons (ME.var 1)
                          (MEs.cons (ME.call 18 (MEs.cons (ME.ix (ME.var 2) (ME.k (D.int (0)))) MEs.nil))
                            MEs.nil))))
                    MSs.nil)
                  (MSs.cons (MS.ret (ME.k D.non)) MSs.nil))
                MSs.nil))
            MSs.nil))
        (MSs.cons
          (MS.ret
            (ME.ite (ME.and (ME.cmp COp.notin (ME.k D.non) (ME.var 3)) (ME.call 19 (MEs.cons (ME.var 3) MEs.nil)))
              (ME.var 3) (ME.k D.non)))
          MSs.nil))⟩ := by kernel_rfl
theorem b_record_in : f_record_in = ⟨2, 4, MSs.cons (MS.asg (MT.nm 2) (ME.meth MI.split (ME.var 1) (MEs.cons (ME.k (D.str [32])) MEs.nil)))
      (MSs.cons
        (MS.ite
          (ME.or (ME.cmp COp.lt (ME.bi BI.len (MEs.cons (ME.var 2) MEs.nil)) (ME.k (D.int (4))))
            (ME.cmp COp.ne (ME.ix (ME.var 2) (ME.k (D.int (0))))
              (ME.bi BI.str (MEs.cons (ME.var 0) MEs.nil))))
          (MSs.cons (MS.ret (ME.k D.non)) MSs.nil) MSs.nil)
        (MSs.cons
          (MS.asg (MT.nm 3)
            (ME.meth MI.join (ME.k (D.str [32]))
              (MEs.cons (ME.slice (ME.var 2) ME.no (ME.neg (ME.k (D.int (1))))) MEs.nil)))
          (MSs.cons
            (MS.ret
              (ME.ite
                (ME.cmp COp.eq (ME.ix (ME.var 2) (ME.neg (ME.k (D.int (1)))))
                  (ME.bi BI.str (MEs.cons (ME.call 23 (MEs.cons (ME.var 3) MEs.nil)) MEs.nil)))
                (ME.call 27
                  (MEs.cons (ME.slice (ME.var 2) (ME.k (D.int (1))) (ME.neg (ME.k (D.int (1)))))
                    MEs.nil))
                (ME.k D.non)))
            MSs.nil)))⟩ := by kernel_rfl
theorem b_journal_of : f_journal_of = ⟨1, 3, MSs.cons
      (MS.ret
        (ME.meth MI.join (ME.k (D.str []))
          (MEs.cons
            (ME.lc (MT.tup (MTs.cons (MT.nm 1) (MTs.cons (MT.nm 2) MTs.nil))) (MI2.enum (ME.var 0)) MEs.nil
              (ME.call 25 (MEs.cons (ME.var 1) (MEs.cons (ME.var 2) MEs.nil))))
            MEs.nil)))
      MSs.nil⟩ := by kernel_rfl
theorem b_read_of : f_read_of = ⟨1, 5, MSs.cons (MS.par [2, 3] (MEs.cons (ME.lst MEs.nil) (MEs.cons (ME.k (D.int (0))) MEs.nil)))
      (MSs.cons
        (MS.asg (MT.nm 1) (ME.meth MI.find (ME.var 0) (MEs.cons (ME.k (D.str [10])) (MEs.cons (ME.var 3) MEs.nil))))
        (MSs.cons
          (MS.while (ME.cmp COp.ge (ME.var 1) (ME.k (D.int (0))))
            (MSs.cons
              (MS.asg (MT.nm 4)
                (ME.call 28
                  (MEs.cons (ME.bi BI.len (MEs.cons (ME.var 2) MEs.nil))
                    (MEs.cons (ME.slice (ME.var 0) (ME.var 3) (ME.var 1)) MEs.nil))))
              (MSs.cons
                (MS.ite
                  (ME.or (ME.cmp COp.is (ME.var 4) (ME.k D.non))
                    (ME.not (ME.call 21 (MEs.cons (ME.var 2) (MEs.cons (ME.var 4) MEs.nil)))))
                  (MSs.cons (MS.ret (ME.tup (MEs.cons (ME.var 2) (MEs.cons (ME.var 3) MEs.nil)))) MSs.nil) MSs.nil)
                (MSs.cons (MS.exp (ME.meth MI.append (ME.var 2) (MEs.cons (ME.var 4) MEs.nil)))
                  (MSs.cons (MS.asg (MT.nm 3) (ME.bin BOp.add (ME.var 1) (ME.k (D.int (1)))))
                    (MSs.cons
                      (MS.asg (MT.nm 1)
                        (ME.meth MI.find (ME.var 0) (MEs.cons (ME.k (D.str [10])) (MEs.cons (ME.var 3) MEs.nil))))
                      MSs.nil))))))
          (MSs.cons (MS.ret (ME.tup (MEs.cons (ME.var 2) (MEs.cons (ME.var 3) MEs.nil)))) MSs.nil)))⟩ := by kernel_rfl
theorem b_want_journal : f_want_journal = ⟨1, 1, MSs.cons
      (MS.ite
        (ME.or (ME.not (ME.bi BI.isi (MEs.cons (ME.var 0) (MEs.cons (ME.k (D.ty "str")) MEs.nil))))
          (ME.cmp COp.gt (ME.bi BI.len (MEs.cons (ME.var 0) MEs.nil)) (ME.k (D.int (200000)))))
        (MSs.cons MS.bad MSs.nil) MSs.nil)
      (MSs.cons (MS.ret (ME.var 0)) MSs.nil)⟩ := by kernel_rfl
theorem b_are_records : f_are_records = ⟨1, 1, MSs.cons (MS.ret (ME.call 22 (MEs.cons (ME.var 0) MEs.nil))) MSs.nil⟩ := by kernel_rfl
theorem b_sum_of : f_sum_of = ⟨1, 1, MSs.cons (MS.ret (ME.call 23 (MEs.cons (ME.call 31 (MEs.cons (ME.var 0) MEs.nil)) MEs.nil))) MSs.nil⟩ := by kernel_rfl
theorem b_record_line : f_record_line = ⟨2, 2, MSs.cons (MS.ite (ME.not (ME.call 20 (MEs.cons (ME.var 0) MEs.nil))) (MSs.cons MS.bad MSs.nil) MSs.nil)
      (MSs.cons (MS.ite (ME.not (ME.call 19 (MEs.cons (ME.var 1) MEs.nil))) (MSs.cons MS.bad MSs.nil) MSs.nil)
        (MSs.cons (MS.ret (ME.call 25 (MEs.cons (ME.var 0) (MEs.cons (ME.var 1) MEs.nil)))) MSs.nil))⟩ := by kernel_rfl
theorem b_journal_text : f_journal_text = ⟨1, 1, MSs.cons (MS.ite (ME.not (ME.call 22 (MEs.cons (ME.var 0) MEs.nil))) (MSs.cons MS.bad MSs.nil) MSs.nil)
      (MSs.cons (MS.ret (ME.call 29 (MEs.cons (ME.var 0) MEs.nil))) MSs.nil)⟩ := by kernel_rfl
theorem b_read_journal : f_read_journal = ⟨1, 1, MSs.cons (MS.ret (ME.call 30 (MEs.cons (ME.call 31 (MEs.cons (ME.var 0) MEs.nil)) MEs.nil))) MSs.nil⟩ := by kernel_rfl
theorem b__law_pot : f__law_pot = ⟨2, 3, MSs.cons
      (MS.asg (MT.nm 2)
        (ME.ite (ME.cmp COp.lt (ME.var 1) (ME.bi BI.len (MEs.cons (ME.var 0) MEs.nil)))
          (ME.bi BI.abs (MEs.cons (ME.ix (ME.var 0) (ME.var 1)) MEs.nil))
          (ME.bin BOp.add (ME.bin BOp.mul (ME.k (D.int (19709))) (ME.var 1))
            (ME.k (D.int (21101))))))
      (MSs.cons
        (MS.ret
          (ME.lst
            (MEs.cons
              (ME.bi BI.max
                (MEs.cons (ME.k (D.int (0)))
                  (MEs.cons
                    (ME.bin BOp.sub (ME.var 2)
                      (ME.bin BOp.pow (ME.k (D.int (10))) (ME.k (D.int (18)))))
                    MEs.nil)))
              (MEs.cons
                (ME.bin BOp.add
                  (ME.bin BOp.mod
                    (ME.bi BI.int
                      (MEs.cons
                        (ME.bin BOp.add
                          (ME.bin BOp.add
                            (ME.bin BOp.mul
                              (ME.bin BOp.mod (ME.bi BI.int (MEs.cons (ME.var 2) MEs.nil))
                                (ME.k (D.int (2147483549))))
                              (ME.k (D.int (17957))))
                            (ME.bin BOp.mul (ME.k (D.int (18181))) (ME.var 1)))
                          (ME.k (D.int (907))))
                        MEs.nil))
                    (ME.k (D.int (2147483563))))
                  (ME.k (D.int (1))))
                MEs.nil))))
        MSs.nil)⟩ := by kernel_rfl
theorem b__law_draw : f__law_draw = ⟨2, 3, MSs.cons
      (MS.ite (ME.cmp COp.gt (ME.ix (ME.var 0) (ME.k (D.int (0)))) (ME.k (D.int (0))))
        (MSs.cons
          (MS.asg (MT.tup (MTs.cons (MT.sub (ME.var 0) (ME.k (D.int (0)))) (MTs.cons (MT.nm 2) MTs.nil)))
            (ME.bi BI.divmod (MEs.cons (ME.ix (ME.var 0) (ME.k (D.int (0)))) (MEs.cons (ME.var 1) MEs.nil))))
          (MSs.cons (MS.ret (ME.var 2)) MSs.nil))
        MSs.nil)
      (MSs.cons
        (MS.asg (MT.sub (ME.var 0) (ME.k (D.int (1))))
          (ME.bin BOp.mod
            (ME.bi BI.int
              (MEs.cons
                (ME.bin BOp.add
                  (ME.bin BOp.mul (ME.ix (ME.var 0) (ME.k (D.int (1)))) (ME.k (D.int (40692))))
                  (ME.k (D.int (18181))))
                MEs.nil))
            (ME.k (D.int (2147483399)))))
        (MSs.cons
          (MS.ret
            (ME.bin BOp.mod
              (ME.bi BI.int
                (MEs.cons
                  (ME.bin BOp.fdiv
                    (ME.bin BOp.mod
                      (ME.bi BI.int
                        (MEs.cons
                          (ME.bin BOp.mul (ME.ix (ME.var 0) (ME.k (D.int (1))))
                            (ME.ix (ME.var 0) (ME.k (D.int (1)))))
                          MEs.nil))
                      (ME.k (D.int (2147483323))))
                    (ME.k (D.int (19))))
                  MEs.nil))
              (ME.var 1)))
          MSs.nil))⟩ := by kernel_rfl
theorem b__law_pick : f__law_pick = ⟨2, 2, MSs.cons
      (MS.ret
        (ME.ix (ME.var 1)
          (ME.call 38 (MEs.cons (ME.var 0) (MEs.cons (ME.bi BI.len (MEs.cons (ME.var 1) MEs.nil)) MEs.nil)))))
      MSs.nil⟩ := by kernel_rfl
theorem b__law_data : f__law_data = ⟨2, 3, MSs.cons (MS.asg (MT.nm 2) (ME.call 38 (MEs.cons (ME.var 0) (MEs.cons (ME.k (D.int (8))) MEs.nil))))
      (MSs.cons
        (MS.ite
          (ME.or (ME.cmp COp.eq (ME.var 1) (ME.k (D.int (0))))
            (ME.cmp COp.lt (ME.var 2) (ME.k (D.int (5)))))
          (MSs.cons
            (MS.ret
              (ME.call 39
                (MEs.cons (ME.var 0)
                  (MEs.cons
                    (ME.lst
                      (MEs.cons
                        (ME.tup
                          (MEs.cons (ME.k (D.str [105, 110, 116]))
                            (MEs.cons
                              (ME.bin BOp.sub
                                (ME.call 38 (MEs.cons (ME.var 0) (MEs.cons (ME.k (D.int (2000))) MEs.nil)))
                                (ME.k (D.int (1000))))
                              MEs.nil)))
                        (MEs.cons
                          (ME.tup (MEs.cons (ME.k (D.str [98, 111, 111, 108])) (MEs.cons (ME.k (D.bl true)) MEs.nil)))
                          (MEs.cons (ME.tup (MEs.cons (ME.k (D.str [117, 110, 105, 116])) MEs.nil))
                            (MEs.cons (ME.tup (MEs.cons (ME.k (D.str [110, 105, 108])) MEs.nil))
                              (MEs.cons
                                (ME.tup
                                  (MEs.cons (ME.k (D.str [105, 110, 116]))
                                    (MEs.cons
                                      (ME.bin BOp.sub
                                        (ME.bin BOp.pow (ME.k (D.int (2))) (ME.k (D.int (31))))
                                        (ME.k (D.int (1))))
                                      MEs.nil)))
                                MEs.nil))))))
                    MEs.nil))))
            MSs.nil)
          MSs.nil)
        (MSs.cons
          (MS.ret
            (ME.tup
              (MEs.cons
                (ME.ite (ME.cmp COp.lt (ME.var 2) (ME.k (D.int (7)))) (ME.k (D.str [112, 97, 105, 114]))
                  (ME.k (D.str [99, 111, 110, 115])))
                (MEs.cons
                  (ME.call 40
                    (MEs.cons (ME.var 0) (MEs.cons (ME.bin BOp.sub (ME.var 1) (ME.k (D.int (1)))) MEs.nil)))
                  (MEs.cons
                    (ME.call 40
                      (MEs.cons (ME.var 0) (MEs.cons (ME.bin BOp.sub (ME.var 1) (ME.k (D.int (1)))) MEs.nil)))
                    MEs.nil)))))
          MSs.nil))⟩ := by kernel_rfl
theorem b__law_records : f__law_records = ⟨2, 5, MSs.cons
      (MS.par [3, 4]
        (MEs.cons
          (ME.lst
            (MEs.cons
              (ME.tup
                (MEs.cons (ME.k (D.str [98, 101, 103, 117, 110]))
                  (MEs.cons
                    (ME.call 38
                      (MEs.cons (ME.var 0)
                        (MEs.cons (ME.bin BOp.pow (ME.k (D.int (10))) (ME.k (D.int (8)))) MEs.nil)))
                    MEs.nil)))
              MEs.nil))
          (MEs.cons (ME.k (D.str [98, 101, 103, 117, 110])) MEs.nil)))
      (MSs.cons
        (MS.for (MT.nm 2) (MI2.range1 (ME.var 1))
          (MSs.cons
            (MS.ite
              (ME.cmp COp.eq (ME.call 38 (MEs.cons (ME.var 0) (MEs.cons (ME.k (D.int (4))) MEs.nil)))
                (ME.k (D.int (0))))
              (MSs.cons
                (MS.exp
                  (ME.meth MI.append (ME.var 3)
                    (MEs.cons
                      (ME.tup
                        (MEs.cons (ME.k (D.str [107, 101, 112, 116]))
                          (MEs.cons
                            (ME.call 38 (MEs.cons (ME.var 0) (MEs.cons (ME.k (D.int (1000))) MEs.nil)))
                            (MEs.cons
                              (ME.call 38
                                (MEs.cons (ME.var 0)
                                  (MEs.cons (ME.bin BOp.pow (ME.k (D.int (10))) (ME.k (D.int (9))))
                                    MEs.nil)))
                              MEs.nil))))
                      MEs.nil)))
                MSs.nil)
              (MSs.cons
                (MS.ite (ME.cmp COp.eq (ME.var 4) (ME.k (D.str [97, 115, 107, 101, 100])))
                  (MSs.cons
                    (MS.exp
                      (ME.meth MI.append (ME.var 3)
                        (MEs.cons
                          (ME.tup
                            (MEs.cons (ME.k (D.str [97, 110, 115, 119, 101, 114, 101, 100]))
                              (MEs.cons
                                (ME.call 40 (MEs.cons (ME.var 0) (MEs.cons (ME.k (D.int (3))) MEs.nil)))
                                MEs.nil)))
                          MEs.nil)))
                    (MSs.cons (MS.asg (MT.nm 4) (ME.k (D.str [97, 110, 115, 119, 101, 114, 101, 100]))) MSs.nil))
                  (MSs.cons
                    (MS.exp
                      (ME.meth MI.append (ME.var 3)
                        (MEs.cons
                          (ME.tup
                            (MEs.cons (ME.k (D.str [97, 115, 107, 101, 100]))
                              (MEs.cons
                                (ME.call 39
                                  (MEs.cons (ME.var 0)
                                    (MEs.cons
                                      (ME.lst
                                        (MEs.cons (ME.k (D.str [71, 101, 116]))
                                          (MEs.cons (ME.k (D.str [80, 117, 116, 50]))
                                            (MEs.cons (ME.k (D.str [70, 97, 105, 108])) MEs.nil))))
                                      MEs.nil)))
                                (MEs.cons
                                  (ME.call 40 (MEs.cons (ME.var 0) (MEs.cons (ME.k (D.int (3))) MEs.nil)))
                                  MEs.nil))))
                          MEs.nil)))
                    (MSs.cons (MS.asg (MT.nm 4) (ME.k (D.str [97, 115, 107, 101, 100]))) MSs.nil)))
                MSs.nil))
            MSs.nil))
        (MSs.cons (MS.ret (ME.var 3)) MSs.nil))⟩ := by kernel_rfl
theorem b__law_is_right : f__law_is_right = ⟨3, 8, MSs.cons
      (MS.asg (MT.tup (MTs.cons (MT.nm 4) (MTs.cons (MT.nm 5) MTs.nil))) (ME.call 36 (MEs.cons (ME.var 2) MEs.nil)))
      (MSs.cons
        (MS.asg (MT.nm 3)
          (ME.meth MI.join (ME.k (D.str []))
            (MEs.cons
              (ME.lc (MT.tup (MTs.cons (MT.nm 6) (MTs.cons (MT.nm 7) MTs.nil)))
                (MI2.enum (ME.slice (ME.var 0) ME.no (ME.var 1))) MEs.nil
                (ME.call 34 (MEs.cons (ME.var 6) (MEs.cons (ME.var 7) MEs.nil))))
              MEs.nil)))
        (MSs.cons
          (MS.ret
            (ME.and (ME.cmp COp.eq (ME.var 4) (ME.slice (ME.var 0) ME.no (ME.var 1)))
              (ME.and (ME.cmp COp.eq (ME.var 5) (ME.bi BI.len (MEs.cons (ME.var 3) MEs.nil)))
                (ME.and (ME.cmp COp.eq (ME.slice (ME.var 2) ME.no (ME.var 5)) (ME.var 3))
                  (ME.and (ME.cmp COp.is (ME.call 32 (MEs.cons (ME.var 4) MEs.nil)) (ME.k (D.bl true)))
                    (ME.cmp COp.eq (ME.call 35 (MEs.cons (ME.var 4) MEs.nil)) (ME.var 3)))))))
          MSs.nil))⟩ := by kernel_rfl
theorem b_law : f_law = ⟨1, 21, MSs.cons (MS.asg (MT.nm 1) (ME.call 37 (MEs.cons (ME.var 0) (MEs.cons (ME.k (D.int (0))) MEs.nil))))
      (MSs.cons
        (MS.asg (MT.nm 2)
          (ME.call 41
            (MEs.cons (ME.var 1)
              (MEs.cons
                (ME.call 39
                  (MEs.cons (ME.var 1)
                    (MEs.cons
                      (ME.lst
                        (MEs.cons (ME.k (D.int (2)))
                          (MEs.cons (ME.k (D.int (8))) (MEs.cons (ME.k (D.int (30))) MEs.nil))))
                      MEs.nil)))
                MEs.nil))))
        (MSs.cons
          (MS.asg (MT.nm 3)
            (ME.lc (MT.tup (MTs.cons (MT.nm 18) (MTs.cons (MT.nm 19) MTs.nil))) (MI2.enum (ME.var 2)) MEs.nil
              (ME.call 34 (MEs.cons (ME.var 18) (MEs.cons (ME.var 19) MEs.nil)))))
          (MSs.cons
            (MS.parT (MTs.cons (MT.nm 7) (MTs.cons (MT.nm 8) (MTs.cons (MT.nm 9) MTs.nil)))
              (MEs.cons (ME.call 35 (MEs.cons (ME.var 2) MEs.nil))
                (MEs.cons (ME.lst MEs.nil) (MEs.cons (ME.k (D.int (0))) MEs.nil))))
            (MSs.cons
              (MS.for (MT.nm 4) (MI2.seq (ME.var 3))
                (MSs.cons (MS.asg (MT.nm 9) (ME.bin BOp.add (ME.var 9) (ME.bi BI.len (MEs.cons (ME.var 4) MEs.nil))))
                  (MSs.cons (MS.exp (ME.meth MI.append (ME.var 8) (MEs.cons (ME.var 9) MEs.nil))) MSs.nil)))
              (MSs.cons
                (MS.ite (ME.cmp COp.ne (ME.var 7) (ME.meth MI.join (ME.k (D.str [])) (MEs.cons (ME.var 3) MEs.nil)))
                  (MSs.cons (MS.ret (ME.k (D.bl false))) MSs.nil) MSs.nil)
                (MSs.cons
                  (MS.for (MT.nm 5) (MI2.range1 (ME.k (D.int (12))))
                    (MSs.cons
                      (MS.asg (MT.nm 10)
                        (ME.call 38
                          (MEs.cons (ME.var 1)
                            (MEs.cons
                              (ME.bin BOp.add (ME.bi BI.len (MEs.cons (ME.var 7) MEs.nil)) (ME.k (D.int (1))))
                              MEs.nil))))
                      (MSs.cons
                        (MS.ite
                          (ME.not
                            (ME.call 42
                              (MEs.cons (ME.var 2)
                                (MEs.cons
                                  (ME.bi BI.len
                                    (MEs.cons
                                      (ME.lc (MT.nm 20) (MI2.seq (ME.var 8))
                                        (MEs.cons (ME.cmp COp.le (ME.var 20) (ME.var 10)) MEs.nil) (ME.var 20))
                                      MEs.nil))
                                  (MEs.cons (ME.slice (ME.var 7) ME.no (ME.var 10)) MEs.nil)))))
                          (MSs.cons (MS.ret (ME.k (D.bl false))) MSs.nil) MSs.nil)
                        (MSs.cons
                          (MS.asg (MT.nm 11)
                            (ME.call 38
                              (MEs.cons (ME.var 1) (MEs.cons (ME.bi BI.len (MEs.cons (ME.var 7) MEs.nil)) MEs.nil))))
                          (MSs.cons
                            (MS.asg (MT.nm 12)
                              (ME.call 39
                                (MEs.cons (ME.var 1)
                                  (MEs.cons
                                    (ME.lc (MT.nm 14)
                                      (MI2.seq
                                        (ME.k
                                          (D.str
                                            [48, 49, 50, 51, 52, 53, 54, 55, 56, 57, 32, 97, 98, 116, 102, 117, 110, 70,
                                              105, 112, 99, 59, 45, 88, 126])))
                                      (MEs.cons (ME.cmp COp.ne (ME.var 14) (ME.ix (ME.var 7) (ME.var 11))) MEs.nil)
                                      (ME.var 14))
                                    MEs.nil))))
                            (MSs.cons
                              (MS.asg (MT.nm 13)
                                (ME.bi BI.len
                                  (MEs.cons
                                    (ME.lc (MT.nm 20) (MI2.seq (ME.var 8))
                                      (MEs.cons (ME.cmp COp.le (ME.var 20) (ME.var 11)) MEs.nil) (ME.var 20))
                                    MEs.nil)))
                              (MSs.cons
                                (MS.ite
                                  (ME.and (ME.cmp COp.ne (ME.ix (ME.var 7) (ME.var 11)) (ME.k (D.str [10])))
                                    (ME.not
                                      (ME.call 42
                                        (MEs.cons (ME.var 2)
                                          (MEs.cons (ME.var 13)
                                            (MEs.cons
                                              (ME.bin BOp.add
                                                (ME.bin BOp.add (ME.slice (ME.var 7) ME.no (ME.var 11)) (ME.var 12))
                                                (ME.slice (ME.var 7)
                                                  (ME.bin BOp.add (ME.var 11) (ME.k (D.int (1)))) ME.no))
                                              MEs.nil))))))
                                  (MSs.cons (MS.ret (ME.k (D.bl false))) MSs.nil) MSs.nil)
                                (MSs.cons
                                  (MS.asg (MT.tup (MTs.cons (MT.nm 16) (MTs.cons (MT.nm 17) MTs.nil)))
                                    (ME.call 36
                                      (MEs.cons
                                        (ME.bin BOp.add (ME.slice (ME.var 7) ME.no (ME.var 11))
                                          (ME.slice (ME.var 7) (ME.bin BOp.add (ME.var 11) (ME.k (D.int (1))))
                                            ME.no))
                                        MEs.nil)))
                                  (MSs.cons
                                    (MS.ite
                                      (ME.or
                                        (ME.cmp COp.ne (ME.slice (ME.var 16) ME.no (ME.var 13))
                                          (ME.slice (ME.var 2) ME.no (ME.var 13)))
                                        (ME.cmp COp.gt (ME.bi BI.len (MEs.cons (ME.var 16) MEs.nil)) (ME.var 13)))
                                      (MSs.cons (MS.ret (ME.k (D.bl false))) MSs.nil) MSs.nil)
                                    (MSs.cons
                                      (MS.asg (MT.tup (MTs.cons (MT.nm 16) (MTs.cons (MT.nm 17) MTs.nil)))
                                        (ME.call 36
                                          (MEs.cons
                                            (ME.bin BOp.add
                                              (ME.bin BOp.add (ME.slice (ME.var 7) ME.no (ME.var 11)) (ME.var 12))
                                              (ME.slice (ME.var 7) (ME.var 11) ME.no))
                                            MEs.nil)))
                                      (MSs.cons
                                        (MS.ite
                                          (ME.cmp COp.ne (ME.slice (ME.var 16) ME.no (ME.var 13))
                                            (ME.slice (ME.var 2) ME.no (ME.var 13)))
                                          (MSs.cons (MS.ret (ME.k (D.bl false))) MSs.nil) MSs.nil)
                                        MSs.nil)))))))))))
                  (MSs.cons
                    (MS.parT (MTs.cons (MT.nm 14) (MTs.cons (MT.nm 15) MTs.nil))
                      (MEs.cons
                        (ME.call 38
                          (MEs.cons (ME.var 1) (MEs.cons (ME.bi BI.len (MEs.cons (ME.var 3) MEs.nil)) MEs.nil)))
                        (MEs.cons
                          (ME.call 38
                            (MEs.cons (ME.var 1) (MEs.cons (ME.bi BI.len (MEs.cons (ME.var 3) MEs.nil)) MEs.nil)))
                          MEs.nil)))
                    (MSs.cons
                      (MS.ite
                        (ME.and (ME.cmp COp.ne (ME.var 14) (ME.var 15))
                          (ME.not
                            (ME.call 42
                              (MEs.cons (ME.var 2)
                                (MEs.cons (ME.bi BI.min (MEs.cons (ME.var 14) (MEs.cons (ME.var 15) MEs.nil)))
                                  (MEs.cons
                                    (ME.meth MI.join (ME.k (D.str []))
                                      (MEs.cons
                                        (ME.lc (MT.tup (MTs.cons (MT.nm 18) (MTs.cons (MT.nm 4) MTs.nil)))
                                          (MI2.enum (ME.var 3)) MEs.nil
                                          (ME.ite (ME.cmp COp.eq (ME.var 18) (ME.var 14)) (ME.ix (ME.var 3) (ME.var 15))
                                            (ME.ite (ME.cmp COp.eq (ME.var 18) (ME.var 15))
                                              (ME.ix (ME.var 3) (ME.var 14)) (ME.var 4))))
                                        MEs.nil))
                                    MEs.nil))))))
                        (MSs.cons (MS.ret (ME.k (D.bl false))) MSs.nil) MSs.nil)
                      (MSs.cons
                        (MS.ite
                          (ME.or
                            (ME.not
                              (ME.call 42
                                (MEs.cons (ME.var 2)
                                  (MEs.cons (ME.bin BOp.add (ME.var 14) (ME.k (D.int (1))))
                                    (MEs.cons
                                      (ME.meth MI.join (ME.k (D.str []))
                                        (MEs.cons
                                          (ME.bin BOp.add
                                            (ME.slice (ME.var 3) ME.no
                                              (ME.bin BOp.add (ME.var 14) (ME.k (D.int (1)))))
                                            (ME.slice (ME.var 3) (ME.var 14) ME.no))
                                          MEs.nil))
                                      MEs.nil)))))
                            (ME.not
                              (ME.call 42
                                (MEs.cons (ME.var 2)
                                  (MEs.cons (ME.var 14)
                                    (MEs.cons
                                      (ME.meth MI.join (ME.k (D.str []))
                                        (MEs.cons
                                          (ME.bin BOp.add (ME.slice (ME.var 3) ME.no (ME.var 14))
                                            (ME.slice (ME.var 3)
                                              (ME.bin BOp.add (ME.var 14) (ME.k (D.int (1)))) ME.no))
                                          MEs.nil))
                                      MEs.nil))))))
                          (MSs.cons (MS.ret (ME.k (D.bl false))) MSs.nil) MSs.nil)
                        (MSs.cons
                          (MS.asg (MT.nm 6)
                            (ME.call 34
                              (MEs.cons (ME.bi BI.len (MEs.cons (ME.var 2) MEs.nil))
                                (MEs.cons
                                  (ME.tup
                                    (MEs.cons (ME.k (D.str [98, 101, 103, 117, 110]))
                                      (MEs.cons (ME.k (D.int (5))) MEs.nil)))
                                  MEs.nil))))
                          (MSs.cons
                            (MS.ite
                              (ME.or
                                (ME.not
                                  (ME.call 42
                                    (MEs.cons (ME.var 2)
                                      (MEs.cons (ME.bi BI.len (MEs.cons (ME.var 2) MEs.nil))
                                        (MEs.cons (ME.bin BOp.add (ME.var 7) (ME.var 6)) MEs.nil)))))
                                (ME.not
                                  (ME.call 42
                                    (MEs.cons (ME.var 2)
                                      (MEs.cons (ME.bi BI.len (MEs.cons (ME.var 2) MEs.nil))
                                        (MEs.cons
                                          (ME.bin BOp.add (ME.bin BOp.add (ME.var 7) (ME.k (D.str [10]))) (ME.var 6))
                                          MEs.nil))))))
                              (MSs.cons (MS.ret (ME.k (D.bl false))) MSs.nil) MSs.nil)
                            (MSs.cons
                              (MS.ret
                                (ME.and
                                  (ME.cmp COp.eq (ME.call 33 (MEs.cons (ME.k (D.str [])) MEs.nil))
                                    (ME.k (D.int (1))))
                                  (ME.cmp COp.eq (ME.call 36 (MEs.cons (ME.k (D.str [10])) MEs.nil))
                                    (ME.tup
                                      (MEs.cons (ME.lst MEs.nil) (MEs.cons (ME.k (D.int (0))) MEs.nil))))))
                              MSs.nil))))))))))))⟩ := by kernel_rfl
end K68

end
section
set_option Elab.async false
set_option linter.all false
set_option maxRecDepth 100000
/-! K4: what the small functions of the program say. -/
namespace K68
open PySem Mp
abbrev DV := Mp.D
abbrev Ans := DV × List (Option DV)
theorem call_of {k i : Nat} {f : FnD} {ds : List DV} {z : Ans} (h : fs[i]? = some f) (r : runD (callN fs k) f ds = some z) : callN fs (k + 1) i ds = some z := by
  unfold callN
  rw [h]
  exact r
theorem frz_non : frz .non = .non := rfl
theorem frz_bl {b : Bool} : frz (.bl b) = .bl b := rfl
theorem frz_int {b : Int} : frz (.int b) = .int b := rfl
theorem frz_str {b : Txt} : frz (.str b) = .str b := rfl
theorem frz_ty {b : String} : frz (.ty b) = .ty b := rfl
theorem frz_tup {b : List DV} : frz (.tup b) = .tup b := rfl
theorem frz_lst {o : Bool} {b : List DV} : frz (.lst o b) = .lst false b := rfl
theorem frz_dct {b : List (Txt × DV)} : frz (.dct b) = .dct b := rfl
theorem isOwn_non : isOwn .non = false := rfl
theorem isOwn_bl {b : Bool} : isOwn (.bl b) = false := rfl
theorem isOwn_int {b : Int} : isOwn (.int b) = false := rfl
theorem isOwn_str {b : Txt} : isOwn (.str b) = false := rfl
theorem isOwn_ty {b : String} : isOwn (.ty b) = false := rfl
theorem isOwn_tup {b : List DV} : isOwn (.tup b) = false := rfl
theorem isOwn_lst {o : Bool} {b : List DV} : isOwn (.lst o b) = o := by cases o <;> rfl
theorem isOwn_dct {b : List (Txt × DV)} : isOwn (.dct b) = false := rfl
theorem binop_addI {i j : Int} : binop .add (.int i) (.int j) = some (.int (i + j)) := rfl
theorem binop_addS {a b : Txt} : binop .add (.str a) (.str b) = if a.length + b.length ≤ 16777216 then some (.str (a ++ b)) else none := by simp [binop, small]
theorem binop_addL {o p : Bool} {a b : List DV} : binop .add (.lst o a) (.lst p b) = if a.length + b.length ≤ 16777216 then some (.lst true (a ++ b)) else none := by simp [binop, small]
theorem binop_addT {a b : List DV} : binop .add (.tup a) (.tup b) = if a.length + b.length ≤ 16777216 then some (.tup (a ++ b)) else none := by simp [binop, small]
theorem binop_sub {i j : Int} : binop .sub (.int i) (.int j) = some (.int (i - j)) := rfl
theorem binop_mulR {i j : Int} (h : 0 ≤ j ∧ j < 4611686018427387904) : binop .mul (.int i) (.int j) = some (.int (i * j)) := by
  unfold binop
  exact if_pos (Or.inr ⟨by omega, by omega⟩)
theorem binop_mod {i j : Int} (h : 0 < j) : binop .mod (.int i) (.int j) = some (.int (i % j)) := by
  unfold binop
  exact if_pos h
theorem binop_fdiv {i j : Int} (h : 0 < j ∧ j < 1073741824) : binop .fdiv (.int i) (.int j) = some (.int (i / j)) := by
  unfold binop
  exact if_pos h
/-! equality -/
def okT (t : Txt) : Bool := t.all fun c => decide (c < 1114112)
theorem okT_eq (t : Txt) : PyData.strOk (st t) = okT t := by
  simp [PyData.strOk, st, okT]
mutual
/-- what can be compared: its depth at most n -/
def okD : Nat → DV → Bool
  | _, .non => true
  | _, .bl _ => true
  | _, .int _ => true
  | _, .str t => okT t
  | n + 1, .tup xs => okDs n xs
  | n + 1, .lst _ xs => okDs n xs
  | _, _ => false
def okDs : Nat → List DV → Bool
  | _, [] => true
  | n, x :: xs => okD n x && okDs n xs
end
mutual
theorem okD_py : ∀ (n : Nat) (d : DV), okD n d = true → ∃ p, py d = some p ∧ p.canLay0 = true ∧ p.depth ≤ n ∧ PyData.eqv p p = true
  | n, .non, h => ⟨.none, rfl, by simp [PyData.canLay0], by simp [PyData.depth], by simp [PyData.eqv]⟩
  | n, .bl b, h => ⟨.bool b, rfl, by simp [PyData.canLay0], by simp [PyData.depth], by simp [PyData.eqv]⟩
  | n, .int i, h => ⟨.int i, rfl, by simp [PyData.canLay0], by simp [PyData.depth], by simp [PyData.eqv]⟩
  | n, .str t, h => by
    have h' : okT t = true := by
      unfold okD at h
      exact h
    exact ⟨.str (st t), rfl, by simp only [PyData.canLay0]; rw [okT_eq]; exact h', by simp [PyData.depth], by simp [PyData.eqv]⟩
  | 0, .tup xs, h => by unfold okD at h; cases h
  | 0, .lst o xs, h => by unfold okD at h; cases h
  | n, .ty _, h => by unfold okD at h; cases h
  | n, .dct _, h => by unfold okD at h; cases h
  | n + 1, .tup xs, h => by
    have h' : okDs n xs = true := by
      unfold okD at h
      exact h
    obtain ⟨ps, h1, h2, h3, h4⟩ := okDs_py n xs h'
    exact ⟨.tuple ps, by simp [py, h1], by simpa [PyData.canLay0] using h2, by simpa [PyData.depth] using h3, by simpa [PyData.eqv] using h4⟩
  | n + 1, .lst o xs, h => by
    have h' : okDs n xs = true := by
      unfold okD at h
      exact h
    obtain ⟨ps, h1, h2, h3, h4⟩ := okDs_py n xs h'
    exact ⟨.list ps, by simp [py, h1], by simpa [PyData.canLay0] using h2, by simpa [PyData.depth] using h3, by simpa [PyData.eqv] using h4⟩
theorem okDs_py : ∀ (n : Nat) (xs : List DV), okDs n xs = true → ∃ ps, pys xs = some ps ∧ PyData.canLayAll0 ps = true ∧ PyData.depthAll ps ≤ n ∧ PyData.eqvAll ps ps = true
  | n, [], h => ⟨[], rfl, by simp [PyData.canLayAll0], by simp [PyData.depthAll], by simp [PyData.eqvAll]⟩
  | n, x :: xs, h => by
    unfold okDs at h
    obtain ⟨h1, h2⟩ := Bool.and_eq_true_iff.mp h
    obtain ⟨p, a1, a2, a3, a4⟩ := okD_py n x h1
    obtain ⟨ps, b1, b2, b3, b4⟩ := okDs_py n xs h2
    refine ⟨p :: ps, by simp [pys, a1, b1], by simp [PyData.canLayAll0, a2, b2], ?_, by simp [PyData.eqvAll, a4, b4]⟩
    simp only [PyData.depthAll]
    omega
end
theorem okD_shaped {n : Nat} {d : DV} (hn : n ≤ 64) (h : okD n d = true) : ∃ p, py d = some p ∧ SeqAt.shaped p = true ∧ PyData.eqv p p = true := by
  obtain ⟨p, h1, h2, h3, h4⟩ := okD_py n d h
  exact ⟨p, h1, by simp [SeqAt.shaped, h2]; omega, h4⟩
theorem eqD_self {n : Nat} {d : DV} (hn : n ≤ 64) (h : okD n d = true) : eqD d d = some true := by
  obtain ⟨p, h1, h2, h3⟩ := okD_shaped hn h
  simp [eqD, h1, h2, h3]
theorem eqD_int {i j : Int} : eqD (.int i) (.int j) = some (decide (i = j)) := by
  simp [eqD, py, SeqAt.shaped, PyData.canLay0, PyData.depth, PyData.eqv]
  exact Bool.eq_iff_iff.mpr (by simp)
theorem eqD_bl {i j : Bool} : eqD (.bl i) (.bl j) = some (decide (i = j)) := by
  simp [eqD, py, SeqAt.shaped, PyData.canLay0, PyData.depth, PyData.eqv]
  exact Bool.eq_iff_iff.mpr (by simp)
theorem st_inj {a b : Txt} : st a = st b ↔ a = b := ⟨fun h => by
  have := congrArg (fun x : Str => x.cps.toList) h
  simpa [st] using this, fun h => by rw [h]⟩
theorem st_beq {a b : Txt} : (st a == st b) = decide (a = b) := by
  by_cases h : a = b
  · subst h; simp
  · simp [h, st_inj]
theorem eqD_str {a b : Txt} (ha : okT a = true) (hb : okT b = true) : eqD (.str a) (.str b) = some (decide (a = b)) := by
  simp [eqD, py, SeqAt.shaped, PyData.canLay0, PyData.depth, PyData.eqv, okT_eq, ha, hb]
  by_cases h : a = b
  · subst h; simp
  · simp [h, st_inj]
def isIntD : DV → Bool
  | .int _ => true
  | _ => false
/-- plain values: no class, no written dict -/
def pl : DV → Bool
  | .ty _ => false
  | .dct _ => false
  | .lst o _ => !o
  | _ => true
theorem s_is_integer {k : Nat} {d : DV} (h : pl d = true) : callN fs (k + 1) 0 [d] = some (.bl (isIntD d), [none]) := by
  refine call_of (f := f_is_integer) rfl ?_
  rw [b_is_integer]
  cases d with
  | ty n => cases h
  | dct n => cases h
  | lst o xs =>
    cases o with
    | true => cases h
    | false => simp [runD, exs, ex, retv, ev, tst, op, ops, opv, opt, conds, walk, wkOf, wkE, asgn, asgns, setv, setvs, gets, Opd.get, Opd.take, gt, lstAt, biop, bi1, bi2, isiD, isTys, isTy, tyname, finals, isOwn_non, isOwn_bl, isOwn_int, isOwn_str, isOwn_ty, isOwn_tup, isOwn_lst, isOwn_dct, isPlc, ownOnce, putBack, truth, cmpop, binop_addI, binop_addS, binop_addL, binop_addT, binop_sub, binop_mulR, binop_mod, binop_fdiv, negD, nonD, frz_non, frz_bl, frz_int, frz_str, frz_ty, frz_tup, frz_lst, frz_dct, ixD, at?, lenD, small, ownsAt, noOwn, slotNot, Wk.get, Wk.slot, tsl, tsls, clear, restore, isMut, mutAt, mtmut, mtop, sliceD, augop, pinned, big62, walkD, intF, absF, ordF, tupF, allF, maxF, minF, dvmF, findD, splitD, joinD, isIntD]
  | _ => simp [runD, exs, ex, retv, ev, tst, op, ops, opv, opt, conds, walk, wkOf, wkE, asgn, asgns, setv, setvs, gets, Opd.get, Opd.take, gt, lstAt, biop, bi1, bi2, isiD, isTys, isTy, tyname, finals, isOwn_non, isOwn_bl, isOwn_int, isOwn_str, isOwn_ty, isOwn_tup, isOwn_lst, isOwn_dct, isPlc, ownOnce, putBack, truth, cmpop, binop_addI, binop_addS, binop_addL, binop_addT, binop_sub, binop_mulR, binop_mod, binop_fdiv, negD, nonD, frz_non, frz_bl, frz_int, frz_str, frz_ty, frz_tup, frz_lst, frz_dct, ixD, at?, lenD, small, ownsAt, noOwn, slotNot, Wk.get, Wk.slot, tsl, tsls, clear, restore, isMut, mutAt, mtmut, mtop, sliceD, augop, pinned, big62, walkD, intF, absF, ordF, tupF, allF, maxF, minF, dvmF, findD, splitD, joinD, isIntD]
def isCountD : DV → Bool
  | .int i => decide (0 ≤ i)
  | _ => false
theorem s_is_count {k : Nat} {d : DV} (h : pl d = true) : callN fs (k + 2) 1 [d] = some (.bl (isCountD d), [none]) := by
  refine call_of (f := f_is_count) rfl ?_
  rw [b_is_count]
  have := s_is_integer (k := k) h
  cases d with
  | ty n => cases h
  | dct n => cases h
  | lst o xs =>
    cases o with
    | true => cases h
    | false => simp [runD, exs, ex, retv, ev, tst, op, ops, opv, opt, conds, walk, wkOf, wkE, asgn, asgns, setv, setvs, gets, Opd.get, Opd.take, gt, lstAt, biop, bi1, bi2, isiD, isTys, isTy, tyname, finals, isOwn_non, isOwn_bl, isOwn_int, isOwn_str, isOwn_ty, isOwn_tup, isOwn_lst, isOwn_dct, isPlc, ownOnce, putBack, truth, cmpop, binop_addI, binop_addS, binop_addL, binop_addT, binop_sub, binop_mulR, binop_mod, binop_fdiv, negD, nonD, frz_non, frz_bl, frz_int, frz_str, frz_ty, frz_tup, frz_lst, frz_dct, ixD, at?, lenD, small, ownsAt, noOwn, slotNot, Wk.get, Wk.slot, tsl, tsls, clear, restore, isMut, mutAt, mtmut, mtop, sliceD, augop, pinned, big62, walkD, intF, absF, ordF, tupF, allF, maxF, minF, dvmF, findD, splitD, joinD, isCountD, this, isIntD]
  | _ => simp [runD, exs, ex, retv, ev, tst, op, ops, opv, opt, conds, walk, wkOf, wkE, asgn, asgns, setv, setvs, gets, Opd.get, Opd.take, gt, lstAt, biop, bi1, bi2, isiD, isTys, isTy, tyname, finals, isOwn_non, isOwn_bl, isOwn_int, isOwn_str, isOwn_ty, isOwn_tup, isOwn_lst, isOwn_dct, isPlc, ownOnce, putBack, truth, cmpop, binop_addI, binop_addS, binop_addL, binop_addT, binop_sub, binop_mulR, binop_mod, binop_fdiv, negD, nonD, frz_non, frz_bl, frz_int, frz_str, frz_ty, frz_tup, frz_lst, frz_dct, ixD, at?, lenD, small, ownsAt, noOwn, slotNot, Wk.get, Wk.slot, tsl, tsls, clear, restore, isMut, mutAt, mtmut, mtop, sliceD, augop, pinned, big62, walkD, intF, absF, ordF, tupF, allF, maxF, minF, dvmF, findD, splitD, joinD, isCountD, this, isIntD]
def isRowD (n : Int) : DV → Bool
  | .tup xs => decide ((xs.length : Int) = n)
  | _ => false
theorem s_is_row {k : Nat} {d : DV} {n : Int} (h : pl d = true) : callN fs (k + 1) 2 [d, .int n] = some (.bl (isRowD n d), [none, none]) := by
  refine call_of (f := f_is_row) rfl ?_
  rw [b_is_row]
  cases d with
  | ty n => cases h
  | dct n => cases h
  | lst o xs =>
    cases o with
    | true => cases h
    | false => simp [runD, exs, ex, retv, ev, tst, op, ops, opv, opt, conds, walk, wkOf, wkE, asgn, asgns, setv, setvs, gets, Opd.get, Opd.take, gt, lstAt, biop, bi1, bi2, isiD, isTys, isTy, tyname, finals, isOwn_non, isOwn_bl, isOwn_int, isOwn_str, isOwn_ty, isOwn_tup, isOwn_lst, isOwn_dct, isPlc, ownOnce, putBack, truth, cmpop, binop_addI, binop_addS, binop_addL, binop_addT, binop_sub, binop_mulR, binop_mod, binop_fdiv, negD, nonD, frz_non, frz_bl, frz_int, frz_str, frz_ty, frz_tup, frz_lst, frz_dct, ixD, at?, lenD, small, ownsAt, noOwn, slotNot, Wk.get, Wk.slot, tsl, tsls, clear, restore, isMut, mutAt, mtmut, mtop, sliceD, augop, pinned, big62, walkD, intF, absF, ordF, tupF, allF, maxF, minF, dvmF, findD, splitD, joinD, isRowD]
  | _ => simp [runD, exs, ex, retv, ev, tst, op, ops, opv, opt, conds, walk, wkOf, wkE, asgn, asgns, setv, setvs, gets, Opd.get, Opd.take, gt, lstAt, biop, bi1, bi2, isiD, isTys, isTy, tyname, finals, isOwn_non, isOwn_bl, isOwn_int, isOwn_str, isOwn_ty, isOwn_tup, isOwn_lst, isOwn_dct, isPlc, ownOnce, putBack, truth, cmpop, binop_addI, binop_addS, binop_addL, binop_addT, binop_sub, binop_mulR, binop_mod, binop_fdiv, negD, nonD, frz_non, frz_bl, frz_int, frz_str, frz_ty, frz_tup, frz_lst, frz_dct, ixD, at?, lenD, small, ownsAt, noOwn, slotNot, Wk.get, Wk.slot, tsl, tsls, clear, restore, isMut, mutAt, mtmut, mtop, sliceD, augop, pinned, big62, walkD, intF, absF, ordF, tupF, allF, maxF, minF, dvmF, findD, splitD, joinD, isRowD, eqD_int]
end K68

end
section
set_option Elab.async false
set_option linter.all false
set_option maxRecDepth 100000
set_option maxHeartbeats 1000000
/-! K5: tellings. -/
namespace K68
open PySem Mp
/-- the tellings that the law draws -/
inductive Tl where
  | int (i : Int) | tt | un | nl | two (c : Bool) (a b : Tl)
def tINT : Txt := [105, 110, 116]
def Tl.d : Tl → DV
  | .int i => .tup [.str [105, 110, 116], .int i]
  | .tt => .tup [.str [98, 111, 111, 108], .bl true]
  | .un => .tup [.str [117, 110, 105, 116]]
  | .nl => .tup [.str [110, 105, 108]]
  | .two false a b => .tup [.str [112, 97, 105, 114], a.d, b.d]
  | .two true a b => .tup [.str [99, 111, 110, 115], a.d, b.d]
def Tl.dep : Tl → Nat
  | .two _ a b => max a.dep b.dep + 1
  | _ => 1
def Tl.num : Tl → Nat
  | .two _ a b => a.num + b.num + 1
  | _ => 1
def Tl.ok : Tl → Prop
  | .int i => -2147483648 ≤ i ∧ i ≤ 2147483647
  | .two _ a b => a.ok ∧ b.ok
  | _ => True
theorem okD_mono : ∀ {n m : Nat} {d : DV}, n ≤ m → okD n d = true → okD m d = true := by
  intro n
  induction n with
  | zero =>
    intro m d _ h
    cases d with
    | tup xs => unfold okD at h; cases h
    | lst o xs => unfold okD at h; cases h
    | ty _ => unfold okD at h; cases h
    | dct _ => unfold okD at h; cases h
    | _ => unfold okD at h ⊢; exact h
  | succ n ih =>
    have all : ∀ {m : Nat} {xs : List DV}, n ≤ m → okDs n xs = true → okDs m xs = true := by
      intro m xs hm
      induction xs with
      | nil => intro _; rfl
      | cons x xs ihx =>
        intro h
        unfold okDs at h ⊢
        obtain ⟨h1, h2⟩ := Bool.and_eq_true_iff.mp h
        exact Bool.and_eq_true_iff.mpr ⟨ih hm h1, ihx h2⟩
    intro m d hm h
    obtain ⟨m, rfl⟩ : ∃ k, m = k + 1 := ⟨m - 1, by omega⟩
    cases d with
    | tup xs => unfold okD at h ⊢; exact all (by omega) h
    | lst o xs => unfold okD at h ⊢; exact all (by omega) h
    | ty _ => unfold okD at h; cases h
    | dct _ => unfold okD at h; cases h
    | _ => unfold okD at h ⊢; exact h
theorem Tl.okD : ∀ (t : Tl), K68.okD t.dep t.d = true
  | .int i => by simp [Tl.dep, Tl.d, K68.okD, okDs, okT]
  | .tt => by simp [Tl.dep, Tl.d, K68.okD, okDs, okT]
  | .un => by simp [Tl.dep, Tl.d, K68.okD, okDs, okT]
  | .nl => by simp [Tl.dep, Tl.d, K68.okD, okDs, okT]
  | .two c a b => by
    have ha := okD_mono (m := max a.dep b.dep) (by omega) a.okD
    have hb := okD_mono (m := max a.dep b.dep) (by omega) b.okD
    cases c <;> simp [Tl.dep, Tl.d, K68.okD, okDs, okT, ha, hb]
theorem eqD_nil {n : Nat} {x : DV} {xs : List DV} (hn : n ≤ 64) (h : okD n (.tup (x :: xs)) = true) : eqD (.tup (x :: xs)) (.tup []) = some false := by
  obtain ⟨p, h1, h2, h3⟩ := okD_shaped hn h
  have hp : ∃ ps q, p = .tuple (q :: ps) := by
    simp only [py, pys] at h1
    split at h1
    · simp at h1
      exact ⟨_, _, h1.symm⟩
    · simp at h1
  obtain ⟨ps, q, rfl⟩ := hp
  have h5 : py (.tup []) = some (.tuple []) := rfl
  have h6 : SeqAt.shaped (.tuple []) = true := by simp [SeqAt.shaped, PyData.canLay0, PyData.canLayAll0, PyData.depth, PyData.depthAll]
  unfold eqD
  rw [h1, h5]
  simp [h2, h6, PyData.eqv, PyData.eqvAll]
theorem Tl.pl (t : Tl) : K68.pl t.d = true := by
  cases t with
  | two c a b => cases c <;> rfl
  | _ => rfl
/-- the places of a telling below it -/
def Tl.kids : Tl → List Tl
  | .two _ a b => [a, b]
  | _ => []
theorem s_is_int {k : Nat} {i : Int} : callN fs (k + 2) 3 [.int i] = some (.bl (decide (-2147483648 ≤ i ∧ i ≤ 2147483647)), [none]) := by
  refine call_of (f := f_is_int) rfl ?_
  rw [b_is_int]
  have := s_is_integer (k := k) (d := .int i) rfl
  by_cases h : -2147483648 ≤ i
  · simp [runD, exs, ex, retv, ev, tst, op, ops, opv, opt, conds, walk, wkOf, wkE, asgn, asgns, setv, setvs, gets, Opd.get, Opd.take, gt, lstAt, biop, bi1, bi2, isiD, isTys, isTy, tyname, finals, isOwn_non, isOwn_bl, isOwn_int, isOwn_str, isOwn_ty, isOwn_tup, isOwn_lst, isOwn_dct, isPlc, ownOnce, putBack, truth, cmpop, binop_addI, binop_addS, binop_addL, binop_addT, binop_sub, binop_mulR, binop_mod, binop_fdiv, negD, nonD, frz_non, frz_bl, frz_int, frz_str, frz_ty, frz_tup, frz_lst, frz_dct, ixD, at?, lenD, small, ownsAt, noOwn, slotNot, Wk.get, Wk.slot, tsl, tsls, clear, restore, isMut, mutAt, mtmut, mtop, sliceD, augop, pinned, big62, walkD, intF, absF, ordF, tupF, allF, maxF, minF, dvmF, findD, splitD, joinD, this, isIntD, h]
  · simp [runD, exs, ex, retv, ev, tst, op, ops, opv, opt, conds, walk, wkOf, wkE, asgn, asgns, setv, setvs, gets, Opd.get, Opd.take, gt, lstAt, biop, bi1, bi2, isiD, isTys, isTy, tyname, finals, isOwn_non, isOwn_bl, isOwn_int, isOwn_str, isOwn_ty, isOwn_tup, isOwn_lst, isOwn_dct, isPlc, ownOnce, putBack, truth, cmpop, binop_addI, binop_addS, binop_addL, binop_addT, binop_sub, binop_mulR, binop_mod, binop_fdiv, negD, nonD, frz_non, frz_bl, frz_int, frz_str, frz_ty, frz_tup, frz_lst, frz_dct, ixD, at?, lenD, small, ownsAt, noOwn, slotNot, Wk.get, Wk.slot, tsl, tsls, clear, restore, isMut, mutAt, mtmut, mtop, sliceD, augop, pinned, big62, walkD, intF, absF, ordF, tupF, allF, maxF, minF, dvmF, findD, splitD, joinD, this, isIntD, h]
theorem Tl.ne_nil (t : Tl) (h : t.dep ≤ 60) : eqD t.d (.tup []) = some false := by
  have := t.okD
  cases t with
  | two c a b => cases c <;> exact eqD_nil (by omega) this
  | _ => exact eqD_nil (by omega) this
theorem Tl.frz (t : Tl) : Mp.frz t.d = t.d := by
  cases t with
  | two c a b => cases c <;> rfl
  | _ => rfl
theorem s_is_node {k : Nat} {t : Tl} (hd : t.dep ≤ 60) (ho : t.ok) : callN fs (k + 3) 10 [t.d] = some (.bl true, [none]) := by
  refine call_of (f := f_is_node) rfl ?_
  rw [b_is_node]
  have he := t.ne_nil hd
  cases t with
  | int i =>
    have := s_is_int (k := k) (i := i)
    simp [Tl.ok] at ho
    simp only [Tl.d] at he ⊢
    simp [runD, exs, ex, retv, ev, tst, op, ops, opv, opt, conds, walk, wkOf, wkE, asgn, asgns, setv, setvs, gets, Opd.get, Opd.take, gt, lstAt, biop, bi1, bi2, isiD, isTys, isTy, tyname, finals, isOwn_non, isOwn_bl, isOwn_int, isOwn_str, isOwn_ty, isOwn_tup, isOwn_lst, isOwn_dct, isPlc, ownOnce, putBack, truth, cmpop, binop_addI, binop_addS, binop_addL, binop_addT, binop_sub, binop_mulR, binop_mod, binop_fdiv, negD, nonD, frz_non, frz_bl, frz_int, frz_str, frz_ty, frz_tup, frz_lst, frz_dct, ixD, at?, lenD, small, ownsAt, noOwn, slotNot, Wk.get, Wk.slot, tsl, tsls, clear, restore, isMut, mutAt, mtmut, mtop, sliceD, augop, pinned, big62, walkD, intF, absF, ordF, tupF, allF, maxF, minF, dvmF, findD, splitD, joinD, he, this, ho, isinD, List.lookup, eqD_int, eqD_str, okT]
  | tt =>
    simp only [Tl.d] at he ⊢
    simp [runD, exs, ex, retv, ev, tst, op, ops, opv, opt, conds, walk, wkOf, wkE, asgn, asgns, setv, setvs, gets, Opd.get, Opd.take, gt, lstAt, biop, bi1, bi2, isiD, isTys, isTy, tyname, finals, isOwn_non, isOwn_bl, isOwn_int, isOwn_str, isOwn_ty, isOwn_tup, isOwn_lst, isOwn_dct, isPlc, ownOnce, putBack, truth, cmpop, binop_addI, binop_addS, binop_addL, binop_addT, binop_sub, binop_mulR, binop_mod, binop_fdiv, negD, nonD, frz_non, frz_bl, frz_int, frz_str, frz_ty, frz_tup, frz_lst, frz_dct, ixD, at?, lenD, small, ownsAt, noOwn, slotNot, Wk.get, Wk.slot, tsl, tsls, clear, restore, isMut, mutAt, mtmut, mtop, sliceD, augop, pinned, big62, walkD, intF, absF, ordF, tupF, allF, maxF, minF, dvmF, findD, splitD, joinD, he, isinD, List.lookup, eqD_int, eqD_str, okT]
  | un =>
    simp only [Tl.d] at he ⊢
    simp [runD, exs, ex, retv, ev, tst, op, ops, opv, opt, conds, walk, wkOf, wkE, asgn, asgns, setv, setvs, gets, Opd.get, Opd.take, gt, lstAt, biop, bi1, bi2, isiD, isTys, isTy, tyname, finals, isOwn_non, isOwn_bl, isOwn_int, isOwn_str, isOwn_ty, isOwn_tup, isOwn_lst, isOwn_dct, isPlc, ownOnce, putBack, truth, cmpop, binop_addI, binop_addS, binop_addL, binop_addT, binop_sub, binop_mulR, binop_mod, binop_fdiv, negD, nonD, frz_non, frz_bl, frz_int, frz_str, frz_ty, frz_tup, frz_lst, frz_dct, ixD, at?, lenD, small, ownsAt, noOwn, slotNot, Wk.get, Wk.slot, tsl, tsls, clear, restore, isMut, mutAt, mtmut, mtop, sliceD, augop, pinned, big62, walkD, intF, absF, ordF, tupF, allF, maxF, minF, dvmF, findD, splitD, joinD, he, isinD, List.lookup, eqD_int, eqD_str, okT, okT_eq, inD, py, pys, SeqAt.shaped, PyData.canLay0, PyData.canLayAll0, PyData.depth, PyData.depthAll, PyData.eqv, st_beq]
  | nl =>
    simp only [Tl.d] at he ⊢
    simp [runD, exs, ex, retv, ev, tst, op, ops, opv, opt, conds, walk, wkOf, wkE, asgn, asgns, setv, setvs, gets, Opd.get, Opd.take, gt, lstAt, biop, bi1, bi2, isiD, isTys, isTy, tyname, finals, isOwn_non, isOwn_bl, isOwn_int, isOwn_str, isOwn_ty, isOwn_tup, isOwn_lst, isOwn_dct, isPlc, ownOnce, putBack, truth, cmpop, binop_addI, binop_addS, binop_addL, binop_addT, binop_sub, binop_mulR, binop_mod, binop_fdiv, negD, nonD, frz_non, frz_bl, frz_int, frz_str, frz_ty, frz_tup, frz_lst, frz_dct, ixD, at?, lenD, small, ownsAt, noOwn, slotNot, Wk.get, Wk.slot, tsl, tsls, clear, restore, isMut, mutAt, mtmut, mtop, sliceD, augop, pinned, big62, walkD, intF, absF, ordF, tupF, allF, maxF, minF, dvmF, findD, splitD, joinD, he, isinD, List.lookup, eqD_int, eqD_str, okT, okT_eq, inD, py, pys, SeqAt.shaped, PyData.canLay0, PyData.canLayAll0, PyData.depth, PyData.depthAll, PyData.eqv, st_beq]
  | two c a b =>
    cases c <;>
    · simp only [Tl.d] at he ⊢
      simp [runD, exs, ex, retv, ev, tst, op, ops, opv, opt, conds, walk, wkOf, wkE, asgn, asgns, setv, setvs, gets, Opd.get, Opd.take, gt, lstAt, biop, bi1, bi2, isiD, isTys, isTy, tyname, finals, isOwn_non, isOwn_bl, isOwn_int, isOwn_str, isOwn_ty, isOwn_tup, isOwn_lst, isOwn_dct, isPlc, ownOnce, putBack, truth, cmpop, binop_addI, binop_addS, binop_addL, binop_addT, binop_sub, binop_mulR, binop_mod, binop_fdiv, negD, nonD, frz_non, frz_bl, frz_int, frz_str, frz_ty, frz_tup, frz_lst, frz_dct, ixD, at?, lenD, small, ownsAt, noOwn, slotNot, Wk.get, Wk.slot, tsl, tsls, clear, restore, isMut, mutAt, mtmut, mtop, sliceD, augop, pinned, big62, walkD, intF, absF, ordF, tupF, allF, maxF, minF, dvmF, findD, splitD, joinD, he, isinD, List.lookup, eqD_int, eqD_str, okT, okT_eq, inD, py, pys, SeqAt.shaped, PyData.canLay0, PyData.canLayAll0, PyData.depth, PyData.depthAll, PyData.eqv, st_beq]
theorem s_children_of {k : Nat} {t : Tl} : callN fs (k + 1) 11 [t.d] = some (.tup (t.kids.map Tl.d), [none]) := by
  refine call_of (f := f_children_of) rfl ?_
  rw [b_children_of]
  cases t with
  | two c a b =>
    cases c <;> simp [runD, exs, ex, retv, ev, tst, op, ops, opv, opt, conds, walk, wkOf, wkE, asgn, asgns, setv, setvs, gets, Opd.get, Opd.take, gt, lstAt, biop, bi1, bi2, isiD, isTys, isTy, tyname, finals, isOwn_non, isOwn_bl, isOwn_int, isOwn_str, isOwn_ty, isOwn_tup, isOwn_lst, isOwn_dct, isPlc, ownOnce, putBack, truth, cmpop, binop_addI, binop_addS, binop_addL, binop_addT, binop_sub, binop_mulR, binop_mod, binop_fdiv, negD, nonD, frz_non, frz_bl, frz_int, frz_str, frz_ty, frz_tup, frz_lst, frz_dct, ixD, at?, lenD, small, ownsAt, noOwn, slotNot, Wk.get, Wk.slot, tsl, tsls, clear, restore, isMut, mutAt, mtmut, mtop, sliceD, augop, pinned, big62, walkD, intF, absF, ordF, tupF, allF, maxF, minF, dvmF, findD, splitD, joinD, Tl.d, Tl.kids, List.lookup, eqD_str, okT, lcL, Tl.frz]
  | _ => simp [runD, exs, ex, retv, ev, tst, op, ops, opv, opt, conds, walk, wkOf, wkE, asgn, asgns, setv, setvs, gets, Opd.get, Opd.take, gt, lstAt, biop, bi1, bi2, isiD, isTys, isTy, tyname, finals, isOwn_non, isOwn_bl, isOwn_int, isOwn_str, isOwn_ty, isOwn_tup, isOwn_lst, isOwn_dct, isPlc, ownOnce, putBack, truth, cmpop, binop_addI, binop_addS, binop_addL, binop_addT, binop_sub, binop_mulR, binop_mod, binop_fdiv, negD, nonD, frz_non, frz_bl, frz_int, frz_str, frz_ty, frz_tup, frz_lst, frz_dct, ixD, at?, lenD, small, ownsAt, noOwn, slotNot, Wk.get, Wk.slot, tsl, tsls, clear, restore, isMut, mutAt, mtmut, mtop, sliceD, augop, pinned, big62, walkD, intF, absF, ordF, tupF, allF, maxF, minF, dvmF, findD, splitD, joinD, Tl.d, Tl.kids, List.lookup, eqD_str, okT, lcL, Tl.frz]
end K68

end
section
set_option Elab.async false
set_option linter.all false
set_option maxRecDepth 100000
set_option maxHeartbeats 1000000
/-! K6: loops; what is a telling. -/
namespace K68
open PySem hiding Env Ctx
open Mp
section
variable {c : Env → Option (Bool × Env)} {b : Env → Option (Fl × Env)} {env e e' : Env} {z : Fl × Env}
theorem whileN_succ : ∀ {n : Nat} {env : Env} {z : Fl × Env}, whileN c b n env = some z → whileN c b (n + 1) env = some z
  | 0, env, z, h => by unfold whileN at h; cases h
  | n + 1, env, z, h => by
    have key : ∀ {e : Env}, whileN c b n e = some z → whileN c b (n + 1) e = some z := fun h => whileN_succ h
    unfold whileN at h ⊢
    split at h
    · split at h
      · exact key h
      · exact key h
      · exact h
      · exact h
      · cases h
    · exact h
    · cases h
theorem whileN_mono {n m : Nat} (h : n ≤ m) (e : whileN c b n env = some z) : whileN c b m env = some z := by
  induction h with
  | refl => exact e
  | step _ ih => exact whileN_succ ih
/-- a while ends so -/
def Loop (c : Env → Option (Bool × Env)) (b : Env → Option (Fl × Env)) (env : Env) (z : Fl × Env) : Prop := ∃ n, whileN c b n env = some z
theorem Loop.stop (h : c env = some (false, e)) : Loop c b env (.nx, e) := ⟨1, by unfold whileN; rw [h]⟩
theorem Loop.step (h : c env = some (true, e)) (h2 : b e = some (.nx, e')) (h3 : Loop c b e' z) : Loop c b env z := by
  obtain ⟨n, h3⟩ := h3
  refine ⟨n + 1, ?_⟩
  unfold whileN
  rw [h]
  dsimp only
  rw [h2]
  exact h3
theorem Loop.out {d : DV} (h : c env = some (true, e)) (h2 : b e = some (.ret d, e')) : Loop c b env (.ret d, e') := by
  refine ⟨1, ?_⟩
  unfold whileN
  rw [h]
  dsimp only
  rw [h2]
theorem whileM_of (h : Loop c b env z) : whileM c b env = some z := by
  obtain ⟨n, h⟩ := h
  cases q : whileM c b env with
  | none =>
    exfalso
    unfold whileM at q
    split at q
    · cases q
    · rename_i hx
      exact hx ⟨n, z, h⟩
  | some y =>
    obtain ⟨m, hm⟩ := whileM_some q
    rcases Nat.le_total n m with k | k
    · rw [whileN_mono k h] at hm; exact hm.symm
    · rw [whileN_mono k hm] at h; exact h
end
section
variable {C : Ctx} {np : Nat} {s : MS} {ss : MSs} {env e1 e : Env} {z : Option (Fl × Env)} {d : DV} {cs : Calls} {f : FnD} {ds : List DV} {fin : List (Option DV)}
theorem exs_nx (h : ex C np s env = some (.nx, e1)) (h2 : exs C np ss e1 = z) : exs C np (.cons s ss) env = z := by
  unfold exs
  rw [h]
  exact h2
theorem exs_ret (h : ex C np s env = some (.ret d, e1)) : exs C np (.cons s ss) env = some (.ret d, e1) := by
  unfold exs
  rw [h]
  rfl
theorem run_nx (hl : ds.length = f.np ∧ f.np ≤ f.ns) (h : exs ⟨cs, ownsAt 0 ds⟩ f.np f.body (ds.map some ++ List.replicate (f.ns - f.np) none) = some (.ret d, e)) (hf : finals e 0 ds = fin) : runD cs f ds = some (d, fin) := by
  unfold runD
  rw [if_pos hl, h]
  dsimp only
  rw [hf]
end
theorem eqD_head {n m : Nat} {a b : Txt} {xs ys : List DV} (hn : n ≤ 64) (hm : m ≤ 64) (h1 : okD n (.tup (.str a :: xs)) = true) (h2 : okD m (.tup (.str b :: ys)) = true) (ne : a ≠ b) : eqD (.tup (.str a :: xs)) (.tup (.str b :: ys)) = some false := by
  have shape : ∀ {n : Nat} {a : Txt} {xs : List DV}, n ≤ 64 → okD n (.tup (.str a :: xs)) = true → ∃ ps, py (.tup (.str a :: xs)) = some (.tuple (.str (st a) :: ps)) ∧ SeqAt.shaped (.tuple (.str (st a) :: ps)) = true := by
    intro n a xs hn h
    obtain ⟨p, h1, h2, h3⟩ := okD_shaped hn h
    have hp : ∃ ps, p = .tuple (.str (st a) :: ps) := by
      simp only [py, pys] at h1
      split at h1
      · rename_i q1 q2 e1 e2
        cases e1
        simp at h1
        exact ⟨_, h1.symm⟩
      · simp at h1
    obtain ⟨ps, rfl⟩ := hp
    exact ⟨ps, h1, h2⟩
  obtain ⟨ps, p1, p2⟩ := shape hn h1
  obtain ⟨qs, q1, q2⟩ := shape hm h2
  unfold eqD
  rw [p1, q1]
  simp [p2, q2, PyData.eqv, PyData.eqvAll, st_beq, ne]
theorem eqD_lnil {o o' : Bool} {xs : List DV} (h : okDs 63 xs = true) : eqD (.lst o xs) (.lst o' []) = some (decide (xs = [])) := by
  obtain ⟨ps, h1, h2, h3, h4⟩ := okDs_py 63 xs h
  have e1 : py (.lst o xs) = some (.list ps) := by simp [py, h1]
  have e2 : py (.lst o' []) = some (.list []) := rfl
  have s1 : SeqAt.shaped (.list ps) = true := by simp [SeqAt.shaped, PyData.canLay0, PyData.depth, h2]; omega
  have s2 : SeqAt.shaped (.list []) = true := by simp [SeqAt.shaped, PyData.canLay0, PyData.canLayAll0, PyData.depth, PyData.depthAll]
  unfold eqD
  rw [e1, e2]
  cases xs with
  | nil =>
    simp [pys] at h1
    subst h1
    simp [s2, PyData.eqv, PyData.eqvAll]
  | cons x xs =>
    cases ps with
    | nil =>
      simp only [pys] at h1
      split at h1 <;> cases h1
    | cons p ps => simp [s1, s2, PyData.eqv, PyData.eqvAll]
theorem Tl.ne_fun (t : Tl) (h : t.dep ≤ 60) : eqD t.d (.tup [.str [102, 117, 110]]) = some false := by
  have := t.okD
  have h2 : K68.okD 1 (.tup [.str [102, 117, 110]]) = true := by simp [K68.okD, okDs, okT]
  cases t with
  | two c a b => cases c <;> exact eqD_head (by omega) (by omega) this h2 (by decide)
  | _ => exact eqD_head (by omega) (by omega) this h2 (by decide)
/-- a telling with its depth -/
def enc (p : Tl × Nat) : DV := .tup [p.1.d, .int p.2]
def sumN : List (Tl × Nat) → Nat
  | [] => 0
  | p :: r => p.1.num + sumN r
theorem sumN_app : ∀ {a b : List (Tl × Nat)}, sumN (a ++ b) = sumN a + sumN b
  | [], b => by simp [sumN]
  | x :: a, b => by
    have := sumN_app (a := a) (b := b)
    simp only [List.cons_append, sumN, this]
    omega
theorem enc_ok : ∀ {l : List (Tl × Nat)}, (∀ p ∈ l, p.1.dep ≤ 60) → okDs 63 (l.map enc) = true
  | [], _ => rfl
  | p :: l, h => by
    have h1 := okD_mono (m := 62) (by have := h p List.mem_cons_self; omega) p.1.okD
    have h2 := enc_ok (l := l) fun q hq => h q (List.mem_cons_of_mem _ hq)
    simp [okDs, enc, okD, h1, h2]
theorem Tl.num_pos (t : Tl) : 1 ≤ t.num := by cases t <;> simp [Tl.num]
theorem kids_ok {t k : Tl} (h : k ∈ t.kids) : k.dep + 1 ≤ t.dep ∧ (t.ok → k.ok) := by
  cases t with
  | two c a b =>
    simp [Tl.kids] at h
    rcases h with rfl | rfl
    · exact ⟨by simp [Tl.dep]; omega, fun z => z.1⟩
    · exact ⟨by simp [Tl.dep]; omega, fun z => z.2⟩
  | _ => simp [Tl.kids] at h
theorem kids_num (t : Tl) (n : Nat) : sumN (t.kids.map fun k => (k, n)) + 1 = t.num := by
  cases t with
  | two c a b => simp [Tl.kids, sumN, Tl.num]
  | _ => simp [Tl.kids, sumN, Tl.num]
def goodP (p : Tl × Nat) : Prop := p.1.ok ∧ p.1.dep ≤ 60 ∧ p.2 + p.1.dep ≤ 151
/-- one turn of is_telling_of -/
theorem tell_turn {k : Nat} {C : Ctx} (hC : C.calls = callN fs (k + 3)) (hp : C.pins = []) {v : DV} {l : List (Tl × Nat)} {p : Tl × Nat} {o2 o3 : Option DV} (h : goodP p) (hl : ∀ q ∈ l, goodP q) (hz : sumN l + p.1.num ≤ 1000) (b : MSs) (cnd : ME) (hb : ∃ r, f_is_telling_of.body = .cons r (.cons (.while cnd b) (.cons (.ret (.k (.bl true))) .nil))) :
    tst C cnd [some v, some (.lst true ((l ++ [p]).map enc)), o2, o3, none] = some (true, [some v, some (.lst true ((l ++ [p]).map enc)), o2, o3, none]) ∧
    ∃ o2' o3', exs C 1 b [some v, some (.lst true ((l ++ [p]).map enc)), o2, o3, none] = some (.nx, [some v, some (.lst true ((l ++ p.1.kids.map fun k => (k, p.2 + 1)).map enc)), o2', o3', none]) := by
  obtain ⟨r, hb⟩ := hb
  rw [b_is_telling_of] at hb
  simp only [MSs.cons.injEq, MS.while.injEq] at hb
  obtain ⟨_, ⟨rfl, rfl⟩, _⟩ := hb
  obtain ⟨t, n⟩ := p
  obtain ⟨h1, h2, h3⟩ := h
  dsimp only at h1 h2 h3
  have hok : okDs 63 ((l ++ [(t, n)]).map enc) = true := enc_ok fun q hq => by
    rcases List.mem_append.mp hq with hq | hq
    · exact (hl q hq).2.1
    · rw [List.mem_singleton.mp hq]; exact h2
  have e1 := eqD_lnil (o := true) (o' := true) hok
  have n1 := s_is_node (k := k) h2 h1
  have n2 : callN fs (k + 3) 11 [t.d] = some (.tup (t.kids.map Tl.d), [none]) := s_children_of (k := k + 2) (t := t)
  have hd1 : 1 ≤ t.dep := by cases t <;> simp [Tl.dep]
  have hn : ¬ (150 < (n : Int)) := by omega
  have n3 := t.ne_fun h2
  have hlen : l.length ≤ 1000 := by
    have : l.length ≤ sumN l := by
      clear hz e1 hok hl
      induction l with
      | nil => simp
      | cons q l ih => have := q.1.num_pos; simp [sumN]; omega
    omega
  refine ⟨?_, some t.d, some (.int n), ?_⟩
  · simp only [List.map_append, List.map_cons, List.map_nil] at e1
    simp [runD, exs, ex, retv, ev, tst, op, ops, opv, opt, conds, walk, wkOf, wkE, asgn, asgns, setv, setvs, gets, Opd.get, Opd.take, gt, lstAt, biop, bi1, bi2, isiD, isTys, isTy, tyname, finals, isOwn_non, isOwn_bl, isOwn_int, isOwn_str, isOwn_ty, isOwn_tup, isOwn_lst, isOwn_dct, isPlc, ownOnce, putBack, truth, cmpop, binop_addI, binop_addS, binop_addL, binop_addT, binop_sub, binop_mulR, binop_mod, binop_fdiv, negD, nonD, frz_non, frz_bl, frz_int, frz_str, frz_ty, frz_tup, frz_lst, frz_dct, ixD, at?, lenD, small, ownsAt, noOwn, slotNot, Wk.get, Wk.slot, tsl, tsls, clear, restore, isMut, mutAt, mtmut, mtop, sliceD, augop, pinned, big62, walkD, intF, absF, ordF, tupF, allF, maxF, minF, dvmF, findD, splitD, joinD, e1]
  · have hbig : l.length + 2 ≤ 16777216 := by omega
    have hb0 : l.length ≤ 16777216 := by omega
    cases t with
    | two c a b =>
      cases c <;>
      · simp only [Tl.d, Tl.kids, List.map_cons, List.map_nil] at n1 n2 n3
        simp [runD, exs, ex, retv, ev, tst, op, ops, opv, opt, conds, walk, wkOf, wkE, asgn, asgns, setv, setvs, gets, Opd.get, Opd.take, gt, lstAt, biop, bi1, bi2, isiD, isTys, isTy, tyname, finals, isOwn_non, isOwn_bl, isOwn_int, isOwn_str, isOwn_ty, isOwn_tup, isOwn_lst, isOwn_dct, isPlc, ownOnce, putBack, truth, cmpop, binop_addI, binop_addS, binop_addL, binop_addT, binop_sub, binop_mulR, binop_mod, binop_fdiv, negD, nonD, frz_non, frz_bl, frz_int, frz_str, frz_ty, frz_tup, frz_lst, frz_dct, ixD, at?, lenD, small, ownsAt, noOwn, slotNot, Wk.get, Wk.slot, tsl, tsls, clear, restore, isMut, mutAt, mtmut, mtop, sliceD, augop, pinned, big62, walkD, intF, absF, ordF, tupF, allF, maxF, minF, dvmF, findD, splitD, joinD, enc, hC, hp, n1, n2, n3, isinD, List.lookup, eqD_int, eqD_str, okT, okT_eq, inD, py, pys, SeqAt.shaped, PyData.canLay0, PyData.canLayAll0, PyData.depth, PyData.depthAll, PyData.eqv, st_beq, lcL, Tl.d, Tl.kids, Tl.frz, hbig, hn]
    | _ =>
      simp only [Tl.d, Tl.kids, List.map_nil] at n1 n2 n3
      simp [runD, exs, ex, retv, ev, tst, op, ops, opv, opt, conds, walk, wkOf, wkE, asgn, asgns, setv, setvs, gets, Opd.get, Opd.take, gt, lstAt, biop, bi1, bi2, isiD, isTys, isTy, tyname, finals, isOwn_non, isOwn_bl, isOwn_int, isOwn_str, isOwn_ty, isOwn_tup, isOwn_lst, isOwn_dct, isPlc, ownOnce, putBack, truth, cmpop, binop_addI, binop_addS, binop_addL, binop_addT, binop_sub, binop_mulR, binop_mod, binop_fdiv, negD, nonD, frz_non, frz_bl, frz_int, frz_str, frz_ty, frz_tup, frz_lst, frz_dct, ixD, at?, lenD, small, ownsAt, noOwn, slotNot, Wk.get, Wk.slot, tsl, tsls, clear, restore, isMut, mutAt, mtmut, mtop, sliceD, augop, pinned, big62, walkD, intF, absF, ordF, tupF, allF, maxF, minF, dvmF, findD, splitD, joinD, enc, hC, hp, n1, n2, n3, isinD, List.lookup, eqD_int, eqD_str, okT, okT_eq, inD, py, pys, SeqAt.shaped, PyData.canLay0, PyData.canLayAll0, PyData.depth, PyData.depthAll, PyData.eqv, st_beq, lcL, Tl.d, Tl.kids, Tl.frz, hn, hb0]
theorem last_split {α : Type} : ∀ (l : List α), l ≠ [] → ∃ r x, l = r ++ [x]
  | [], h => absurd rfl h
  | [x], _ => ⟨[], x, rfl⟩
  | x :: y :: l, _ => by
    obtain ⟨r, z, e⟩ := last_split (y :: l) (List.cons_ne_nil _ _)
    exact ⟨x :: r, z, by rw [e]; rfl⟩
theorem tell_loop {k : Nat} {C : Ctx} (hC : C.calls = callN fs (k + 3)) (hp : C.pins = []) {v : DV} {b : MSs} {cnd : ME} (hb : ∃ r, f_is_telling_of.body = .cons r (.cons (.while cnd b) (.cons (.ret (.k (.bl true))) .nil))) : ∀ (m : Nat) (l : List (Tl × Nat)) (o2 o3 : Option DV), sumN l ≤ m → m ≤ 1000 → (∀ q ∈ l, goodP q) →
    ∃ o2' o3', Loop (tst C cnd) (exs C 1 b) [some v, some (.lst true (l.map enc)), o2, o3, none] (.nx, [some v, some (.lst true []), o2', o3', none]) := by
  intro m
  induction m with
  | zero =>
    intro l o2 o3 hm _ _
    cases l with
    | nil =>
      refine ⟨o2, o3, Loop.stop ?_⟩
      obtain ⟨r, hb⟩ := hb
      rw [b_is_telling_of] at hb
      simp only [MSs.cons.injEq, MS.while.injEq] at hb
      obtain ⟨_, ⟨rfl, rfl⟩, _⟩ := hb
      have e1 := eqD_lnil (o := true) (o' := true) (xs := []) rfl
      simp [runD, exs, ex, retv, ev, tst, op, ops, opv, opt, conds, walk, wkOf, wkE, asgn, asgns, setv, setvs, gets, Opd.get, Opd.take, gt, lstAt, biop, bi1, bi2, isiD, isTys, isTy, tyname, finals, isOwn_non, isOwn_bl, isOwn_int, isOwn_str, isOwn_ty, isOwn_tup, isOwn_lst, isOwn_dct, isPlc, ownOnce, putBack, truth, cmpop, binop_addI, binop_addS, binop_addL, binop_addT, binop_sub, binop_mulR, binop_mod, binop_fdiv, negD, nonD, frz_non, frz_bl, frz_int, frz_str, frz_ty, frz_tup, frz_lst, frz_dct, ixD, at?, lenD, small, ownsAt, noOwn, slotNot, Wk.get, Wk.slot, tsl, tsls, clear, restore, isMut, mutAt, mtmut, mtop, sliceD, augop, pinned, big62, walkD, intF, absF, ordF, tupF, allF, maxF, minF, dvmF, findD, splitD, joinD, e1]
    | cons p l => have := p.1.num_pos; simp [sumN] at hm; omega
  | succ m ih =>
    intro l o2 o3 hm h1000 hl
    by_cases hn : l = []
    · subst hn
      exact ih [] o2 o3 (by simp [sumN]) (by omega) hl
    · obtain ⟨r, p, rfl⟩ := last_split l hn
      rw [sumN_app] at hm
      simp only [sumN] at hm
      have hr : ∀ q ∈ r, goodP q := fun q hq => hl q (List.mem_append.mpr (.inl hq))
      have hpp : goodP p := hl p (List.mem_append.mpr (.inr (List.mem_singleton_self _)))
      obtain ⟨t1, x2, x3, t2⟩ := tell_turn (k := k) hC hp (v := v) (o2 := o2) (o3 := o3) hpp hr (by omega) b cnd hb
      have hk : ∀ q ∈ r ++ p.1.kids.map fun k => (k, p.2 + 1), goodP q := fun q hq => by
        rcases List.mem_append.mp hq with hq | hq
        · exact hr q hq
        · obtain ⟨y, hy, rfl⟩ := List.mem_map.mp hq
          obtain ⟨g1, g2⟩ := kids_ok hy
          obtain ⟨p1, p2, p3⟩ := hpp
          exact ⟨g2 p1, by show y.dep ≤ 60; omega, by show p.2 + 1 + y.dep ≤ 151; omega⟩
      obtain ⟨y2, y3, lp⟩ := ih (r ++ p.1.kids.map fun k => (k, p.2 + 1)) x2 x3 (by
        rw [sumN_app]
        have := kids_num p.1 (p.2 + 1)
        omega) (by omega) hk
      exact ⟨y2, y3, Loop.step t1 t2 lp⟩
theorem s_is_telling_of {k : Nat} {t : Tl} (ho : t.ok) (hd : t.dep ≤ 60) (hn : t.num ≤ 1000) : callN fs (k + 4) 14 [t.d] = some (.bl true, [none]) := by
  refine call_of (f := f_is_telling_of) rfl ?_
  obtain ⟨y2, y3, lp⟩ := tell_loop (k := k) (C := ⟨callN fs (k + 3), []⟩) rfl rfl (v := t.d) (b := _) (cnd := _) ⟨_, congrArg FnD.body b_is_telling_of⟩ 1000 [(t, 1)] none none (by simp [sumN]; omega) (Nat.le_refl _) (fun q hq => by
    rw [List.mem_singleton.mp hq]
    exact ⟨ho, hd, by show 1 + t.dep ≤ 151; omega⟩)
  have lp' := whileM_of lp
  have hf := t.frz
  have ho : isOwn t.d = false := by
    cases t with
    | two c a b => cases c <;> rfl
    | _ => rfl
  rw [b_is_telling_of]
  have how : ownsAt 0 [t.d] = [] := by simp [ownsAt, ho]
  refine run_nx (e := [some t.d, some (.lst true []), y2, y3, none]) ⟨rfl, by decide⟩ ?_ (by simp [finals, ho])
  rw [how]
  refine exs_nx (e1 := [some t.d, some (.lst true (List.map enc [(t, 1)])), none, none, none]) (by simp [runD, exs, ex, retv, ev, tst, op, ops, opv, opt, conds, walk, wkOf, wkE, asgn, asgns, setv, setvs, gets, Opd.get, Opd.take, gt, lstAt, biop, bi1, bi2, isiD, isTys, isTy, tyname, finals, isOwn_non, isOwn_bl, isOwn_int, isOwn_str, isOwn_ty, isOwn_tup, isOwn_lst, isOwn_dct, isPlc, ownOnce, putBack, truth, cmpop, binop_addI, binop_addS, binop_addL, binop_addT, binop_sub, binop_mulR, binop_mod, binop_fdiv, negD, nonD, frz_non, frz_bl, frz_int, frz_str, frz_ty, frz_tup, frz_lst, frz_dct, ixD, at?, lenD, small, ownsAt, noOwn, slotNot, Wk.get, Wk.slot, tsl, tsls, clear, restore, isMut, mutAt, mtmut, mtop, sliceD, augop, pinned, big62, walkD, intF, absF, ordF, tupF, allF, maxF, minF, dvmF, findD, splitD, joinD, hf, enc]) (exs_nx (e1 := [some t.d, some (.lst true []), y2, y3, none]) ?_ ?_)
  · unfold ex
    exact lp'
  · simp [runD, exs, ex, retv, ev, tst, op, ops, opv, opt, conds, walk, wkOf, wkE, asgn, asgns, setv, setvs, gets, Opd.get, Opd.take, gt, lstAt, biop, bi1, bi2, isiD, isTys, isTy, tyname, finals, isOwn_non, isOwn_bl, isOwn_int, isOwn_str, isOwn_ty, isOwn_tup, isOwn_lst, isOwn_dct, isPlc, ownOnce, putBack, truth, cmpop, binop_addI, binop_addS, binop_addL, binop_addT, binop_sub, binop_mulR, binop_mod, binop_fdiv, negD, nonD, frz_non, frz_bl, frz_int, frz_str, frz_ty, frz_tup, frz_lst, frz_dct, ixD, at?, lenD, small, ownsAt, noOwn, slotNot, Wk.get, Wk.slot, tsl, tsls, clear, restore, isMut, mutAt, mtmut, mtop, sliceD, augop, pinned, big62, walkD, intF, absF, ordF, tupF, allF, maxF, minF, dvmF, findD, splitD, joinD]
end K68

end
section
set_option Elab.async false
set_option linter.all false
set_option maxRecDepth 100000
set_option maxHeartbeats 1000000
/-! K7: what is data. -/
namespace K68
open PySem hiding Env Ctx
open Mp
theorem len_le : ∀ (l : List (Tl × Nat)), l.length ≤ sumN l
  | [] => by simp
  | q :: l => by have := q.1.num_pos; have := len_le l; simp [sumN]; omega
theorem Tl.own (t : Tl) : isOwn t.d = false := by
  cases t with
  | two c a b => cases c <;> rfl
  | _ => rfl
theorem Tl.dep_pos (t : Tl) : 1 ≤ t.dep := by cases t <;> simp [Tl.dep]
theorem within_turn {k : Nat} {C : Ctx} (hC : C.calls = callN fs (k + 3)) (hp : C.pins = []) {v : DV} {l : List (Tl × Nat)} {p : Tl × Nat} {m : Nat} {o2 o3 : Option DV} (h : goodP p) (hl : ∀ q ∈ l, goodP q) (hz : m + (sumN l + p.1.num) ≤ 1000) (b : MSs) (cnd : ME) (hb : ∃ r, f_is_within.body = .cons r (.cons (.while cnd b) (.cons (.ret (.k (.bl true))) .nil))) :
    tst C cnd [some v, some (.int 20000), some (.int 150), some (.lst true ((l ++ [p]).map enc)), some (.int m), o2, o3, none] = some (true, [some v, some (.int 20000), some (.int 150), some (.lst true ((l ++ [p]).map enc)), some (.int m), o2, o3, none]) ∧
    ∃ o2' o3', exs C 3 b [some v, some (.int 20000), some (.int 150), some (.lst true ((l ++ [p]).map enc)), some (.int m), o2, o3, none] = some (.nx, [some v, some (.int 20000), some (.int 150), some (.lst true ((l ++ p.1.kids.map fun k => (k, p.2 + 1)).map enc)), some (.int ((m + 1 : Nat) : Int)), o2', o3', none]) := by
  obtain ⟨r, hb⟩ := hb
  rw [b_is_within] at hb
  simp only [MSs.cons.injEq, MS.while.injEq] at hb
  obtain ⟨_, ⟨rfl, rfl⟩, _⟩ := hb
  obtain ⟨t, n⟩ := p
  obtain ⟨h1, h2, h3⟩ := h
  dsimp only at h1 h2 h3
  have hok : okDs 63 ((l ++ [(t, n)]).map enc) = true := enc_ok fun q hq => by
    rcases List.mem_append.mp hq with hq | hq
    · exact (hl q hq).2.1
    · rw [List.mem_singleton.mp hq]; exact h2
  have e1 := eqD_lnil (o := true) (o' := true) hok
  have n1 := s_is_node (k := k) h2 h1
  have n2 : callN fs (k + 3) 11 [t.d] = some (.tup (t.kids.map Tl.d), [none]) := s_children_of (k := k + 2) (t := t)
  have hd1 := t.dep_pos
  have hp1 := t.num_pos
  have hn : ¬ (150 < (n : Int)) := by omega
  have hlen := len_le l
  have hm : ¬ (20000 < (m : Int) + 1) := by dsimp only at hz; omega
  have hbig : l.length + 2 ≤ 16777216 := by dsimp only at hz; omega
  have hb0 : l.length ≤ 16777216 := by omega
  refine ⟨?_, some t.d, some (.int n), ?_⟩
  · simp only [List.map_append, List.map_cons, List.map_nil] at e1
    simp [runD, exs, ex, retv, ev, tst, op, ops, opv, opt, conds, walk, wkOf, wkE, asgn, asgns, setv, setvs, gets, Opd.get, Opd.take, gt, lstAt, biop, bi1, bi2, isiD, isTys, isTy, tyname, finals, isOwn_non, isOwn_bl, isOwn_int, isOwn_str, isOwn_ty, isOwn_tup, isOwn_lst, isOwn_dct, isPlc, ownOnce, putBack, truth, cmpop, binop_addI, binop_addS, binop_addL, binop_addT, binop_sub, binop_mulR, binop_mod, binop_fdiv, negD, nonD, frz_non, frz_bl, frz_int, frz_str, frz_ty, frz_tup, frz_lst, frz_dct, ixD, at?, lenD, small, ownsAt, noOwn, slotNot, Wk.get, Wk.slot, tsl, tsls, clear, restore, isMut, mutAt, mtmut, mtop, sliceD, augop, pinned, big62, walkD, intF, absF, ordF, tupF, allF, maxF, minF, dvmF, findD, splitD, joinD, e1]
  · cases t with
    | two c a b =>
      cases c <;>
      · simp only [Tl.d, Tl.kids, List.map_cons, List.map_nil] at n1 n2
        simp [runD, exs, ex, retv, ev, tst, op, ops, opv, opt, conds, walk, wkOf, wkE, asgn, asgns, setv, setvs, gets, Opd.get, Opd.take, gt, lstAt, biop, bi1, bi2, isiD, isTys, isTy, tyname, finals, isOwn_non, isOwn_bl, isOwn_int, isOwn_str, isOwn_ty, isOwn_tup, isOwn_lst, isOwn_dct, isPlc, ownOnce, putBack, truth, cmpop, binop_addI, binop_addS, binop_addL, binop_addT, binop_sub, binop_mulR, binop_mod, binop_fdiv, negD, nonD, frz_non, frz_bl, frz_int, frz_str, frz_ty, frz_tup, frz_lst, frz_dct, ixD, at?, lenD, small, ownsAt, noOwn, slotNot, Wk.get, Wk.slot, tsl, tsls, clear, restore, isMut, mutAt, mtmut, mtop, sliceD, augop, pinned, big62, walkD, intF, absF, ordF, tupF, allF, maxF, minF, dvmF, findD, splitD, joinD, enc, hC, hp, n1, n2, isinD, List.lookup, eqD_int, eqD_str, okT, okT_eq, inD, py, pys, SeqAt.shaped, PyData.canLay0, PyData.canLayAll0, PyData.depth, PyData.depthAll, PyData.eqv, st_beq, lcL, Tl.d, Tl.kids, Tl.frz, hbig, hn, hm]
    | _ =>
      simp only [Tl.d, Tl.kids, List.map_nil] at n1 n2
      simp [runD, exs, ex, retv, ev, tst, op, ops, opv, opt, conds, walk, wkOf, wkE, asgn, asgns, setv, setvs, gets, Opd.get, Opd.take, gt, lstAt, biop, bi1, bi2, isiD, isTys, isTy, tyname, finals, isOwn_non, isOwn_bl, isOwn_int, isOwn_str, isOwn_ty, isOwn_tup, isOwn_lst, isOwn_dct, isPlc, ownOnce, putBack, truth, cmpop, binop_addI, binop_addS, binop_addL, binop_addT, binop_sub, binop_mulR, binop_mod, binop_fdiv, negD, nonD, frz_non, frz_bl, frz_int, frz_str, frz_ty, frz_tup, frz_lst, frz_dct, ixD, at?, lenD, small, ownsAt, noOwn, slotNot, Wk.get, Wk.slot, tsl, tsls, clear, restore, isMut, mutAt, mtmut, mtop, sliceD, augop, pinned, big62, walkD, intF, absF, ordF, tupF, allF, maxF, minF, dvmF, findD, splitD, joinD, enc, hC, hp, n1, n2, isinD, List.lookup, eqD_int, eqD_str, okT, okT_eq, inD, py, pys, SeqAt.shaped, PyData.canLay0, PyData.canLayAll0, PyData.depth, PyData.depthAll, PyData.eqv, st_beq, lcL, Tl.d, Tl.kids, Tl.frz, hn, hb0, hm]
theorem within_loop {k : Nat} {C : Ctx} (hC : C.calls = callN fs (k + 3)) (hp : C.pins = []) {v : DV} {b : MSs} {cnd : ME} (hb : ∃ r, f_is_within.body = .cons r (.cons (.while cnd b) (.cons (.ret (.k (.bl true))) .nil))) : ∀ (s : Nat) (l : List (Tl × Nat)) (m : Nat) (o2 o3 : Option DV), sumN l ≤ s → m + sumN l ≤ 1000 → (∀ q ∈ l, goodP q) →
    ∃ m' o2' o3', Loop (tst C cnd) (exs C 3 b) [some v, some (.int 20000), some (.int 150), some (.lst true (l.map enc)), some (.int m), o2, o3, none] (.nx, [some v, some (.int 20000), some (.int 150), some (.lst true []), some (.int m'), o2', o3', none]) := by
  intro s
  induction s with
  | zero =>
    intro l m o2 o3 hm _ _
    cases l with
    | nil =>
      refine ⟨m, o2, o3, Loop.stop ?_⟩
      obtain ⟨r, hb⟩ := hb
      rw [b_is_within] at hb
      simp only [MSs.cons.injEq, MS.while.injEq] at hb
      obtain ⟨_, ⟨rfl, rfl⟩, _⟩ := hb
      have e1 := eqD_lnil (o := true) (o' := true) (xs := []) rfl
      simp [runD, exs, ex, retv, ev, tst, op, ops, opv, opt, conds, walk, wkOf, wkE, asgn, asgns, setv, setvs, gets, Opd.get, Opd.take, gt, lstAt, biop, bi1, bi2, isiD, isTys, isTy, tyname, finals, isOwn_non, isOwn_bl, isOwn_int, isOwn_str, isOwn_ty, isOwn_tup, isOwn_lst, isOwn_dct, isPlc, ownOnce, putBack, truth, cmpop, binop_addI, binop_addS, binop_addL, binop_addT, binop_sub, binop_mulR, binop_mod, binop_fdiv, negD, nonD, frz_non, frz_bl, frz_int, frz_str, frz_ty, frz_tup, frz_lst, frz_dct, ixD, at?, lenD, small, ownsAt, noOwn, slotNot, Wk.get, Wk.slot, tsl, tsls, clear, restore, isMut, mutAt, mtmut, mtop, sliceD, augop, pinned, big62, walkD, intF, absF, ordF, tupF, allF, maxF, minF, dvmF, findD, splitD, joinD, e1]
    | cons p l => have := p.1.num_pos; simp [sumN] at hm; omega
  | succ s ih =>
    intro l m o2 o3 hm h1000 hl
    by_cases hn : l = []
    · subst hn
      exact ih [] m o2 o3 (by simp [sumN]) (by simp [sumN] at h1000 ⊢; omega) hl
    · obtain ⟨r, p, rfl⟩ := last_split l hn
      rw [sumN_app] at hm h1000
      simp only [sumN] at hm h1000
      have hr : ∀ q ∈ r, goodP q := fun q hq => hl q (List.mem_append.mpr (.inl hq))
      have hpp : goodP p := hl p (List.mem_append.mpr (.inr (List.mem_singleton_self _)))
      obtain ⟨t1, x2, x3, t2⟩ := within_turn (k := k) hC hp (v := v) (m := m) (o2 := o2) (o3 := o3) hpp hr (by omega) b cnd hb
      have hk : ∀ q ∈ r ++ p.1.kids.map fun k => (k, p.2 + 1), goodP q := fun q hq => by
        rcases List.mem_append.mp hq with hq | hq
        · exact hr q hq
        · obtain ⟨y, hy, rfl⟩ := List.mem_map.mp hq
          obtain ⟨g1, g2⟩ := kids_ok hy
          obtain ⟨p1, p2, p3⟩ := hpp
          exact ⟨g2 p1, by show y.dep ≤ 60; omega, by show p.2 + 1 + y.dep ≤ 151; omega⟩
      have hs : sumN (r ++ p.1.kids.map fun k => (k, p.2 + 1)) + 1 = sumN r + p.1.num := by
        rw [sumN_app]
        have := kids_num p.1 (p.2 + 1)
        omega
      obtain ⟨m2, y2, y3, lp⟩ := ih (r ++ p.1.kids.map fun k => (k, p.2 + 1)) (m + 1) x2 x3 (by omega) (by omega) hk
      exact ⟨m2, y2, y3, Loop.step t1 t2 lp⟩
theorem s_is_within {k : Nat} {t : Tl} (ho : t.ok) (hd : t.dep ≤ 60) (hn : t.num ≤ 1000) : callN fs (k + 4) 12 [t.d, .int 20000, .int 150] = some (.bl true, [none, none, none]) := by
  refine call_of (f := f_is_within) rfl ?_
  obtain ⟨m', y2, y3, lp⟩ := within_loop (k := k) (C := ⟨callN fs (k + 3), []⟩) rfl rfl (v := t.d) (b := _) (cnd := _) ⟨_, congrArg FnD.body b_is_within⟩ 1000 [(t, 1)] 0 none none (by simp [sumN]; omega) (by simp [sumN]; omega) (fun q hq => by
    rw [List.mem_singleton.mp hq]
    exact ⟨ho, hd, by show 1 + t.dep ≤ 151; omega⟩)
  have lp' := whileM_of lp
  have hf := t.frz
  have ho := t.own
  rw [b_is_within]
  have how : ownsAt 0 [t.d, .int 20000, .int 150] = [] := by simp [ownsAt, ho, isOwn_int]
  refine run_nx (e := [some t.d, some (.int 20000), some (.int 150), some (.lst true []), some (.int m'), y2, y3, none]) ⟨rfl, by decide⟩ ?_ (by simp [finals, ho, isOwn_int])
  rw [how]
  refine exs_nx (e1 := [some t.d, some (.int 20000), some (.int 150), some (.lst true (List.map enc [(t, 1)])), some (.int ((0 : Nat) : Int)), none, none, none]) (by simp [runD, exs, ex, retv, ev, tst, op, ops, opv, opt, conds, walk, wkOf, wkE, asgn, asgns, setv, setvs, gets, Opd.get, Opd.take, gt, lstAt, biop, bi1, bi2, isiD, isTys, isTy, tyname, finals, isOwn_non, isOwn_bl, isOwn_int, isOwn_str, isOwn_ty, isOwn_tup, isOwn_lst, isOwn_dct, isPlc, ownOnce, putBack, truth, cmpop, binop_addI, binop_addS, binop_addL, binop_addT, binop_sub, binop_mulR, binop_mod, binop_fdiv, negD, nonD, frz_non, frz_bl, frz_int, frz_str, frz_ty, frz_tup, frz_lst, frz_dct, ixD, at?, lenD, small, ownsAt, noOwn, slotNot, Wk.get, Wk.slot, tsl, tsls, clear, restore, isMut, mutAt, mtmut, mtop, sliceD, augop, pinned, big62, walkD, intF, absF, ordF, tupF, allF, maxF, minF, dvmF, findD, splitD, joinD, hf, enc]) (exs_nx (e1 := [some t.d, some (.int 20000), some (.int 150), some (.lst true []), some (.int m'), y2, y3, none]) ?_ ?_)
  · unfold ex
    exact lp'
  · simp [runD, exs, ex, retv, ev, tst, op, ops, opv, opt, conds, walk, wkOf, wkE, asgn, asgns, setv, setvs, gets, Opd.get, Opd.take, gt, lstAt, biop, bi1, bi2, isiD, isTys, isTy, tyname, finals, isOwn_non, isOwn_bl, isOwn_int, isOwn_str, isOwn_ty, isOwn_tup, isOwn_lst, isOwn_dct, isPlc, ownOnce, putBack, truth, cmpop, binop_addI, binop_addS, binop_addL, binop_addT, binop_sub, binop_mulR, binop_mod, binop_fdiv, negD, nonD, frz_non, frz_bl, frz_int, frz_str, frz_ty, frz_tup, frz_lst, frz_dct, ixD, at?, lenD, small, ownsAt, noOwn, slotNot, Wk.get, Wk.slot, tsl, tsls, clear, restore, isMut, mutAt, mtmut, mtop, sliceD, augop, pinned, big62, walkD, intF, absF, ordF, tupF, allF, maxF, minF, dvmF, findD, splitD, joinD]
/-! is_data_of -/
def fstD (p : Tl × Nat) : DV := p.1.d
theorem fst_ok : ∀ {l : List (Tl × Nat)}, (∀ p ∈ l, p.1.dep ≤ 60) → okDs 63 (l.map fstD) = true
  | [], _ => rfl
  | p :: l, h => by
    have h1 := okD_mono (m := 63) (by have := h p List.mem_cons_self; omega) p.1.okD
    have h2 := fst_ok (l := l) fun q hq => h q (List.mem_cons_of_mem _ hq)
    simp [okDs, fstD, h1, h2]
theorem data_turn {k : Nat} {C : Ctx} (hC : C.calls = callN fs (k + 1)) (hp : C.pins = []) {v : DV} {l : List (Tl × Nat)} {p : Tl × Nat} {o2 : Option DV} (h : p.1.dep ≤ 60) (hl : ∀ q ∈ l, q.1.dep ≤ 60) (hz : sumN l + p.1.num ≤ 1000) (b : MSs) (cnd : ME) (hb : ∃ r1 r, f_is_data_of.body = .cons r1 (.cons r (.cons (.while cnd b) (.cons (.ret (.k (.bl true))) .nil)))) :
    tst C cnd [some v, some (.lst true ((l ++ [p]).map fstD)), o2] = some (true, [some v, some (.lst true ((l ++ [p]).map fstD)), o2]) ∧
    ∃ o2', exs C 1 b [some v, some (.lst true ((l ++ [p]).map fstD)), o2] = some (.nx, [some v, some (.lst true ((l ++ p.1.kids.map fun k => (k, p.2 + 1)).map fstD)), o2']) := by
  obtain ⟨r1, r, hb⟩ := hb
  rw [b_is_data_of] at hb
  simp only [MSs.cons.injEq, MS.while.injEq] at hb
  obtain ⟨_, _, ⟨rfl, rfl⟩, _⟩ := hb
  obtain ⟨t, n⟩ := p
  have hok : okDs 63 ((l ++ [(t, n)]).map fstD) = true := fst_ok fun q hq => by
    rcases List.mem_append.mp hq with hq | hq
    · exact hl q hq
    · rw [List.mem_singleton.mp hq]; exact h
  have e1 := eqD_lnil (o := true) (o' := true) hok
  have n2 : callN fs (k + 1) 11 [t.d] = some (.tup (t.kids.map Tl.d), [none]) := s_children_of (k := k) (t := t)
  have hlen := len_le l
  have hbig : l.length + 2 ≤ 16777216 := by dsimp only at hz; omega
  have hb0 : l.length ≤ 16777216 := by omega
  refine ⟨?_, some t.d, ?_⟩
  · simp only [List.map_append, List.map_cons, List.map_nil] at e1
    simp [runD, exs, ex, retv, ev, tst, op, ops, opv, opt, conds, walk, wkOf, wkE, asgn, asgns, setv, setvs, gets, Opd.get, Opd.take, gt, lstAt, biop, bi1, bi2, isiD, isTys, isTy, tyname, finals, isOwn_non, isOwn_bl, isOwn_int, isOwn_str, isOwn_ty, isOwn_tup, isOwn_lst, isOwn_dct, isPlc, ownOnce, putBack, truth, cmpop, binop_addI, binop_addS, binop_addL, binop_addT, binop_sub, binop_mulR, binop_mod, binop_fdiv, negD, nonD, frz_non, frz_bl, frz_int, frz_str, frz_ty, frz_tup, frz_lst, frz_dct, ixD, at?, lenD, small, ownsAt, noOwn, slotNot, Wk.get, Wk.slot, tsl, tsls, clear, restore, isMut, mutAt, mtmut, mtop, sliceD, augop, pinned, big62, walkD, intF, absF, ordF, tupF, allF, maxF, minF, dvmF, findD, splitD, joinD, e1]
  · cases t with
    | two c a b =>
      cases c <;>
      · simp only [Tl.d, Tl.kids, List.map_cons, List.map_nil] at n2
        simp [runD, exs, ex, retv, ev, tst, op, ops, opv, opt, conds, walk, wkOf, wkE, asgn, asgns, setv, setvs, gets, Opd.get, Opd.take, gt, lstAt, biop, bi1, bi2, isiD, isTys, isTy, tyname, finals, isOwn_non, isOwn_bl, isOwn_int, isOwn_str, isOwn_ty, isOwn_tup, isOwn_lst, isOwn_dct, isPlc, ownOnce, putBack, truth, cmpop, binop_addI, binop_addS, binop_addL, binop_addT, binop_sub, binop_mulR, binop_mod, binop_fdiv, negD, nonD, frz_non, frz_bl, frz_int, frz_str, frz_ty, frz_tup, frz_lst, frz_dct, ixD, at?, lenD, small, ownsAt, noOwn, slotNot, Wk.get, Wk.slot, tsl, tsls, clear, restore, isMut, mutAt, mtmut, mtop, sliceD, augop, pinned, big62, walkD, intF, absF, ordF, tupF, allF, maxF, minF, dvmF, findD, splitD, joinD, fstD, hC, hp, n2, isinD, List.lookup, eqD_int, eqD_str, okT, okT_eq, inD, py, pys, SeqAt.shaped, PyData.canLay0, PyData.canLayAll0, PyData.depth, PyData.depthAll, PyData.eqv, st_beq, Tl.d, Tl.kids, Tl.frz, hbig]
    | _ =>
      simp only [Tl.d, Tl.kids, List.map_nil] at n2
      simp [runD, exs, ex, retv, ev, tst, op, ops, opv, opt, conds, walk, wkOf, wkE, asgn, asgns, setv, setvs, gets, Opd.get, Opd.take, gt, lstAt, biop, bi1, bi2, isiD, isTys, isTy, tyname, finals, isOwn_non, isOwn_bl, isOwn_int, isOwn_str, isOwn_ty, isOwn_tup, isOwn_lst, isOwn_dct, isPlc, ownOnce, putBack, truth, cmpop, binop_addI, binop_addS, binop_addL, binop_addT, binop_sub, binop_mulR, binop_mod, binop_fdiv, negD, nonD, frz_non, frz_bl, frz_int, frz_str, frz_ty, frz_tup, frz_lst, frz_dct, ixD, at?, lenD, small, ownsAt, noOwn, slotNot, Wk.get, Wk.slot, tsl, tsls, clear, restore, isMut, mutAt, mtmut, mtop, sliceD, augop, pinned, big62, walkD, intF, absF, ordF, tupF, allF, maxF, minF, dvmF, findD, splitD, joinD, fstD, hC, hp, n2, isinD, List.lookup, eqD_int, eqD_str, okT, okT_eq, inD, py, pys, SeqAt.shaped, PyData.canLay0, PyData.canLayAll0, PyData.depth, PyData.depthAll, PyData.eqv, st_beq, Tl.d, Tl.kids, Tl.frz, hb0]
theorem data_loop {k : Nat} {C : Ctx} (hC : C.calls = callN fs (k + 1)) (hp : C.pins = []) {v : DV} {b : MSs} {cnd : ME} (hb : ∃ r1 r, f_is_data_of.body = .cons r1 (.cons r (.cons (.while cnd b) (.cons (.ret (.k (.bl true))) .nil)))) : ∀ (s : Nat) (l : List (Tl × Nat)) (o2 : Option DV), sumN l ≤ s → s ≤ 1000 → (∀ q ∈ l, q.1.dep ≤ 60) →
    ∃ o2', Loop (tst C cnd) (exs C 1 b) [some v, some (.lst true (l.map fstD)), o2] (.nx, [some v, some (.lst true []), o2']) := by
  intro s
  induction s with
  | zero =>
    intro l o2 hm _ _
    cases l with
    | nil =>
      refine ⟨o2, Loop.stop ?_⟩
      obtain ⟨r1, r, hb⟩ := hb
      rw [b_is_data_of] at hb
      simp only [MSs.cons.injEq, MS.while.injEq] at hb
      obtain ⟨_, _, ⟨rfl, rfl⟩, _⟩ := hb
      have e1 := eqD_lnil (o := true) (o' := true) (xs := []) rfl
      simp [runD, exs, ex, retv, ev, tst, op, ops, opv, opt, conds, walk, wkOf, wkE, asgn, asgns, setv, setvs, gets, Opd.get, Opd.take, gt, lstAt, biop, bi1, bi2, isiD, isTys, isTy, tyname, finals, isOwn_non, isOwn_bl, isOwn_int, isOwn_str, isOwn_ty, isOwn_tup, isOwn_lst, isOwn_dct, isPlc, ownOnce, putBack, truth, cmpop, binop_addI, binop_addS, binop_addL, binop_addT, binop_sub, binop_mulR, binop_mod, binop_fdiv, negD, nonD, frz_non, frz_bl, frz_int, frz_str, frz_ty, frz_tup, frz_lst, frz_dct, ixD, at?, lenD, small, ownsAt, noOwn, slotNot, Wk.get, Wk.slot, tsl, tsls, clear, restore, isMut, mutAt, mtmut, mtop, sliceD, augop, pinned, big62, walkD, intF, absF, ordF, tupF, allF, maxF, minF, dvmF, findD, splitD, joinD, e1]
    | cons p l => have := p.1.num_pos; simp [sumN] at hm; omega
  | succ s ih =>
    intro l o2 hm h1000 hl
    by_cases hn : l = []
    · subst hn
      exact ih [] o2 (by simp [sumN]) (by omega) hl
    · obtain ⟨r, p, rfl⟩ := last_split l hn
      rw [sumN_app] at hm
      simp only [sumN] at hm
      have hr : ∀ q ∈ r, q.1.dep ≤ 60 := fun q hq => hl q (List.mem_append.mpr (.inl hq))
      have hpp := hl p (List.mem_append.mpr (.inr (List.mem_singleton_self _)))
      obtain ⟨t1, x2, t2⟩ := data_turn (k := k) hC hp (v := v) (o2 := o2) hpp hr (by omega) b cnd hb
      have hk : ∀ q ∈ r ++ p.1.kids.map fun k => (k, p.2 + 1), q.1.dep ≤ 60 := fun q hq => by
        rcases List.mem_append.mp hq with hq | hq
        · exact hr q hq
        · obtain ⟨y, hy, rfl⟩ := List.mem_map.mp hq
          obtain ⟨g1, g2⟩ := kids_ok hy
          show y.dep ≤ 60
          omega
      have hs : sumN (r ++ p.1.kids.map fun k => (k, p.2 + 1)) + 1 = sumN r + p.1.num := by
        rw [sumN_app]
        have := kids_num p.1 (p.2 + 1)
        omega
      obtain ⟨y2, lp⟩ := ih (r ++ p.1.kids.map fun k => (k, p.2 + 1)) x2 (by omega) (by omega) hk
      exact ⟨y2, Loop.step t1 t2 lp⟩
theorem s_is_data_of {k : Nat} {t : Tl} (ho : t.ok) (hd : t.dep ≤ 60) (hn : t.num ≤ 1000) : callN fs (k + 5) 13 [t.d] = some (.bl true, [none]) := by
  refine call_of (f := f_is_data_of) rfl ?_
  obtain ⟨y2, lp⟩ := data_loop (k := k + 3) (C := ⟨callN fs (k + 4), []⟩) rfl rfl (v := t.d) (b := _) (cnd := _) ⟨_, _, congrArg FnD.body b_is_data_of⟩ 1000 [(t, 1)] none (by simp [sumN]; omega) (Nat.le_refl _) (fun q hq => by
    rw [List.mem_singleton.mp hq]
    exact hd)
  have lp' := whileM_of lp
  have hf := t.frz
  have hw := s_is_within (k := k) ho hd hn
  have ho := t.own
  rw [b_is_data_of]
  have how : ownsAt 0 [t.d] = [] := by simp [ownsAt, ho]
  refine run_nx (e := [some t.d, some (.lst true []), y2]) ⟨rfl, by decide⟩ ?_ (by simp [finals, ho])
  rw [how]
  refine exs_nx (e1 := [some t.d, none, none]) (by simp [runD, exs, ex, retv, ev, tst, op, ops, opv, opt, conds, walk, wkOf, wkE, asgn, asgns, setv, setvs, gets, Opd.get, Opd.take, gt, lstAt, biop, bi1, bi2, isiD, isTys, isTy, tyname, finals, isOwn_non, isOwn_bl, isOwn_int, isOwn_str, isOwn_ty, isOwn_tup, isOwn_lst, isOwn_dct, isPlc, ownOnce, putBack, truth, cmpop, binop_addI, binop_addS, binop_addL, binop_addT, binop_sub, binop_mulR, binop_mod, binop_fdiv, negD, nonD, frz_non, frz_bl, frz_int, frz_str, frz_ty, frz_tup, frz_lst, frz_dct, ixD, at?, lenD, small, ownsAt, noOwn, slotNot, Wk.get, Wk.slot, tsl, tsls, clear, restore, isMut, mutAt, mtmut, mtop, sliceD, augop, pinned, big62, walkD, intF, absF, ordF, tupF, allF, maxF, minF, dvmF, findD, splitD, joinD, hf, hw, ho]) (exs_nx (e1 := [some t.d, some (.lst true (List.map fstD [(t, 1)])), none]) (by simp [runD, exs, ex, retv, ev, tst, op, ops, opv, opt, conds, walk, wkOf, wkE, asgn, asgns, setv, setvs, gets, Opd.get, Opd.take, gt, lstAt, biop, bi1, bi2, isiD, isTys, isTy, tyname, finals, isOwn_non, isOwn_bl, isOwn_int, isOwn_str, isOwn_ty, isOwn_tup, isOwn_lst, isOwn_dct, isPlc, ownOnce, putBack, truth, cmpop, binop_addI, binop_addS, binop_addL, binop_addT, binop_sub, binop_mulR, binop_mod, binop_fdiv, negD, nonD, frz_non, frz_bl, frz_int, frz_str, frz_ty, frz_tup, frz_lst, frz_dct, ixD, at?, lenD, small, ownsAt, noOwn, slotNot, Wk.get, Wk.slot, tsl, tsls, clear, restore, isMut, mutAt, mtmut, mtop, sliceD, augop, pinned, big62, walkD, intF, absF, ordF, tupF, allF, maxF, minF, dvmF, findD, splitD, joinD, hf, fstD]) (exs_nx (e1 := [some t.d, some (.lst true []), y2]) ?_ ?_))
  · unfold ex
    exact lp'
  · simp [runD, exs, ex, retv, ev, tst, op, ops, opv, opt, conds, walk, wkOf, wkE, asgn, asgns, setv, setvs, gets, Opd.get, Opd.take, gt, lstAt, biop, bi1, bi2, isiD, isTys, isTy, tyname, finals, isOwn_non, isOwn_bl, isOwn_int, isOwn_str, isOwn_ty, isOwn_tup, isOwn_lst, isOwn_dct, isPlc, ownOnce, putBack, truth, cmpop, binop_addI, binop_addS, binop_addL, binop_addT, binop_sub, binop_mulR, binop_mod, binop_fdiv, negD, nonD, frz_non, frz_bl, frz_int, frz_str, frz_ty, frz_tup, frz_lst, frz_dct, ixD, at?, lenD, small, ownsAt, noOwn, slotNot, Wk.get, Wk.slot, tsl, tsls, clear, restore, isMut, mutAt, mtmut, mtop, sliceD, augop, pinned, big62, walkD, intF, absF, ordF, tupF, allF, maxF, minF, dvmF, findD, splitD, joinD]
end K68

end
section
set_option Elab.async false
set_option linter.all false
set_option maxRecDepth 100000
set_option maxHeartbeats 1000000
/-! K8: numbers as texts. -/
namespace K68
open PySem hiding Env Ctx
open Mp PySem.NumText
/-- a number's figures -/
def numT (m : Nat) : Txt := (Nat.toDigits 10 m).map Char.toNat
theorem numT_digits (m : Nat) : ∀ c ∈ numT m, 48 ≤ c ∧ c ≤ 57 := by
  intro c hc
  obtain ⟨ch, hch, e⟩ := List.mem_map.mp hc
  have r := PyProof.Rows.digit_range (Nat.isDigit_of_mem_toDigits (by decide) (by decide) hch)
  rw [← e]
  exact r
theorem numT_val (m : Nat) : digitsVal (numT m) = m := PySem.W.KIN.val_back m
theorem numT_inj {a b : Nat} (h : numT a = numT b) : a = b := by
  rw [← numT_val a, ← numT_val b, h]
theorem numT_ne (m : Nat) : numT m ≠ [] := by
  unfold numT
  intro h
  have := Nat.length_toDigits_pos (b := 10) (n := m)
  rw [List.map_eq_nil_iff] at h
  rw [h] at this
  cases this
theorem numT_len {k m : Nat} (hk : 1 ≤ k) (h : m < 10 ^ k) : (numT m).length ≤ k := by
  unfold numT
  rw [List.length_map]
  exact PyProof.Rows.digits10_le hk h
theorem strI_nat (m : Nat) : strI (m : Int) = numT m := by
  unfold strI numT
  show (Nat.repr m).toList.map Char.toNat = _
  rw [Nat.toList_repr]
theorem strI_neg (m : Nat) : strI (Int.negSucc m) = 45 :: numT (m + 1) := by
  unfold strI numT
  have e : (toString (Int.negSucc m) : String) = "-" ++ Nat.repr (m + 1) := rfl
  rw [e, String.toList_append, List.map_append, Nat.toList_repr]
  rfl
theorem intT_num {m : Nat} (h : (numT m).length ≤ 640) : intT (numT m) = some (m : Int) := by
  unfold intT
  rw [if_pos h]
  have := intText_digits (x := st (numT m)) (numT_digits m) (numT_ne m) (by rw [Mp.st_length]; omega)
  rw [this]
  show some ((digitsVal (numT m) : Nat) : Int) = _
  rw [numT_val]
theorem intT_neg {m : Nat} (h : (numT m).length ≤ 600) : intT (45 :: numT m) = some (-(m : Int)) := by
  unfold intT
  rw [if_pos (by rw [List.length_cons]; omega)]
  have := intText_neg (x := st (45 :: numT m)) (cs := numT m) rfl (numT_digits m) (numT_ne m) (by rw [Mp.st_length, List.length_cons]; omega)
  rw [this]
  show some (-((digitsVal (numT m) : Nat) : Int)) = _
  rw [numT_val]
/-- any figures are a number -/
theorem intT_any {t : Txt} (h : ∀ c ∈ t, 48 ≤ c ∧ c ≤ 57) (hn : t ≠ []) (hl : t.length ≤ 640) : intT t = some ((digitsVal t : Nat) : Int) := by
  unfold intT
  rw [if_pos hl]
  exact intText_digits (x := st t) h hn (by rw [Mp.st_length]; omega)
end K68

end
section
set_option Elab.async false
set_option linter.all false
set_option maxRecDepth 100000
set_option maxHeartbeats 2000000
/-! K9: a telling's word. -/
namespace K68
open PySem hiding Env Ctx
open Mp PySem.NumText
def Tl.word : Tl → Txt
  | .int i => 105 :: (strI i ++ [59])
  | .tt => [116]
  | .un => [117]
  | .nl => [110]
  | .two c a b => (if c then 99 else 112) :: (a.word ++ b.word)
theorem strI_len {i : Int} (h : -2147483648 ≤ i ∧ i ≤ 2147483647) : (strI i).length ≤ 11 := by
  cases i with
  | ofNat m =>
    show (strI (m : Int)).length ≤ 11
    rw [strI_nat]
    exact numT_len (by decide) (by simp at h; omega)
  | negSucc m =>
    rw [strI_neg, List.length_cons]
    have := numT_len (k := 10) (m := m + 1) (by decide) (by omega)
    omega
theorem Tl.word_len : ∀ (t : Tl), t.ok → t.word.length ≤ 13 * t.num
  | .int i, h => by
    have := strI_len h
    simp [Tl.word, Tl.num]
    omega
  | .tt, _ => by simp [Tl.word, Tl.num]
  | .un, _ => by simp [Tl.word, Tl.num]
  | .nl, _ => by simp [Tl.word, Tl.num]
  | .two c a b, h => by
    have h1 := a.word_len h.1
    have h2 := b.word_len h.2
    simp [Tl.word, Tl.num]
    omega
theorem plain_ne {a : Txt} {xs : List DV} {n : Nat} (hn : n ≤ 64) (h : okD n (.tup (.str a :: xs)) = true) {b : Txt} {ys : List DV} (hb : okD 1 (.tup (.str b :: ys)) = true) (ne : b ≠ a) : eqD (.tup (.str b :: ys)) (.tup (.str a :: xs)) = some false :=
  eqD_head (by decide) hn hb h ne
theorem s_word_of : ∀ (t : Tl) (k : Nat), t.ok → t.dep ≤ 60 → t.num ≤ 1000 → callN fs (k + t.dep) 15 [t.d] = some (.str t.word, [none])
  | .int i, k, ho, hd, hn => by
    refine call_of (f := f_word_of) rfl ?_
    rw [b_word_of]
    have h1 := strI_len ho
    have h2 : i.natAbs < 2 ^ 1900 := by
      have : i.natAbs < 2 ^ 32 := by
        obtain ⟨a, b⟩ := ho
        have : (2 : Nat) ^ 32 = 4294967296 := by decide
        omega
      exact Nat.lt_of_lt_of_le this (Nat.pow_le_pow_right (by decide) (by decide))
    have h3 : 1 + (strI i).length ≤ 16777216 := by omega
    have h4 : (strI i).length + 1 + 1 ≤ 16777216 := by omega
    have h5 : strF (.int i) = some (strI i) := if_pos h2
    simp [runD, exs, ex, retv, ev, tst, op, ops, opv, opt, conds, walk, wkOf, wkE, asgn, asgns, setv, setvs, gets, Opd.get, Opd.take, gt, lstAt, biop, bi1, bi2, isiD, isTys, isTy, tyname, finals, isOwn_non, isOwn_bl, isOwn_int, isOwn_str, isOwn_ty, isOwn_tup, isOwn_lst, isOwn_dct, isPlc, ownOnce, putBack, truth, cmpop, binop_addI, binop_addS, binop_addL, binop_addT, binop_sub, binop_mulR, binop_mod, binop_fdiv, negD, nonD, frz_non, frz_bl, frz_int, frz_str, frz_ty, frz_tup, frz_lst, frz_dct, ixD, at?, lenD, small, ownsAt, noOwn, slotNot, Wk.get, Wk.slot, tsl, tsls, clear, restore, isMut, mutAt, mtmut, mtop, sliceD, augop, pinned, big62, walkD, intF, absF, ordF, tupF, allF, maxF, minF, dvmF, findD, splitD, joinD, Tl.d, Tl.word, eqD_str, okT, h5, h3, h4]
  | .tt, k, ho, hd, hn => by
    refine call_of (f := f_word_of) rfl ?_
    rw [b_word_of]
    have e1 := eqD_self (n := 1) (d := Tl.tt.d) (by decide) Tl.tt.okD
    simp only [Tl.d] at e1
    simp [runD, exs, ex, retv, ev, tst, op, ops, opv, opt, conds, walk, wkOf, wkE, asgn, asgns, setv, setvs, gets, Opd.get, Opd.take, gt, lstAt, biop, bi1, bi2, isiD, isTys, isTy, tyname, finals, isOwn_non, isOwn_bl, isOwn_int, isOwn_str, isOwn_ty, isOwn_tup, isOwn_lst, isOwn_dct, isPlc, ownOnce, putBack, truth, cmpop, binop_addI, binop_addS, binop_addL, binop_addT, binop_sub, binop_mulR, binop_mod, binop_fdiv, negD, nonD, frz_non, frz_bl, frz_int, frz_str, frz_ty, frz_tup, frz_lst, frz_dct, ixD, at?, lenD, small, ownsAt, noOwn, slotNot, Wk.get, Wk.slot, tsl, tsls, clear, restore, isMut, mutAt, mtmut, mtop, sliceD, augop, pinned, big62, walkD, intF, absF, ordF, tupF, allF, maxF, minF, dvmF, findD, splitD, joinD, Tl.d, Tl.word, eqD_str, okT, forL, List.lookup, e1]
  | .un, k, ho, hd, hn => by
    refine call_of (f := f_word_of) rfl ?_
    rw [b_word_of]
    have e1 := eqD_self (n := 1) (d := Tl.un.d) (by decide) Tl.un.okD
    have e2 := plain_ne (by decide) Tl.un.okD (b := [98, 111, 111, 108]) (ys := [.bl true]) (by simp [okD, okDs, okT]) (by decide)
    have e3 := plain_ne (by decide) Tl.un.okD (b := [98, 111, 111, 108]) (ys := [.bl false]) (by simp [okD, okDs, okT]) (by decide)
    simp only [Tl.d] at e1
    simp [runD, exs, ex, retv, ev, tst, op, ops, opv, opt, conds, walk, wkOf, wkE, asgn, asgns, setv, setvs, gets, Opd.get, Opd.take, gt, lstAt, biop, bi1, bi2, isiD, isTys, isTy, tyname, finals, isOwn_non, isOwn_bl, isOwn_int, isOwn_str, isOwn_ty, isOwn_tup, isOwn_lst, isOwn_dct, isPlc, ownOnce, putBack, truth, cmpop, binop_addI, binop_addS, binop_addL, binop_addT, binop_sub, binop_mulR, binop_mod, binop_fdiv, negD, nonD, frz_non, frz_bl, frz_int, frz_str, frz_ty, frz_tup, frz_lst, frz_dct, ixD, at?, lenD, small, ownsAt, noOwn, slotNot, Wk.get, Wk.slot, tsl, tsls, clear, restore, isMut, mutAt, mtmut, mtop, sliceD, augop, pinned, big62, walkD, intF, absF, ordF, tupF, allF, maxF, minF, dvmF, findD, splitD, joinD, Tl.d, Tl.word, eqD_str, okT, forL, List.lookup, e1, e2, e3]
  | .nl, k, ho, hd, hn => by
    refine call_of (f := f_word_of) rfl ?_
    rw [b_word_of]
    have e1 := eqD_self (n := 1) (d := Tl.nl.d) (by decide) Tl.nl.okD
    have e2 := plain_ne (by decide) Tl.nl.okD (b := [98, 111, 111, 108]) (ys := [.bl true]) (by simp [okD, okDs, okT]) (by decide)
    have e3 := plain_ne (by decide) Tl.nl.okD (b := [98, 111, 111, 108]) (ys := [.bl false]) (by simp [okD, okDs, okT]) (by decide)
    have e4 := plain_ne (by decide) Tl.nl.okD (b := [117, 110, 105, 116]) (ys := []) (by simp [okD, okDs, okT]) (by decide)
    simp only [Tl.d] at e1
    simp [runD, exs, ex, retv, ev, tst, op, ops, opv, opt, conds, walk, wkOf, wkE, asgn, asgns, setv, setvs, gets, Opd.get, Opd.take, gt, lstAt, biop, bi1, bi2, isiD, isTys, isTy, tyname, finals, isOwn_non, isOwn_bl, isOwn_int, isOwn_str, isOwn_ty, isOwn_tup, isOwn_lst, isOwn_dct, isPlc, ownOnce, putBack, truth, cmpop, binop_addI, binop_addS, binop_addL, binop_addT, binop_sub, binop_mulR, binop_mod, binop_fdiv, negD, nonD, frz_non, frz_bl, frz_int, frz_str, frz_ty, frz_tup, frz_lst, frz_dct, ixD, at?, lenD, small, ownsAt, noOwn, slotNot, Wk.get, Wk.slot, tsl, tsls, clear, restore, isMut, mutAt, mtmut, mtop, sliceD, augop, pinned, big62, walkD, intF, absF, ordF, tupF, allF, maxF, minF, dvmF, findD, splitD, joinD, Tl.d, Tl.word, eqD_str, okT, forL, List.lookup, e1, e2, e3, e4]
  | .two c a b, k, ho, hd, hn => by
    have hok := (Tl.two c a b).okD
    have hd' : max a.dep b.dep + 1 ≤ 60 := hd
    have hn' : a.num + b.num + 1 ≤ 1000 := hn
    have ia := s_word_of a (k + (max a.dep b.dep - a.dep)) ho.1 (by omega) (by omega)
    have ib := s_word_of b (k + (max a.dep b.dep - b.dep)) ho.2 (by omega) (by omega)
    rw [show k + (max a.dep b.dep - a.dep) + a.dep = k + max a.dep b.dep by omega] at ia
    rw [show k + (max a.dep b.dep - b.dep) + b.dep = k + max a.dep b.dep by omega] at ib
    have la := a.word_len ho.1
    have lb := b.word_len ho.2
    have l1 : 1 + a.word.length ≤ 16777216 := by omega
    have l2 : a.word.length + 1 + b.word.length ≤ 16777216 := by omega
    show callN fs (k + max a.dep b.dep + 1) 15 _ = _
    refine call_of (f := f_word_of) rfl ?_
    rw [b_word_of]
    have oa := a.own
    have ob := b.own
    cases c with
    | false =>
      have hok' : okD (max a.dep b.dep + 1) (.tup [.str [112, 97, 105, 114], a.d, b.d]) = true := hok
      have e2 := plain_ne (by omega) hok' (b := [98, 111, 111, 108]) (ys := [.bl true]) (by simp [okD, okDs, okT]) (by decide)
      have e3 := plain_ne (by omega) hok' (b := [98, 111, 111, 108]) (ys := [.bl false]) (by simp [okD, okDs, okT]) (by decide)
      have e4 := plain_ne (by omega) hok' (b := [117, 110, 105, 116]) (ys := []) (by simp [okD, okDs, okT]) (by decide)
      have e5 := plain_ne (by omega) hok' (b := [110, 105, 108]) (ys := []) (by simp [okD, okDs, okT]) (by decide)
      have e6 := plain_ne (by omega) hok' (b := [102, 117, 110]) (ys := []) (by simp [okD, okDs, okT]) (by decide)
      simp [runD, exs, ex, retv, ev, tst, op, ops, opv, opt, conds, walk, wkOf, wkE, asgn, asgns, setv, setvs, gets, Opd.get, Opd.take, gt, lstAt, biop, bi1, bi2, isiD, isTys, isTy, tyname, finals, isOwn_non, isOwn_bl, isOwn_int, isOwn_str, isOwn_ty, isOwn_tup, isOwn_lst, isOwn_dct, isPlc, ownOnce, putBack, truth, cmpop, binop_addI, binop_addS, binop_addL, binop_addT, binop_sub, binop_mulR, binop_mod, binop_fdiv, negD, nonD, frz_non, frz_bl, frz_int, frz_str, frz_ty, frz_tup, frz_lst, frz_dct, ixD, at?, lenD, small, ownsAt, noOwn, slotNot, Wk.get, Wk.slot, tsl, tsls, clear, restore, isMut, mutAt, mtmut, mtop, sliceD, augop, pinned, big62, walkD, intF, absF, ordF, tupF, allF, maxF, minF, dvmF, findD, splitD, joinD, Tl.d, Tl.word, eqD_str, okT, forL, List.lookup, e2, e3, e4, e5, e6, ia, ib, l1, l2, oa, ob]
    | true =>
      have hok' : okD (max a.dep b.dep + 1) (.tup [.str [99, 111, 110, 115], a.d, b.d]) = true := hok
      have e2 := plain_ne (by omega) hok' (b := [98, 111, 111, 108]) (ys := [.bl true]) (by simp [okD, okDs, okT]) (by decide)
      have e3 := plain_ne (by omega) hok' (b := [98, 111, 111, 108]) (ys := [.bl false]) (by simp [okD, okDs, okT]) (by decide)
      have e4 := plain_ne (by omega) hok' (b := [117, 110, 105, 116]) (ys := []) (by simp [okD, okDs, okT]) (by decide)
      have e5 := plain_ne (by omega) hok' (b := [110, 105, 108]) (ys := []) (by simp [okD, okDs, okT]) (by decide)
      have e6 := plain_ne (by omega) hok' (b := [102, 117, 110]) (ys := []) (by simp [okD, okDs, okT]) (by decide)
      simp [runD, exs, ex, retv, ev, tst, op, ops, opv, opt, conds, walk, wkOf, wkE, asgn, asgns, setv, setvs, gets, Opd.get, Opd.take, gt, lstAt, biop, bi1, bi2, isiD, isTys, isTy, tyname, finals, isOwn_non, isOwn_bl, isOwn_int, isOwn_str, isOwn_ty, isOwn_tup, isOwn_lst, isOwn_dct, isPlc, ownOnce, putBack, truth, cmpop, binop_addI, binop_addS, binop_addL, binop_addT, binop_sub, binop_mulR, binop_mod, binop_fdiv, negD, nonD, frz_non, frz_bl, frz_int, frz_str, frz_ty, frz_tup, frz_lst, frz_dct, ixD, at?, lenD, small, ownsAt, noOwn, slotNot, Wk.get, Wk.slot, tsl, tsls, clear, restore, isMut, mutAt, mtmut, mtop, sliceD, augop, pinned, big62, walkD, intF, absF, ordF, tupF, allF, maxF, minF, dvmF, findD, splitD, joinD, Tl.d, Tl.word, eqD_str, okT, forL, List.lookup, e2, e3, e4, e5, e6, ia, ib, l1, l2, oa, ob]
end K68

end
section
set_option Elab.async false
set_option linter.all false
set_option maxRecDepth 100000
set_option maxHeartbeats 2000000
/-! K10: loops over fixed rows; the sum. -/
namespace K68
open PySem hiding Env Ctx
open Mp PySem.NumText
/-- a loop over a row that nothing changes -/
def forF (b : DV → Env → Option (Fl × Env)) : List DV → Env → Option (Fl × Env)
  | [], env => some (.nx, env)
  | x :: r, env => match b x env with
    | some (.nx, e) => forF b r e
    | some (.ct, e) => forF b r e
    | some (.brk, e) => some (.nx, e)
    | some (.ret d, e) => some (.ret d, e)
    | none => none
theorem forL_fix {get : Env → Option (List DV)} {b : DV → Env → Option (Fl × Env)} {xs : List DV} (hg : ∀ env, get env = some xs) : ∀ (r t : Nat) (env : Env), t + r = xs.length → forL get b r t env = forF b (xs.drop t) env
  | 0, t, env, h => by
    unfold forL
    rw [hg]
    have e : xs.length = t := by omega
    dsimp only
    rw [if_pos e, List.drop_eq_nil_of_le (by omega)]
    rfl
  | r + 1, t, env, h => by
    unfold forL
    rw [hg]
    have hlt : t < xs.length := by omega
    dsimp only
    rw [if_pos h.symm, List.drop_eq_getElem_cons hlt, List.getElem?_eq_getElem hlt]
    dsimp only
    unfold forF
    have ih := fun e => forL_fix (b := b) hg r (t + 1) e (by omega)
    cases hb : b xs[t] env with
    | none => rfl
    | some z =>
      obtain ⟨f, e⟩ := z
      cases f <;> first | rfl | exact ih e
/-- a comprehension over such a row -/
def lcF (b : DV → Env → Option (Option DV × Env)) : List DV → Env → Option (List DV × Env)
  | [], env => some ([], env)
  | x :: r, env => match b x env with
    | some (some d, e) => (match lcF b r e with
      | some (ds, e') => some (d :: ds, e')
      | none => none)
    | some (none, e) => lcF b r e
    | none => none
theorem lcL_fix {get : Env → Option (List DV)} {b : DV → Env → Option (Option DV × Env)} {xs : List DV} (hg : ∀ env, get env = some xs) : ∀ (r t : Nat) (env : Env), t + r = xs.length → lcL get b r t env = lcF b (xs.drop t) env
  | 0, t, env, h => by
    unfold lcL
    rw [hg]
    have e : xs.length = t := by omega
    dsimp only
    rw [if_pos e, List.drop_eq_nil_of_le (by omega)]
    rfl
  | r + 1, t, env, h => by
    unfold lcL
    rw [hg]
    have hlt : t < xs.length := by omega
    dsimp only
    rw [if_pos h.symm, List.drop_eq_getElem_cons hlt, List.getElem?_eq_getElem hlt]
    dsimp only
    unfold lcF
    have ih := fun e => lcL_fix (b := b) hg r (t + 1) e (by omega)
    cases hb : b xs[t] env with
    | none => rfl
    | some z =>
      obtain ⟨o, e⟩ := z
      cases o with
      | none => exact ih e
      | some d =>
        dsimp only
        rw [ih e]
        rfl
/-- the two sums -/
def sums : Txt → Nat → Nat → Nat × Nat
  | [], a, b => (a, b)
  | c :: t, a, b => sums t ((a + c) % 9973) ((b + (a + c) % 9973) % 9973)
def sumV (t : Txt) : Nat := (sums t 1 0).2 * 9973 + (sums t 1 0).1
theorem ex_for_fix {C : Ctx} {np : Nat} {t : MT} {it : MI2} {b : MSs} {env e1 : Env} {xs : List DV} (hw : walk C it env = some (.fix xs, e1)) : ex C np (.for t it b) env = forF (forB C np t b) xs e1 := by
  unfold ex
  rw [hw]
  exact forL_fix (get := Wk.get (.fix xs)) (b := forB C np t b) (xs := xs) (fun _ => rfl) xs.length 0 e1 (by omega)
theorem sum_for {C : Ctx} (hp : C.pins = []) {b : MSs} {r1 r3 : MS} (hb : f_sum_of_signs.body = .cons r1 (.cons (.for (.nm 1) (.seq (.var 0)) b) (.cons r3 .nil))) : ∀ (t : Txt) (v : DV) (o1 : Option DV) (x y : Nat), ∃ o1', forF (forB C 1 (.nm 1) b) (t.map fun c => .str [c]) [some v, o1, some (.int x), some (.int y)] = some (.nx, [some v, o1', some (.int (sums t x y).1), some (.int (sums t x y).2)])
  | [], v, o1, x, y => ⟨o1, rfl⟩
  | c :: t, v, o1, x, y => by
    obtain ⟨o1', h⟩ := sum_for hp hb t v (some (.str [c])) ((x + c) % 9973) ((y + (x + c) % 9973) % 9973)
    refine ⟨o1', ?_⟩
    have e : forB C 1 (.nm 1) b (.str [c]) [some v, o1, some (.int x), some (.int y)] = some (.nx, [some v, some (.str [c]), some (.int (((x + c) % 9973 : Nat) : Int)), some (.int (((y + (x + c) % 9973) % 9973 : Nat) : Int))]) := by
      rw [b_sum_of_signs] at hb
      simp only [MSs.cons.injEq, MS.for.injEq] at hb
      obtain ⟨_, ⟨_, _, rfl⟩, _⟩ := hb
      simp [forB, runD, exs, ex, retv, ev, tst, op, ops, opv, opt, conds, walk, wkOf, wkE, asgn, asgns, setv, setvs, gets, Opd.get, Opd.take, gt, lstAt, biop, bi1, bi2, isiD, isTys, isTy, tyname, finals, isOwn_non, isOwn_bl, isOwn_int, isOwn_str, isOwn_ty, isOwn_tup, isOwn_lst, isOwn_dct, isPlc, ownOnce, putBack, truth, cmpop, binop_addI, binop_addS, binop_addL, binop_addT, binop_sub, binop_mulR, binop_mod, binop_fdiv, negD, nonD, frz_non, frz_bl, frz_int, frz_str, frz_ty, frz_tup, frz_lst, frz_dct, ixD, at?, lenD, small, ownsAt, noOwn, slotNot, Wk.get, Wk.slot, tsl, tsls, clear, restore, isMut, mutAt, mtmut, mtop, sliceD, augop, pinned, big62, walkD, intF, absF, ordF, tupF, allF, maxF, minF, dvmF, findD, splitD, joinD, hp]
    rw [List.map_cons]
    unfold forF
    rw [e]
    exact h
theorem p1 {cs : Calls} {t : Txt} : ex ⟨cs, []⟩ 1 (.parT (.cons (.nm 2) (.cons (.nm 3) .nil)) (.cons (.k (.int 1)) (.cons (.k (.int 0)) .nil))) [some (.str t), none, none, none] = some (.nx, [some (.str t), none, some (.int 1), some (.int 0)]) := by
  simp [runD, exs, ex, retv, ev, tst, op, ops, opv, opt, conds, walk, wkOf, wkE, asgn, asgns, setv, setvs, gets, Opd.get, Opd.take, gt, lstAt, biop, bi1, bi2, isiD, isTys, isTy, tyname, finals, isOwn_non, isOwn_bl, isOwn_int, isOwn_str, isOwn_ty, isOwn_tup, isOwn_lst, isOwn_dct, isPlc, ownOnce, putBack, truth, cmpop, binop_addI, binop_addS, binop_addL, binop_addT, binop_sub, binop_mulR, binop_mod, binop_fdiv, negD, nonD, frz_non, frz_bl, frz_int, frz_str, frz_ty, frz_tup, frz_lst, frz_dct, ixD, at?, lenD, small, ownsAt, noOwn, slotNot, Wk.get, Wk.slot, tsl, tsls, clear, restore, isMut, mutAt, mtmut, mtop, sliceD, augop, pinned, big62, walkD, intF, absF, ordF, tupF, allF, maxF, minF, dvmF, findD, splitD, joinD]
theorem p3g {cs : Calls} {t : Txt} {o1 : Option DV} {x y m : Int} (hm : 0 ≤ m ∧ m < 4611686018427387904) : exs ⟨cs, []⟩ 1 (.cons (.ret (.bin .add (.bin .mul (.var 3) (.k (.int m))) (.var 2))) .nil) [some (.str t), o1, some (.int x), some (.int y)] = some (.ret (.int (y * m + x)), [some (.str t), o1, some (.int x), some (.int y)]) := by
  simp [exs, ex, retv, ev, op, Opd.get, Opd.take, gt, binop_mulR hm, binop_addI]
theorem p2 {cs : Calls} {t : Txt} {e : Env} (h : e = [some (.str t), none, some (.int 1), some (.int 0)]) : walk ⟨cs, []⟩ (.seq (.var 0)) e = some (.fix (t.map fun c => .str [c]), e) := by
  subst h
  simp [runD, exs, ex, retv, ev, tst, op, ops, opv, opt, conds, walk, wkOf, wkE, asgn, asgns, setv, setvs, gets, Opd.get, Opd.take, gt, lstAt, biop, bi1, bi2, isiD, isTys, isTy, tyname, finals, isOwn_non, isOwn_bl, isOwn_int, isOwn_str, isOwn_ty, isOwn_tup, isOwn_lst, isOwn_dct, isPlc, ownOnce, putBack, truth, cmpop, binop_addI, binop_addS, binop_addL, binop_addT, binop_sub, binop_mulR, binop_mod, binop_fdiv, negD, nonD, frz_non, frz_bl, frz_int, frz_str, frz_ty, frz_tup, frz_lst, frz_dct, ixD, at?, lenD, small, ownsAt, noOwn, slotNot, Wk.get, Wk.slot, tsl, tsls, clear, restore, isMut, mutAt, mtmut, mtop, sliceD, augop, pinned, big62, walkD, intF, absF, ordF, tupF, allF, maxF, minF, dvmF, findD, splitD, joinD]
theorem s_sum_of_signs {k : Nat} {t : Txt} : callN fs (k + 1) 23 [.str t] = some (.int (sumV t), [none]) := by
  refine call_of (f := f_sum_of_signs) rfl ?_
  obtain ⟨o1, h⟩ := sum_for (C := ⟨callN fs k, []⟩) rfl (congrArg FnD.body b_sum_of_signs) t (.str t) none 1 0
  have hv : (sumV t : Int) = ((sums t 1 0).2 : Int) * 9973 + ((sums t 1 0).1 : Int) := by unfold sumV; omega
  rw [hv]
  generalize sums t 1 0 = z at h ⊢
  rw [b_sum_of_signs]
  refine run_nx (e := [some (.str t), o1, some (.int z.1), some (.int z.2)]) ⟨rfl, by decide⟩ ?_ (by simp [finals, isOwn_str])
  refine exs_nx p1 (exs_nx ((ex_for_fix (p2 rfl)).trans h) (p3g (by omega)))
end K68

end
section
set_option Elab.async false
set_option linter.all false
set_option maxRecDepth 100000
set_option maxHeartbeats 2000000
/-! K11: records and their lines. -/
namespace K68
open PySem hiding Env Ctx
open Mp PySem.NumText
/-- the records that the law draws -/
inductive Rec where
  | begun (n : Nat) | kept (a b : Nat) | asked (nm : Txt) (t : Tl) | answered (t : Tl)
def Rec.d : Rec → DV
  | .begun n => .tup [.str [98, 101, 103, 117, 110], .int n]
  | .kept a b => .tup [.str [107, 101, 112, 116], .int a, .int b]
  | .asked nm t => .tup [.str [97, 115, 107, 101, 100], .str nm, t.d]
  | .answered t => .tup [.str [97, 110, 115, 119, 101, 114, 101, 100], t.d]
def Rec.parts : Rec → List Txt
  | .begun n => [[98, 101, 103, 117, 110], numT n]
  | .kept a b => [[107, 101, 112, 116], numT a, numT b]
  | .asked nm t => [[97, 115, 107, 101, 100], nm, t.word]
  | .answered t => [[97, 110, 115, 119, 101, 114, 101, 100], t.word]
def smallT (t : Tl) : Prop := t.ok ∧ t.dep ≤ 4 ∧ t.num ≤ 15
def Rec.ok : Rec → Prop
  | .begun n => n < 1000000000000
  | .kept a b => a < 1000000000000 ∧ b < 1000000000000
  | .asked nm t => nm ∈ ([[71, 101, 116], [80, 117, 116, 50], [70, 97, 105, 108]] : List Txt) ∧ smallT t
  | .answered t => smallT t
theorem strF_nat {n : Nat} (h : n < 1000000000000000000) : strF (.int (n : Int)) = some (numT n) := by
  have h2 : (n : Int).natAbs < 2 ^ 1900 := by
    have h3 : n < 2 ^ 64 := by
      have : (2 : Nat) ^ 64 = 18446744073709551616 := by decide
      omega
    have h4 : (2 : Nat) ^ 64 ≤ 2 ^ 1900 := Nat.pow_le_pow_right (by decide) (by decide)
    rw [Int.natAbs_natCast]
    exact Nat.lt_of_lt_of_le h3 h4
  rw [← strI_nat]
  exact if_pos h2
theorem s_parts_of {k : Nat} {r : Rec} (ho : r.ok) : callN fs (k + 5) 24 [r.d] = some (.lst true (r.parts.map .str), [none]) := by
  refine call_of (f := f_parts_of) rfl ?_
  rw [b_parts_of]
  cases r with
  | begun n =>
    have h := strF_nat (n := n) (by have : n < 1000000000000 := ho; omega)
    simp [runD, exs, ex, retv, ev, tst, op, ops, opv, opt, conds, walk, wkOf, wkE, asgn, asgns, setv, setvs, gets, Opd.get, Opd.take, gt, lstAt, biop, bi1, bi2, isiD, isTys, isTy, tyname, finals, isOwn_non, isOwn_bl, isOwn_int, isOwn_str, isOwn_ty, isOwn_tup, isOwn_lst, isOwn_dct, isPlc, ownOnce, putBack, truth, cmpop, binop_addI, binop_addS, binop_addL, binop_addT, binop_sub, binop_mulR, binop_mod, binop_fdiv, negD, nonD, frz_non, frz_bl, frz_int, frz_str, frz_ty, frz_tup, frz_lst, frz_dct, ixD, at?, lenD, small, ownsAt, noOwn, slotNot, Wk.get, Wk.slot, tsl, tsls, clear, restore, isMut, mutAt, mtmut, mtop, sliceD, augop, pinned, big62, walkD, intF, absF, ordF, tupF, allF, maxF, minF, dvmF, findD, splitD, joinD, isinD, List.lookup, eqD_int, eqD_str, okT, okT_eq, inD, py, pys, SeqAt.shaped, PyData.canLay0, PyData.canLayAll0, PyData.depth, PyData.depthAll, PyData.eqv, st_beq, Rec.d, Rec.parts, cut, sIx, lcL, h]
  | kept a b =>
    obtain ⟨ha, hb⟩ := ho
    have h := strF_nat (n := a) (by omega)
    have h' := strF_nat (n := b) (by omega)
    simp [runD, exs, ex, retv, ev, tst, op, ops, opv, opt, conds, walk, wkOf, wkE, asgn, asgns, setv, setvs, gets, Opd.get, Opd.take, gt, lstAt, biop, bi1, bi2, isiD, isTys, isTy, tyname, finals, isOwn_non, isOwn_bl, isOwn_int, isOwn_str, isOwn_ty, isOwn_tup, isOwn_lst, isOwn_dct, isPlc, ownOnce, putBack, truth, cmpop, binop_addI, binop_addS, binop_addL, binop_addT, binop_sub, binop_mulR, binop_mod, binop_fdiv, negD, nonD, frz_non, frz_bl, frz_int, frz_str, frz_ty, frz_tup, frz_lst, frz_dct, ixD, at?, lenD, small, ownsAt, noOwn, slotNot, Wk.get, Wk.slot, tsl, tsls, clear, restore, isMut, mutAt, mtmut, mtop, sliceD, augop, pinned, big62, walkD, intF, absF, ordF, tupF, allF, maxF, minF, dvmF, findD, splitD, joinD, isinD, List.lookup, eqD_int, eqD_str, okT, okT_eq, inD, py, pys, SeqAt.shaped, PyData.canLay0, PyData.canLayAll0, PyData.depth, PyData.depthAll, PyData.eqv, st_beq, Rec.d, Rec.parts, cut, sIx, lcL, h, h']
  | asked nm t =>
    obtain ⟨h1, h2, h3, h4⟩ := ho
    have hw := s_word_of t (k + (4 - t.dep)) h2 (by omega) (by omega)
    rw [show k + (4 - t.dep) + t.dep = k + 4 by omega] at hw
    simp [runD, exs, ex, retv, ev, tst, op, ops, opv, opt, conds, walk, wkOf, wkE, asgn, asgns, setv, setvs, gets, Opd.get, Opd.take, gt, lstAt, biop, bi1, bi2, isiD, isTys, isTy, tyname, finals, isOwn_non, isOwn_bl, isOwn_int, isOwn_str, isOwn_ty, isOwn_tup, isOwn_lst, isOwn_dct, isPlc, ownOnce, putBack, truth, cmpop, binop_addI, binop_addS, binop_addL, binop_addT, binop_sub, binop_mulR, binop_mod, binop_fdiv, negD, nonD, frz_non, frz_bl, frz_int, frz_str, frz_ty, frz_tup, frz_lst, frz_dct, ixD, at?, lenD, small, ownsAt, noOwn, slotNot, Wk.get, Wk.slot, tsl, tsls, clear, restore, isMut, mutAt, mtmut, mtop, sliceD, augop, pinned, big62, walkD, intF, absF, ordF, tupF, allF, maxF, minF, dvmF, findD, splitD, joinD, isinD, List.lookup, eqD_int, eqD_str, okT, okT_eq, inD, py, pys, SeqAt.shaped, PyData.canLay0, PyData.canLayAll0, PyData.depth, PyData.depthAll, PyData.eqv, st_beq, Rec.d, Rec.parts, hw, t.own]
  | answered t =>
    obtain ⟨h2, h3, h4⟩ := ho
    have hw := s_word_of t (k + (4 - t.dep)) h2 (by omega) (by omega)
    rw [show k + (4 - t.dep) + t.dep = k + 4 by omega] at hw
    simp [runD, exs, ex, retv, ev, tst, op, ops, opv, opt, conds, walk, wkOf, wkE, asgn, asgns, setv, setvs, gets, Opd.get, Opd.take, gt, lstAt, biop, bi1, bi2, isiD, isTys, isTy, tyname, finals, isOwn_non, isOwn_bl, isOwn_int, isOwn_str, isOwn_ty, isOwn_tup, isOwn_lst, isOwn_dct, isPlc, ownOnce, putBack, truth, cmpop, binop_addI, binop_addS, binop_addL, binop_addT, binop_sub, binop_mulR, binop_mod, binop_fdiv, negD, nonD, frz_non, frz_bl, frz_int, frz_str, frz_ty, frz_tup, frz_lst, frz_dct, ixD, at?, lenD, small, ownsAt, noOwn, slotNot, Wk.get, Wk.slot, tsl, tsls, clear, restore, isMut, mutAt, mtmut, mtop, sliceD, augop, pinned, big62, walkD, intF, absF, ordF, tupF, allF, maxF, minF, dvmF, findD, splitD, joinD, isinD, List.lookup, eqD_int, eqD_str, okT, okT_eq, inD, py, pys, SeqAt.shaped, PyData.canLay0, PyData.canLayAll0, PyData.depth, PyData.depthAll, PyData.eqv, st_beq, Rec.d, Rec.parts, hw, t.own]
end K68

end
section
set_option Elab.async false
set_option linter.all false
set_option maxRecDepth 100000
set_option maxHeartbeats 2000000
/-! K12: texts in plain Lean: parts, sums, lines. -/
namespace K68
open PySem hiding Env Ctx
open Mp PySem.NumText
theorem splitOn_ne (c : Nat) : ∀ (t : Txt), splitOn c t ≠ []
  | [] => by simp [splitOn]
  | x :: r => by
    unfold splitOn
    split
    · simp
    · split <;> simp
theorem splitOn_none {c : Nat} : ∀ {t : Txt}, c ∉ t → splitOn c t = [t]
  | [], _ => rfl
  | x :: r, h => by
    unfold splitOn
    rw [if_neg (fun e => h (by rw [e]; exact List.mem_cons_self))]
    rw [splitOn_none (t := r) fun m => h (List.mem_cons_of_mem _ m)]
theorem splitOn_app (c : Nat) : ∀ (a b : Txt), splitOn c (a ++ c :: b) = splitOn c a ++ splitOn c b
  | [], b => by simp [splitOn]
  | x :: a, b => by
    have ih := splitOn_app c a b
    by_cases h : x = c
    · simp [splitOn, h, ih]
    · obtain ⟨w, ws, e⟩ := List.exists_cons_of_ne_nil (splitOn_ne c a)
      simp [splitOn, h, ih, e]
theorem joinT_cons (s x : Txt) {ps : List Txt} (h : ps ≠ []) : joinT s (x :: ps) = x ++ s ++ joinT s ps := by
  obtain ⟨w, ws, e⟩ := List.exists_cons_of_ne_nil h
  rw [e]
  rfl
theorem joinT_snoc (s q : Txt) : ∀ {ps : List Txt}, ps ≠ [] → joinT s (ps ++ [q]) = joinT s ps ++ s ++ q
  | [], h => absurd rfl h
  | [x], _ => rfl
  | x :: y :: r, _ => by
    rw [List.cons_append, joinT_cons s x (by simp), joinT_snoc s q (ps := y :: r) (by simp), joinT_cons s x (by simp)]
    simp
theorem join_split (c : Nat) : ∀ (t : Txt), joinT [c] (splitOn c t) = t
  | [] => rfl
  | x :: r => by
    have ih := join_split c r
    obtain ⟨w, ws, e⟩ := List.exists_cons_of_ne_nil (splitOn_ne c r)
    by_cases h : x = c
    · unfold splitOn
      rw [if_pos h, joinT_cons _ _ (splitOn_ne c r), ih, h]
      rfl
    · unfold splitOn
      rw [if_neg h]
      rw [e] at ih ⊢
      dsimp only
      cases ws with
      | nil =>
        have ih' : w = r := ih
        rw [ih']; rfl
      | cons y ys =>
        have ih' : w ++ [c] ++ joinT [c] (y :: ys) = r := ih
        show (x :: w) ++ [c] ++ joinT [c] (y :: ys) = x :: r
        rw [← ih']
        simp
theorem split_join {c : Nat} : ∀ {ps : List Txt}, ps ≠ [] → (∀ p ∈ ps, c ∉ p) → splitOn c (joinT [c] ps) = ps
  | [], h, _ => absurd rfl h
  | [x], _, h => splitOn_none (h x (List.mem_singleton_self _))
  | x :: y :: r, _, h => by
    rw [joinT_cons _ _ (List.cons_ne_nil _ _)]
    have e : x ++ [c] ++ joinT [c] (y :: r) = x ++ c :: joinT [c] (y :: r) := by simp
    rw [e, splitOn_app, splitOn_none (h x List.mem_cons_self), split_join (List.cons_ne_nil _ _) fun p hp => h p (List.mem_cons_of_mem _ hp)]
    rfl
/-! sums -/
theorem sums_fst : ∀ (t : Txt) (a b : Nat), (sums t a b).1 % 9973 = (a + t.sum) % 9973
  | [], a, b => by simp [sums]
  | c :: t, a, b => by
    have ih := sums_fst t ((a + c) % 9973) ((b + (a + c) % 9973) % 9973)
    unfold sums
    rw [ih, List.sum_cons]
    omega
theorem sums_lt : ∀ (t : Txt) (a b : Nat), a < 9973 → b < 9973 → (sums t a b).1 < 9973 ∧ (sums t a b).2 < 9973
  | [], a, b, h1, h2 => ⟨h1, h2⟩
  | c :: t, a, b, h1, h2 => by
    unfold sums
    exact sums_lt t _ _ (Nat.mod_lt _ (by decide)) (Nat.mod_lt _ (by decide))
theorem sumV_mod (t : Txt) : sumV t % 9973 = (1 + t.sum) % 9973 := by
  have h := sums_fst t 1 0
  unfold sumV
  omega
theorem sumV_lt (t : Txt) : sumV t < 100000000 := by
  have h := sums_lt t 1 0 (by decide) (by decide)
  unfold sumV
  omega
theorem sum_ne {a b : Txt} (h : a.sum % 9973 ≠ b.sum % 9973) : numT (sumV a) ≠ numT (sumV b) := by
  intro e
  have e := numT_inj e
  have h1 := sumV_mod a
  have h2 := sumV_mod b
  omega
/-! the parts of a record -/
theorem strI_clean {i : Int} : ∀ c ∈ strI i, 45 ≤ c ∧ c ≤ 57 := by
  intro c hc
  cases i with
  | ofNat m =>
    have hc : c ∈ strI (m : Int) := hc
    rw [strI_nat] at hc
    have := numT_digits m c hc
    omega
  | negSucc m =>
    rw [strI_neg] at hc
    rcases List.mem_cons.mp hc with rfl | hc
    · omega
    · have := numT_digits _ c hc
      omega
theorem word_clean : ∀ (t : Tl), ∀ c ∈ t.word, 45 ≤ c ∧ c ≤ 122
  | .int i => fun c hc => by
    simp only [Tl.word, List.mem_cons, List.mem_append, List.not_mem_nil, or_false] at hc
    rcases hc with rfl | hc | rfl
    · omega
    · have := strI_clean c hc; omega
    · omega
  | .tt => by simp [Tl.word]
  | .un => by simp [Tl.word]
  | .nl => by simp [Tl.word]
  | .two c a b => fun x hx => by
    simp only [Tl.word, List.mem_cons, List.mem_append] at hx
    rcases hx with hx | hx | hx
    · cases c <;> simp at hx <;> omega
    · exact word_clean a x hx
    · exact word_clean b x hx
theorem word_head (t : Tl) : ∃ c w, t.word = c :: w ∧ 57 < c := by
  cases t with
  | int i => exact ⟨_, _, rfl, by omega⟩
  | tt => exact ⟨_, _, rfl, by omega⟩
  | un => exact ⟨_, _, rfl, by omega⟩
  | nl => exact ⟨_, _, rfl, by omega⟩
  | two c a b => exact ⟨_, _, rfl, by cases c <;> simp⟩
theorem numT_len12 {n : Nat} (h : n < 1000000000000) : (numT n).length ≤ 12 := numT_len (k := 12) (by decide) (by omega)
theorem parts_clean {r : Rec} (ho : r.ok) : ∀ p ∈ r.parts, (∀ c ∈ p, 45 ≤ c ∧ c ≤ 122) ∧ p ≠ [] ∧ p.length ≤ 195 := by
  have dig : ∀ {n : Nat}, n < 1000000000000 → (∀ c ∈ numT n, 45 ≤ c ∧ c ≤ 122) ∧ numT n ≠ [] ∧ (numT n).length ≤ 195 := fun {n} hn => ⟨fun c hc => by have := numT_digits n c hc; omega, numT_ne n, by have := numT_len12 hn; omega⟩
  have wd : ∀ {t : Tl}, smallT t → (∀ c ∈ t.word, 45 ≤ c ∧ c ≤ 122) ∧ t.word ≠ [] ∧ t.word.length ≤ 195 := fun {t} ht => by
    refine ⟨word_clean t, ?_, ?_⟩
    · obtain ⟨c, w, e, _⟩ := word_head t; rw [e]; simp
    · have := t.word_len ht.1; have := ht.2.2; omega
  cases r with
  | begun n =>
    intro p hp
    simp only [Rec.parts, List.mem_cons, List.not_mem_nil, or_false] at hp
    rcases hp with rfl | rfl
    · refine ⟨?_, by simp, by simp⟩
      simp
    · exact dig ho
  | kept a b =>
    intro p hp
    simp only [Rec.parts, List.mem_cons, List.not_mem_nil, or_false] at hp
    rcases hp with rfl | rfl | rfl
    · refine ⟨?_, by simp, by simp⟩
      simp
    · exact dig ho.1
    · exact dig ho.2
  | asked nm t =>
    intro p hp
    simp only [Rec.parts, List.mem_cons, List.not_mem_nil, or_false] at hp
    rcases hp with rfl | rfl | rfl
    · refine ⟨?_, by simp, by simp⟩
      simp
    · have := ho.1
      simp only [List.mem_cons, List.not_mem_nil, or_false] at this
      rcases this with rfl | rfl | rfl
      · exact ⟨by simp, by simp, by simp⟩
      · exact ⟨by simp, by simp, by simp⟩
      · exact ⟨by simp, by simp, by simp⟩
    · exact wd ho.2
  | answered t =>
    intro p hp
    simp only [Rec.parts, List.mem_cons, List.not_mem_nil, or_false] at hp
    rcases hp with rfl | rfl
    · refine ⟨?_, by simp, by simp⟩
      simp
    · exact wd ho
theorem parts_ne (r : Rec) : r.parts ≠ [] := by cases r <;> simp [Rec.parts]
/-- a line's text ahead of its sum; the line without its line feed -/
def head (n : Nat) (r : Rec) : Txt := joinT [32] (numT n :: r.parts)
def body (n : Nat) (r : Rec) : Txt := head n r ++ 32 :: numT (sumV (head n r))
def line (n : Nat) (r : Rec) : Txt := body n r ++ [10]
theorem no32 {t : Txt} (h : ∀ c ∈ t, 45 ≤ c ∧ c ≤ 122) : 32 ∉ t := fun m => by have := h 32 m; omega
theorem num45 (n : Nat) : ∀ c ∈ numT n, 45 ≤ c ∧ c ≤ 122 := fun c hc => by have := numT_digits n c hc; omega
theorem head_split {n : Nat} {r : Rec} (ho : r.ok) : splitOn 32 (head n r) = numT n :: r.parts := by
  refine split_join (by simp) ?_
  intro p hp
  rcases List.mem_cons.mp hp with rfl | hp
  · exact no32 (num45 n)
  · exact no32 (parts_clean ho p hp).1
theorem joinT_mem {s : Txt} {c : Nat} : ∀ {ps : List Txt}, c ∈ joinT s ps → c ∈ s ∨ ∃ p ∈ ps, c ∈ p
  | [], h => by simp [joinT] at h
  | [x], h => .inr ⟨x, List.mem_singleton_self _, h⟩
  | x :: y :: r, h => by
    rw [joinT_cons s x (List.cons_ne_nil _ _)] at h
    simp only [List.mem_append] at h
    rcases h with (h | h) | h
    · exact .inr ⟨x, List.mem_cons_self, h⟩
    · exact .inl h
    · rcases joinT_mem h with h | ⟨p, hp, hc⟩
      · exact .inl h
      · exact .inr ⟨p, List.mem_cons_of_mem _ hp, hc⟩
theorem head_clean {n : Nat} {r : Rec} (ho : r.ok) : ∀ c ∈ head n r, 32 ≤ c ∧ c ≤ 122 := by
  intro c hc
  rcases joinT_mem hc with h | ⟨p, hp, h⟩
  · simp at h; omega
  · rcases List.mem_cons.mp hp with rfl | hp
    · have := num45 n c h; omega
    · have := (parts_clean ho p hp).1 c h; omega
theorem body_clean {n : Nat} {r : Rec} (ho : r.ok) : ∀ c ∈ body n r, 32 ≤ c ∧ c ≤ 122 := by
  intro c hc
  simp only [body, List.mem_append, List.mem_cons] at hc
  rcases hc with hc | rfl | hc
  · exact head_clean ho c hc
  · omega
  · have := num45 _ c hc; omega
theorem body_no10 {n : Nat} {r : Rec} (ho : r.ok) : 10 ∉ body n r := fun h => by have := body_clean ho 10 h; omega
theorem joinT_len {s : Txt} : ∀ (ps : List Txt), (joinT s ps).length ≤ (ps.map List.length).sum + ps.length * s.length
  | [] => by simp [joinT]
  | [x] => by simp [joinT]
  | x :: y :: r => by
    rw [joinT_cons s x (List.cons_ne_nil _ _)]
    have := joinT_len (s := s) (y :: r)
    rw [List.map_cons, List.sum_cons, List.length_cons, Nat.add_mul]
    simp only [List.length_append]
    omega
theorem parts_sum {r : Rec} (ho : r.ok) : (r.parts.map List.length).sum ≤ 585 ∧ r.parts.length ≤ 3 ∧ 2 ≤ r.parts.length := by
  have h := parts_clean ho
  cases r <;> simp [Rec.parts] at h ⊢ <;> omega
theorem head_len {n : Nat} {r : Rec} (ho : r.ok) (hn : n < 1000000000000) : (head n r).length ≤ 601 := by
  have h1 := joinT_len (s := [32]) (numT n :: r.parts)
  have h2 := parts_sum ho
  have h3 := numT_len12 hn
  unfold head
  simp at h1
  omega
theorem body_len {n : Nat} {r : Rec} (ho : r.ok) (hn : n < 1000000000000) : (body n r).length ≤ 611 := by
  have h1 := head_len ho hn
  have h2 := numT_len (k := 8) (m := sumV (head n r)) (by decide) (by have := sumV_lt (head n r); omega)
  simp [body]
  omega
theorem okT_of {t : Txt} (h : ∀ c ∈ t, c ≤ 126) : okT t = true := by
  unfold okT
  exact List.all_eq_true.mpr fun c hc => by have := h c hc; simp; omega
theorem okT_num (m : Nat) : okT (numT m) = true := okT_of fun c hc => by have := numT_digits m c hc; omega
end K68

end
section
set_option Elab.async false
set_option linter.all false
set_option maxRecDepth 100000
set_option maxHeartbeats 2000000
/-! K13: loops once more; numbers, names, records, lines. -/
namespace K68
open PySem hiding Env Ctx
open Mp PySem.NumText
/-- a comprehension whose turns leave the slots as they are -/
theorem lcL_map {get : Env → Option (List DV)} {b : DV → Env → Option (Option DV × Env)} {env : Env} {xs : List DV} {f : DV → Option DV} (hg : get env = some xs) (hs : ∀ x ∈ xs, b x env = some (f x, env)) : ∀ (r t : Nat), t + r = xs.length → lcL get b r t env = some ((xs.drop t).filterMap f, env)
  | 0, t, h => by
    unfold lcL
    rw [hg]
    have e : xs.length = t := by omega
    dsimp only
    rw [if_pos e, List.drop_eq_nil_of_le (by omega)]
    rfl
  | r + 1, t, h => by
    unfold lcL
    rw [hg]
    have hlt : t < xs.length := by omega
    dsimp only
    rw [if_pos h.symm, List.drop_eq_getElem_cons hlt, List.getElem?_eq_getElem hlt]
    dsimp only
    rw [hs _ (List.getElem_mem hlt)]
    have ih := lcL_map hg hs r (t + 1) (by omega)
    cases hf : f xs[t] with
    | none =>
      dsimp only
      rw [ih, List.filterMap_cons_none hf]
    | some d =>
      dsimp only
      rw [ih, List.filterMap_cons_some hf]
theorem op_lc {C : Ctx} {t : MT} {it : MI2} {cs : MEs} {e : ME} {env e1 e0 : Env} {wk : Wk} {ys : List DV} (f : DV → Option DV) (hw : walk C it env = some (wk, e1)) (hn : (noOwn e1 (tsl t) && slotNot wk (tsl t)) = true) (h0 : clear (tsl t) e1 = e0) (hg : wk.get e1 = some ys) (hg2 : wk.get e0 = some ys) (hs : ∀ x ∈ ys, lcB C t cs e x e0 = some (f x, e0)) (hl : (ys.filterMap f).length ≤ 16777216) : op C (.lc t it cs e) env = some (.val (.lst true (ys.filterMap f)), restore e1 (tsl t) (clear (tsl t) e0)) := by
  have h := lcL_map (f := f) hg2 hs ys.length 0 (by omega)
  have hsm : small (ys.filterMap f).length = true := by simpa [small] using hl
  unfold op
  rw [hw]
  simp only [Option.bind_eq_bind, Option.bind_some]
  rw [hg]
  simp only [Option.bind_some]
  rw [if_pos hn, h0]
  have eq : lcL wk.get (lcB C t cs e) ys.length 0 e0 = some (ys.filterMap f, e0) := by rw [h]; rfl
  show (lcL wk.get (lcB C t cs e) ys.length 0 e0).bind _ = _
  rw [eq]
  simp only [Option.bind_some]
  rw [if_pos hsm]
/-- a loop by an invariant -/
theorem forL_ind {get : Env → Option (List DV)} {b : DV → Env → Option (Fl × Env)} (P : Nat → Env → Prop) (xs : List DV) (hP : ∀ t env, P t env → get env = some xs) (hs : ∀ t (h : t < xs.length) env, P t env → ∃ e, b xs[t] env = some (.nx, e) ∧ P (t + 1) e) : ∀ (r t : Nat) (env : Env), t + r = xs.length → P t env → ∃ e, forL get b r t env = some (.nx, e) ∧ P xs.length e
  | 0, t, env, h, p => by
    have e : xs.length = t := by omega
    refine ⟨env, ?_, e ▸ p⟩
    unfold forL
    rw [hP t env p]
    dsimp only
    rw [if_pos e]
  | r + 1, t, env, h, p => by
    have hlt : t < xs.length := by omega
    obtain ⟨e, h1, p1⟩ := hs t hlt env p
    obtain ⟨e2, h2, p2⟩ := forL_ind P xs hP hs r (t + 1) e (by omega) p1
    refine ⟨e2, ?_, p2⟩
    unfold forL
    rw [hP t env p]
    dsimp only
    rw [if_pos h.symm, List.getElem?_eq_getElem hlt]
    dsimp only
    rw [h1]
    exact h2
theorem ex_for_ind {C : Ctx} {np : Nat} {t : MT} {it : MI2} {b : MSs} {env e1 : Env} {wk : Wk} (P : Nat → Env → Prop) (xs : List DV) (hw : walk C it env = some (wk, e1)) (hP : ∀ t env, P t env → wk.get env = some xs) (h0 : P 0 e1) (hs : ∀ i (h : i < xs.length) env, P i env → ∃ e, forB (pinned wk C) np t b xs[i] env = some (.nx, e) ∧ P (i + 1) e) : ∃ e, ex C np (.for t it b) env = some (.nx, e) ∧ P xs.length e := by
  obtain ⟨e, h1, h2⟩ := forL_ind P xs hP hs xs.length 0 e1 (by omega) h0
  refine ⟨e, ?_, h2⟩
  unfold ex
  rw [hw]
  simp only [Option.bind_eq_bind, Option.bind_some]
  rw [hP 0 e1 h0]
  exact h1
theorem allD_map {α : Type} (p : α → Bool) : ∀ (t : List α), allD (t.map fun c => .bl (p c)) = some (t.all p)
  | [] => rfl
  | c :: t => by
    have ih := allD_map p t
    rw [List.map_cons]
    unfold allD
    rw [ih]
    cases h : p c <;> simp [h]
theorem filterMap_some {α β : Type} (f : α → β) (l : List α) : l.filterMap (fun x => some (f x)) = l.map f := by
  induction l with
  | nil => rfl
  | cons x l ih => simp [ih]
/-! a record's facts -/
theorem Rec.own (r : Rec) : isOwn r.d = false := by cases r <;> rfl
theorem Rec.frz (r : Rec) : Mp.frz r.d = r.d := by cases r <;> rfl
theorem Rec.pl (r : Rec) : K68.pl r.d = true := by cases r <;> rfl
theorem nm_ok {nm : Txt} (h : nm ∈ ([[71, 101, 116], [80, 117, 116, 50], [70, 97, 105, 108]] : List Txt)) : okT nm = true := by
  simp only [List.mem_cons, List.not_mem_nil, or_false] at h
  rcases h with rfl | rfl | rfl <;> decide
theorem Tl.okD4 {t : Tl} (h : t.dep ≤ 4) : K68.okD 4 t.d = true := okD_mono h t.okD
theorem Rec.okD {r : Rec} (ho : r.ok) : K68.okD 5 r.d = true := by
  cases r with
  | begun n => simp [Rec.d, K68.okD, okDs, okT]
  | kept a b => simp [Rec.d, K68.okD, okDs, okT]
  | asked nm t =>
    have h1 := Tl.okD4 ho.2.2.1
    have h2 := nm_ok ho.1
    simp [Rec.d, K68.okD, okDs, okT] at h1 h2 ⊢
    exact ⟨h2, h1⟩
  | answered t =>
    have h1 := Tl.okD4 ho.2.1
    simp [Rec.d, K68.okD, okDs, okT] at h1 ⊢
    exact h1
theorem s_is_number {k n : Nat} (h : n < 1000000000000) : callN fs (k + 3) 20 [.int n] = some (.bl true, [none]) := by
  refine call_of (f := f_is_number) rfl ?_
  rw [b_is_number]
  have h1 := s_is_count (k := k) (d := .int n) rfl
  have h2 : (n : Int) < 1000000000000 := by omega
  simp [runD, exs, ex, retv, ev, tst, op, ops, opv, opt, conds, walk, wkOf, wkE, asgn, asgns, setv, setvs, gets, Opd.get, Opd.take, gt, lstAt, biop, bi1, bi2, isiD, isTys, isTy, tyname, finals, isOwn_non, isOwn_bl, isOwn_int, isOwn_str, isOwn_ty, isOwn_tup, isOwn_lst, isOwn_dct, isPlc, ownOnce, putBack, truth, cmpop, binop_addI, binop_addS, binop_addL, binop_addT, binop_sub, binop_mulR, binop_mod, binop_fdiv, negD, nonD, frz_non, frz_bl, frz_int, frz_str, frz_ty, frz_tup, frz_lst, frz_dct, ixD, at?, lenD, small, ownsAt, noOwn, slotNot, Wk.get, Wk.slot, tsl, tsls, clear, restore, isMut, mutAt, mtmut, mtop, sliceD, augop, pinned, big62, walkD, intF, absF, ordF, tupF, allF, maxF, minF, dvmF, findD, splitD, joinD, h1, isCountD, h2]
theorem s_has_signs {k : Nat} {nm : Txt} (h : nm ∈ ([[71, 101, 116], [80, 117, 116, 50], [70, 97, 105, 108]] : List Txt)) : callN fs (k + 1) 4 [.str nm, .str [65, 66, 67, 68, 69, 70, 71, 72, 73, 74, 75, 76, 77, 78, 79, 80, 81, 82, 83, 84, 85, 86, 87, 88, 89, 90], .str [97, 98, 99, 100, 101, 102, 103, 104, 105, 106, 107, 108, 109, 110, 111, 112, 113, 114, 115, 116, 117, 118, 119, 120, 121, 122, 65, 66, 67, 68, 69, 70, 71, 72, 73, 74, 75, 76, 77, 78, 79, 80, 81, 82, 83, 84, 85, 86, 87, 88, 89, 90, 48, 49, 50, 51, 52, 53, 54, 55, 56, 57]] = some (.bl true, [none, none, none]) := by
  simp only [List.mem_cons, List.not_mem_nil, or_false] at h
  rcases h with rfl | rfl | rfl <;>
  · refine call_of (f := f_has_signs) rfl ?_
    rw [b_has_signs]
    simp [runD, exs, ex, retv, ev, tst, op, ops, opv, opt, conds, walk, wkOf, wkE, asgn, asgns, setv, setvs, gets, Opd.get, Opd.take, gt, lstAt, biop, bi1, bi2, isiD, isTys, isTy, tyname, finals, isOwn_non, isOwn_bl, isOwn_int, isOwn_str, isOwn_ty, isOwn_tup, isOwn_lst, isOwn_dct, isPlc, ownOnce, putBack, truth, cmpop, binop_addI, binop_addS, binop_addL, binop_addT, binop_sub, binop_mulR, binop_mod, binop_fdiv, negD, nonD, frz_non, frz_bl, frz_int, frz_str, frz_ty, frz_tup, frz_lst, frz_dct, ixD, at?, lenD, small, ownsAt, noOwn, slotNot, Wk.get, Wk.slot, tsl, tsls, clear, restore, isMut, mutAt, mtmut, mtop, sliceD, augop, pinned, big62, walkD, intF, absF, ordF, tupF, allF, maxF, minF, dvmF, findD, splitD, joinD, lcL, isinD, allD]
theorem s_is_ask_name {k : Nat} {nm : Txt} (h : nm ∈ ([[71, 101, 116], [80, 117, 116, 50], [70, 97, 105, 108]] : List Txt)) : callN fs (k + 2) 6 [.str nm] = some (.bl true, [none]) := by
  have h1 := s_has_signs (k := k) h
  refine call_of (f := f_is_ask_name) rfl ?_
  rw [b_is_ask_name]
  simp [runD, exs, ex, retv, ev, tst, op, ops, opv, opt, conds, walk, wkOf, wkE, asgn, asgns, setv, setvs, gets, Opd.get, Opd.take, gt, lstAt, biop, bi1, bi2, isiD, isTys, isTy, tyname, finals, isOwn_non, isOwn_bl, isOwn_int, isOwn_str, isOwn_ty, isOwn_tup, isOwn_lst, isOwn_dct, isPlc, ownOnce, putBack, truth, cmpop, binop_addI, binop_addS, binop_addL, binop_addT, binop_sub, binop_mulR, binop_mod, binop_fdiv, negD, nonD, frz_non, frz_bl, frz_int, frz_str, frz_ty, frz_tup, frz_lst, frz_dct, ixD, at?, lenD, small, ownsAt, noOwn, slotNot, Wk.get, Wk.slot, tsl, tsls, clear, restore, isMut, mutAt, mtmut, mtop, sliceD, augop, pinned, big62, walkD, intF, absF, ordF, tupF, allF, maxF, minF, dvmF, findD, splitD, joinD, h1]
end K68

end
section
set_option Elab.async false
set_option linter.all false
set_option maxRecDepth 100000
set_option maxHeartbeats 2000000
/-! K14: records, lines, numbers. -/
namespace K68
open PySem hiding Env Ctx
open Mp PySem.NumText
theorem s_is_record_of {k : Nat} {r : Rec} (ho : r.ok) : callN fs (k + 6) 19 [r.d] = some (.bl true, [none]) := by
  refine call_of (f := f_is_record_of) rfl ?_
  rw [b_is_record_of]
  have hk := Rec.okD ho
  cases r with
  | begun n =>
    have e0 := eqD_nil (by decide) hk
    have r1 := s_is_row (k := k + 4) (d := (Rec.begun n).d) (n := 2) rfl
    have n1 := s_is_number (k := k + 2) (n := n) ho
    simp only [Rec.d] at r1
    simp [runD, exs, ex, retv, ev, tst, op, ops, opv, opt, conds, walk, wkOf, wkE, asgn, asgns, setv, setvs, gets, Opd.get, Opd.take, gt, lstAt, biop, bi1, bi2, isiD, isTys, isTy, tyname, finals, isOwn_non, isOwn_bl, isOwn_int, isOwn_str, isOwn_ty, isOwn_tup, isOwn_lst, isOwn_dct, isPlc, ownOnce, putBack, truth, cmpop, binop_addI, binop_addS, binop_addL, binop_addT, binop_sub, binop_mulR, binop_mod, binop_fdiv, negD, nonD, frz_non, frz_bl, frz_int, frz_str, frz_ty, frz_tup, frz_lst, frz_dct, ixD, at?, lenD, small, ownsAt, noOwn, slotNot, Wk.get, Wk.slot, tsl, tsls, clear, restore, isMut, mutAt, mtmut, mtop, sliceD, augop, pinned, big62, walkD, intF, absF, ordF, tupF, allF, maxF, minF, dvmF, findD, splitD, joinD, Rec.d, e0, eqD_str, okT, r1, n1, isRowD]
  | kept a b =>
    have e0 := eqD_nil (by decide) hk
    have r1 := s_is_row (k := k + 4) (d := (Rec.kept a b).d) (n := 3) rfl
    have n1 := s_is_number (k := k + 2) ho.1
    have n2 := s_is_number (k := k + 2) ho.2
    simp only [Rec.d] at r1
    simp [runD, exs, ex, retv, ev, tst, op, ops, opv, opt, conds, walk, wkOf, wkE, asgn, asgns, setv, setvs, gets, Opd.get, Opd.take, gt, lstAt, biop, bi1, bi2, isiD, isTys, isTy, tyname, finals, isOwn_non, isOwn_bl, isOwn_int, isOwn_str, isOwn_ty, isOwn_tup, isOwn_lst, isOwn_dct, isPlc, ownOnce, putBack, truth, cmpop, binop_addI, binop_addS, binop_addL, binop_addT, binop_sub, binop_mulR, binop_mod, binop_fdiv, negD, nonD, frz_non, frz_bl, frz_int, frz_str, frz_ty, frz_tup, frz_lst, frz_dct, ixD, at?, lenD, small, ownsAt, noOwn, slotNot, Wk.get, Wk.slot, tsl, tsls, clear, restore, isMut, mutAt, mtmut, mtop, sliceD, augop, pinned, big62, walkD, intF, absF, ordF, tupF, allF, maxF, minF, dvmF, findD, splitD, joinD, Rec.d, e0, eqD_str, okT, r1, n1, n2, isRowD]
  | asked nm t =>
    have e0 := eqD_nil (by decide) hk
    have r1 := s_is_row (k := k + 4) (d := (Rec.asked nm t).d) (n := 3) rfl
    have n1 := s_is_ask_name (k := k + 3) ho.1
    have n2 := s_is_telling_of (k := k + 1) ho.2.1 (by have := ho.2.2.1; omega) (by have := ho.2.2.2; omega)
    simp only [Rec.d] at r1
    simp [runD, exs, ex, retv, ev, tst, op, ops, opv, opt, conds, walk, wkOf, wkE, asgn, asgns, setv, setvs, gets, Opd.get, Opd.take, gt, lstAt, biop, bi1, bi2, isiD, isTys, isTy, tyname, finals, isOwn_non, isOwn_bl, isOwn_int, isOwn_str, isOwn_ty, isOwn_tup, isOwn_lst, isOwn_dct, isPlc, ownOnce, putBack, truth, cmpop, binop_addI, binop_addS, binop_addL, binop_addT, binop_sub, binop_mulR, binop_mod, binop_fdiv, negD, nonD, frz_non, frz_bl, frz_int, frz_str, frz_ty, frz_tup, frz_lst, frz_dct, ixD, at?, lenD, small, ownsAt, noOwn, slotNot, Wk.get, Wk.slot, tsl, tsls, clear, restore, isMut, mutAt, mtmut, mtop, sliceD, augop, pinned, big62, walkD, intF, absF, ordF, tupF, allF, maxF, minF, dvmF, findD, splitD, joinD, Rec.d, e0, eqD_str, okT, r1, n1, n2, isRowD, t.own]
  | answered t =>
    have e0 := eqD_nil (by decide) hk
    have r1 := s_is_row (k := k + 4) (d := (Rec.answered t).d) (n := 2) rfl
    have n2 := s_is_data_of (k := k) ho.1 (by have := ho.2.1; omega) (by have := ho.2.2; omega)
    simp only [Rec.d] at r1
    simp [runD, exs, ex, retv, ev, tst, op, ops, opv, opt, conds, walk, wkOf, wkE, asgn, asgns, setv, setvs, gets, Opd.get, Opd.take, gt, lstAt, biop, bi1, bi2, isiD, isTys, isTy, tyname, finals, isOwn_non, isOwn_bl, isOwn_int, isOwn_str, isOwn_ty, isOwn_tup, isOwn_lst, isOwn_dct, isPlc, ownOnce, putBack, truth, cmpop, binop_addI, binop_addS, binop_addL, binop_addT, binop_sub, binop_mulR, binop_mod, binop_fdiv, negD, nonD, frz_non, frz_bl, frz_int, frz_str, frz_ty, frz_tup, frz_lst, frz_dct, ixD, at?, lenD, small, ownsAt, noOwn, slotNot, Wk.get, Wk.slot, tsl, tsls, clear, restore, isMut, mutAt, mtmut, mtop, sliceD, augop, pinned, big62, walkD, intF, absF, ordF, tupF, allF, maxF, minF, dvmF, findD, splitD, joinD, Rec.d, e0, eqD_str, okT, r1, n2, isRowD, t.own]
theorem txts_map : ∀ (ps : List Txt), txts (ps.map .str) = some ps
  | [] => rfl
  | p :: ps => by
    rw [List.map_cons]
    unfold txts
    rw [txts_map ps]
    rfl
theorem s_line_of {k n : Nat} {r : Rec} (ho : r.ok) (hn : n < 1000000000000) : callN fs (k + 6) 25 [.int n, r.d] = some (.str (line n r), [none, none]) := by
  refine call_of (f := f_line_of) rfl ?_
  rw [b_line_of]
  have h1 := s_parts_of (k := k) ho
  have h2 := s_sum_of_signs (k := k + 4) (t := head n r)
  have h3 := strF_nat (n := n) (by omega)
  have h4 := strF_nat (n := sumV (head n r)) (by have := sumV_lt (head n r); omega)
  have h5 := parts_sum ho
  have h6 := numT_len12 hn
  have h7 := head_len ho hn
  have h8 := numT_len (k := 8) (m := sumV (head n r)) (by decide) (by have := sumV_lt (head n r); omega)
  have e1 : txts (.str (numT n) :: r.parts.map .str) = some (numT n :: r.parts) := txts_map (numT n :: r.parts)
  have l1 : 1 + r.parts.length ≤ 16777216 := by omega
  have l2 : (numT n).length + (r.parts.map List.length).sum + (r.parts.length + 1) ≤ 16777216 := by omega
  have hd : joinT [32] (numT n :: r.parts) = head n r := rfl
  have l3 : (head n r).length + 1 ≤ 16777216 := by omega
  have l4 : (head n r).length + 1 + (numT (sumV (head n r))).length ≤ 16777216 := by omega
  have l5 : (head n r).length + ((numT (sumV (head n r))).length + 1) + 1 ≤ 16777216 := by omega
  have l6 : (head n r).length + 1 + (numT (sumV (head n r))).length + 1 ≤ 16777216 := by omega
  simp [runD, exs, ex, retv, ev, tst, op, ops, opv, opt, conds, walk, wkOf, wkE, asgn, asgns, setv, setvs, gets, Opd.get, Opd.take, gt, lstAt, biop, bi1, bi2, isiD, isTys, isTy, tyname, finals, isOwn_non, isOwn_bl, isOwn_int, isOwn_str, isOwn_ty, isOwn_tup, isOwn_lst, isOwn_dct, isPlc, ownOnce, putBack, truth, cmpop, binop_addI, binop_addS, binop_addL, binop_addT, binop_sub, binop_mulR, binop_mod, binop_fdiv, negD, nonD, frz_non, frz_bl, frz_int, frz_str, frz_ty, frz_tup, frz_lst, frz_dct, ixD, at?, lenD, small, ownsAt, noOwn, slotNot, Wk.get, Wk.slot, tsl, tsls, clear, restore, isMut, mutAt, mtmut, mtop, sliceD, augop, pinned, big62, walkD, intF, absF, ordF, tupF, allF, maxF, minF, dvmF, findD, splitD, joinD, h1, h2, h3, h4, e1, l1, l2, l3, l4, l5, l6, hd, r.own, line, body]
theorem s_record_line {k n : Nat} {r : Rec} (ho : r.ok) (hn : n < 1000000000000) : callN fs (k + 7) 34 [.int n, r.d] = some (.str (line n r), [none, none]) := by
  refine call_of (f := f_record_line) rfl ?_
  rw [b_record_line]
  have h1 := s_line_of (k := k) ho hn
  have h2 := s_is_record_of (k := k) ho
  have h3 := s_is_number (k := k + 3) hn
  simp [runD, exs, ex, retv, ev, tst, op, ops, opv, opt, conds, walk, wkOf, wkE, asgn, asgns, setv, setvs, gets, Opd.get, Opd.take, gt, lstAt, biop, bi1, bi2, isiD, isTys, isTy, tyname, finals, isOwn_non, isOwn_bl, isOwn_int, isOwn_str, isOwn_ty, isOwn_tup, isOwn_lst, isOwn_dct, isPlc, ownOnce, putBack, truth, cmpop, binop_addI, binop_addS, binop_addL, binop_addT, binop_sub, binop_mulR, binop_mod, binop_fdiv, negD, nonD, frz_non, frz_bl, frz_int, frz_str, frz_ty, frz_tup, frz_lst, frz_dct, ixD, at?, lenD, small, ownsAt, noOwn, slotNot, Wk.get, Wk.slot, tsl, tsls, clear, restore, isMut, mutAt, mtmut, mtop, sliceD, augop, pinned, big62, walkD, intF, absF, ordF, tupF, allF, maxF, minF, dvmF, findD, splitD, joinD, h1, h2, h3, r.own]
/-! a text as a number -/
def digs : Txt := [48, 49, 50, 51, 52, 53, 54, 55, 56, 57]
theorem gt_set {env : Env} {j : Nat} {d : DV} (hj : j < env.length) : gt (env.set j (some d)) j = some d := by simp [gt, hj]
theorem dig_step {C : Ctx} {j : Nat} {env : Env} (hj : j < env.length) (hp : j ∉ C.pins) (hn : env.set j none = env) (c : Nat) : lcB C (.nm j) .nil (.cmp .isin (.var j) (.k (.str digs))) (.str [c]) env = some (some (.bl (decide (c ∈ digs))), env) := by
  have h := gt_set (d := .str [c]) hj
  have h2 : (env.set j (some (.str [c]))).set j none = env := by rw [List.set_set, hn]
  simp only [lcB, asgn, setv, if_pos (And.intro hj hp), Option.bind_eq_bind, Option.bind_some, conds, op, h, Opd.get, cmpop, isinD, Opd.take, tsl, clear, h2, if_true, frz]
theorem digsVal_lt : ∀ (cs : Txt) (acc : Nat), (∀ c ∈ cs, c ≤ 57) → cs.foldl (fun acc c => acc * 10 + (c - 48)) acc < (acc + 1) * 10 ^ cs.length
  | [], acc, _ => by simp
  | c :: cs, acc, h => by
    have ih := digsVal_lt cs (acc * 10 + (c - 48)) fun x hx => h x (List.mem_cons_of_mem _ hx)
    have hc := h c List.mem_cons_self
    rw [List.foldl_cons, List.length_cons, Nat.pow_succ]
    refine Nat.lt_of_lt_of_le ih ?_
    have : acc * 10 + (c - 48) + 1 ≤ (acc + 1) * 10 := by omega
    calc _ ≤ (acc + 1) * 10 * 10 ^ cs.length := Nat.mul_le_mul_right _ this
      _ = _ := by rw [Nat.mul_assoc, Nat.mul_comm 10]
theorem digs_mem {c : Nat} : c ∈ digs ↔ 48 ≤ c ∧ c ≤ 57 := by
  simp [digs]
  omega
def strOpt (g : Txt → Mp.D) : Mp.D → Option Mp.D
  | .str t => some (g t)
  | _ => none
theorem filterMap_str (g : Txt → Mp.D) : ∀ (l : List Txt), (l.map Mp.D.str).filterMap (strOpt g) = l.map g
  | [] => rfl
  | x :: l => by
    have ih := filterMap_str g l
    rw [List.map_cons, List.filterMap_cons_some (f := strOpt g) (b := g x) rfl, ih, List.map_cons]
theorem filterMap_chr (g : Txt → Mp.D) : ∀ (l : Txt), (l.map fun c => Mp.D.str [c]).filterMap (strOpt g) = l.map fun c => g [c]
  | [] => rfl
  | x :: l => by
    have ih := filterMap_chr g l
    rw [List.map_cons, List.filterMap_cons_some (f := strOpt g) (b := g [x]) rfl, ih, List.map_cons]
def isDig : Txt → Mp.D
  | [c] => .bl (decide (c ∈ digs))
  | _ => .non
theorem op_digs {C : Ctx} {env : Env} {j s : Nat} {t : Txt} (ht : gt env s = some (.str t)) (hj : j < env.length) (hp : j ∉ C.pins) (hn : env.set j none = env) (hl : t.length ≤ 16777216) : op C (.lc (.nm j) (.seq (.var s)) .nil (.cmp .isin (.var j) (.k (.str [48, 49, 50, 51, 52, 53, 54, 55, 56, 57])))) env = some (.val (.lst true (t.map fun c => Mp.D.bl (decide (c ∈ digs)))), env) := by
  have hj0 : gt env j = none := by
    rw [← hn]
    simp [gt, hj]
  have lc := op_lc (C := C) (t := .nm j) (it := .seq (.var s)) (cs := .nil) (e := .cmp .isin (.var j) (.k (.str digs))) (env := env) (e1 := env) (e0 := env) (wk := .fix (t.map fun c => Mp.D.str [c])) (ys := t.map fun c => Mp.D.str [c])
      (strOpt isDig) (by simp [walk, op, ht, wkOf, walkD]) (by simp [noOwn, tsl, hj0, slotNot, Wk.slot]) (by simpa [tsl, clear] using hn) rfl rfl (by
        intro x hx
        obtain ⟨c, hc, rfl⟩ := List.mem_map.mp hx
        exact dig_step hj hp hn c) (by
        rw [filterMap_chr, List.length_map]
        exact hl)
  rw [filterMap_chr] at lc
  have rs : restore env (tsl (.nm j)) (clear (tsl (.nm j)) env) = env := by
    have : env[j]?.getD none = none := by
      simp only [gt] at hj0
      rw [List.getElem?_eq_getElem hj] at hj0 ⊢
      cases h : env[j] with
      | none => rfl
      | some d => rw [h] at hj0; simp at hj0
    simp only [tsl, clear, restore, this, hn]
  rw [rs] at lc
  exact lc
theorem allD_digs {t : Txt} (h : ∀ c ∈ t, 48 ≤ c ∧ c ≤ 57) : allD (t.map fun c => Mp.D.bl (decide (c ∈ digs))) = some true := by
  rw [allD_map (fun c => decide (c ∈ digs)) t]
  have : t.all (fun c => decide (c ∈ digs)) = true := List.all_eq_true.mpr fun c hc => by
    simpa using digs_mem.mpr (h c hc)
  rw [this]
def numBy (t : Txt) : DV := if t ≠ [] ∧ t.length ≤ 12 ∧ t.all (fun c => decide (c ∈ digs)) then (if numT (digitsVal t) = t then .int (digitsVal t : Nat) else .non) else .non
theorem s_number_by {k : Nat} {t : Txt} (hok : okT t = true) (hl : t.length ≤ 16777216) : callN fs (k + 1) 26 [.str t] = some (numBy t, [none]) := by
  refine call_of (f := f_number_by) rfl ?_
  rw [b_number_by]
  by_cases h1 : t = []
  · subst h1
    have e0 : eqD (.str []) (.str []) = some true := by rw [eqD_str rfl rfl]; simp
    simp [runD, exs, ex, retv, ev, tst, op, ops, opv, opt, conds, walk, wkOf, wkE, asgn, asgns, setv, setvs, gets, Opd.get, Opd.take, gt, lstAt, biop, bi1, bi2, isiD, isTys, isTy, tyname, finals, isOwn_non, isOwn_bl, isOwn_int, isOwn_str, isOwn_ty, isOwn_tup, isOwn_lst, isOwn_dct, isPlc, ownOnce, putBack, truth, cmpop, binop_addI, binop_addS, binop_addL, binop_addT, binop_sub, binop_mulR, binop_mod, binop_fdiv, negD, nonD, frz_non, frz_bl, frz_int, frz_str, frz_ty, frz_tup, frz_lst, frz_dct, ixD, at?, lenD, small, ownsAt, noOwn, slotNot, Wk.get, Wk.slot, tsl, tsls, clear, restore, isMut, mutAt, mtmut, mtop, sliceD, augop, pinned, big62, walkD, intF, absF, ordF, tupF, allF, maxF, minF, dvmF, findD, splitD, joinD, e0, numBy]
  have e1 := eqD_str (b := []) hok rfl
  simp only [h1, decide_false] at e1
  by_cases h2 : t.length ≤ 12
  · have n2 : ¬ 12 < (t.length : Int) := by omega
    have lc := op_digs (C := ⟨callN fs k, []⟩) (env := [some (.str t), none]) (j := 1) (s := 0) (t := t) rfl (by simp) (by simp) rfl hl
    have ad := allD_map (fun c => decide (c ∈ digs)) t
    generalize (ME.lc (.nm 1) (.seq (.var 0)) .nil (.cmp .isin (.var 1) (.k (.str [48, 49, 50, 51, 52, 53, 54, 55, 56, 57])))) = q at lc ⊢
    by_cases h3 : t.all (fun c => decide (c ∈ digs)) = true
    · have hd : ∀ c ∈ t, 48 ≤ c ∧ c ≤ 57 := fun c hc => digs_mem.mp (by simpa using List.all_eq_true.mp h3 c hc)
      have hi := intT_any hd h1 (by omega)
      have hb := digsVal_lt t 0 fun c hc => (hd c hc).2
      have hb2 : digitsVal t < 1000000000000000000 := by
        have h10 : 10 ^ t.length ≤ 10 ^ 12 := Nat.pow_le_pow_right (by decide) h2
        have : digitsVal t < (0 + 1) * 10 ^ t.length := hb
        have h12 : (10 : Nat) ^ 12 = 1000000000000 := by decide
        omega
      have hs := strF_nat hb2
      have he := eqD_str (okT_num (digitsVal t)) hok
      rw [h3] at ad
      have hN : numBy t = (if numT (digitsVal t) = t then .int (digitsVal t : Nat) else .non) := if_pos ⟨h1, h2, h3⟩
      rw [hN]
      by_cases h4 : numT (digitsVal t) = t
      · simp only [h4, decide_true] at he hs ⊢
        simp [runD, exs, ex, retv, ev, tst, op, ops, opv, opt, conds, walk, wkOf, wkE, asgn, asgns, setv, setvs, gets, Opd.get, Opd.take, gt, lstAt, biop, bi1, bi2, isiD, isTys, isTy, tyname, finals, isOwn_non, isOwn_bl, isOwn_int, isOwn_str, isOwn_ty, isOwn_tup, isOwn_lst, isOwn_dct, isPlc, ownOnce, putBack, truth, cmpop, binop_addI, binop_addS, binop_addL, binop_addT, binop_sub, binop_mulR, binop_mod, binop_fdiv, negD, nonD, frz_non, frz_bl, frz_int, frz_str, frz_ty, frz_tup, frz_lst, frz_dct, ixD, at?, lenD, small, ownsAt, noOwn, slotNot, Wk.get, Wk.slot, tsl, tsls, clear, restore, isMut, mutAt, mtmut, mtop, sliceD, augop, pinned, big62, walkD, intF, absF, ordF, tupF, allF, maxF, minF, dvmF, findD, splitD, joinD, lc, e1, n2, ad, hi, hs, he, hl]
      · simp only [h4, decide_false] at he hs ⊢
        simp [runD, exs, ex, retv, ev, tst, op, ops, opv, opt, conds, walk, wkOf, wkE, asgn, asgns, setv, setvs, gets, Opd.get, Opd.take, gt, lstAt, biop, bi1, bi2, isiD, isTys, isTy, tyname, finals, isOwn_non, isOwn_bl, isOwn_int, isOwn_str, isOwn_ty, isOwn_tup, isOwn_lst, isOwn_dct, isPlc, ownOnce, putBack, truth, cmpop, binop_addI, binop_addS, binop_addL, binop_addT, binop_sub, binop_mulR, binop_mod, binop_fdiv, negD, nonD, frz_non, frz_bl, frz_int, frz_str, frz_ty, frz_tup, frz_lst, frz_dct, ixD, at?, lenD, small, ownsAt, noOwn, slotNot, Wk.get, Wk.slot, tsl, tsls, clear, restore, isMut, mutAt, mtmut, mtop, sliceD, augop, pinned, big62, walkD, intF, absF, ordF, tupF, allF, maxF, minF, dvmF, findD, splitD, joinD, lc, e1, n2, ad, hi, hs, he, hl]
    · rw [Bool.eq_false_iff.mpr h3] at ad
      have hN : numBy t = .non := if_neg fun h => h3 h.2.2
      rw [hN]
      simp [runD, exs, ex, retv, ev, tst, op, ops, opv, opt, conds, walk, wkOf, wkE, asgn, asgns, setv, setvs, gets, Opd.get, Opd.take, gt, lstAt, biop, bi1, bi2, isiD, isTys, isTy, tyname, finals, isOwn_non, isOwn_bl, isOwn_int, isOwn_str, isOwn_ty, isOwn_tup, isOwn_lst, isOwn_dct, isPlc, ownOnce, putBack, truth, cmpop, binop_addI, binop_addS, binop_addL, binop_addT, binop_sub, binop_mulR, binop_mod, binop_fdiv, negD, nonD, frz_non, frz_bl, frz_int, frz_str, frz_ty, frz_tup, frz_lst, frz_dct, ixD, at?, lenD, small, ownsAt, noOwn, slotNot, Wk.get, Wk.slot, tsl, tsls, clear, restore, isMut, mutAt, mtmut, mtop, sliceD, augop, pinned, big62, walkD, intF, absF, ordF, tupF, allF, maxF, minF, dvmF, findD, splitD, joinD, lc, e1, n2, ad, hl]
  · have n2 : 12 < (t.length : Int) := by omega
    have hN : numBy t = .non := if_neg fun h => h2 h.2.1
    rw [hN]
    simp [runD, exs, ex, retv, ev, tst, op, ops, opv, opt, conds, walk, wkOf, wkE, asgn, asgns, setv, setvs, gets, Opd.get, Opd.take, gt, lstAt, biop, bi1, bi2, isiD, isTys, isTy, tyname, finals, isOwn_non, isOwn_bl, isOwn_int, isOwn_str, isOwn_ty, isOwn_tup, isOwn_lst, isOwn_dct, isPlc, ownOnce, putBack, truth, cmpop, binop_addI, binop_addS, binop_addL, binop_addT, binop_sub, binop_mulR, binop_mod, binop_fdiv, negD, nonD, frz_non, frz_bl, frz_int, frz_str, frz_ty, frz_tup, frz_lst, frz_dct, ixD, at?, lenD, small, ownsAt, noOwn, slotNot, Wk.get, Wk.slot, tsl, tsls, clear, restore, isMut, mutAt, mtmut, mtop, sliceD, augop, pinned, big62, walkD, intF, absF, ordF, tupF, allF, maxF, minF, dvmF, findD, splitD, joinD, e1, n2, hl]
end K68

end
section
set_option Elab.async false
set_option linter.all false
set_option maxRecDepth 100000
set_option maxHeartbeats 2000000
/-! K15: spoilt lines, in plain Lean. -/
namespace K68
open PySem hiding Env Ctx
open Mp PySem.NumText
/-- a line whose number or sum is not right -/
def NoSum (n : Nat) (L : Txt) : Prop := 32 ∉ L ∨ ∃ H T, L = H ++ 32 :: T ∧ 32 ∉ T ∧ ((splitOn 32 H).length < 3 ∨ (splitOn 32 H).head? ≠ some (numT n) ∨ T ≠ numT (sumV H))
/-- parts of no record -/
def BadParts (ps : List Txt) : Prop := (∃ r : Rec, r.ok ∧ ∃ more, more ≠ [] ∧ ps = r.parts ++ more) ∨ ∃ a, a < 1000000000000 ∧ ps = [[107, 101, 112, 116], numT a]
def BadLine (n : Nat) (L : Txt) : Prop := NoSum n L ∨ ∃ H ps, L = H ++ 32 :: numT (sumV H) ∧ splitOn 32 H = numT n :: ps ∧ 2 ≤ ps.length ∧ BadParts ps
theorem body_case {n : Nat} {r : Rec} {H T : Txt} (ho : r.ok) (hT : 32 ∉ T) {ps more : List Txt} (hs : splitOn 32 H = numT n :: ps) (hp : ps = r.parts ++ more) (hm : more ≠ []) : BadLine n (H ++ 32 :: T) := by
  by_cases h : T = numT (sumV H)
  · refine .inr ⟨H, ps, by rw [← h], hs, ?_, .inl ⟨r, ho, more, hm, hp⟩⟩
    have := (parts_sum ho).2.2
    rw [hp, List.length_append]
    omega
  · exact .inl (.inr ⟨H, T, rfl, hT, .inr (.inr h)⟩)
theorem spoil_A {n : Nat} {x o e y S : Txt} (h : S = numT (sumV (x ++ (o ++ y)))) (ho : o.length ≤ 1) (he : e.length ≤ 1) (hne : e ≠ o) (hc : ∀ c ∈ e, 1 ≤ c ∧ c ≤ 126) (hd : ∀ c ∈ o, 1 ≤ c ∧ c ≤ 126) : BadLine n ((x ++ (e ++ y)) ++ 32 :: S) := by
  refine .inl (.inr ⟨_, _, rfl, ?_, .inr (.inr ?_)⟩)
  · rw [h]; exact no32 (num45 _)
  · rw [h]
    refine sum_ne ?_
    simp only [List.sum_append]
    match o, e with
    | [], [] => exact absurd rfl hne
    | [a], [] =>
      have := hd a (List.mem_singleton_self _)
      simp; omega
    | [], [b] =>
      have := hc b (List.mem_singleton_self _)
      simp; omega
    | [a], [b] =>
      have h1 := hd a (List.mem_singleton_self _)
      have h2 := hc b (List.mem_singleton_self _)
      have h3 : b ≠ a := fun e => hne (by rw [e])
      simp; omega
    | _ :: _ :: _, _ => simp at ho
    | _, _ :: _ :: _ => simp at he
theorem spoil_B {n : Nat} {r : Rec} (ho : r.ok) {e : Txt} (he : e.length ≤ 1) (h32 : 32 ∉ e) : BadLine n (head n r ++ (e ++ numT (sumV (head n r)))) := by
  have hS : 32 ∉ numT (sumV (head n r)) := no32 (num45 _)
  generalize numT (sumV (head n r)) = S at hS
  have dj : ∀ {w : Txt}, 32 ∉ w → 32 ∉ w ++ (e ++ S) := fun hw m => by
    rcases List.mem_append.mp m with m | m
    · exact hw m
    · rcases List.mem_append.mp m with m | m
      · exact h32 m
      · exact hS m
  have two : ∀ (w p : Txt), 32 ∉ w → joinT [32] [numT n, w, p] ++ (e ++ S) = (numT n ++ 32 :: w) ++ 32 :: (p ++ (e ++ S)) := fun w p _ => by simp [joinT]
  have sp2 : ∀ {w : Txt}, 32 ∉ w → splitOn 32 (numT n ++ 32 :: w) = [numT n, w] := fun hw => by
    rw [splitOn_app, splitOn_none (no32 (num45 n)), splitOn_none hw]; rfl
  have word : ∀ (t : Tl) (H : Txt), BadLine n (H ++ 32 :: (t.word ++ (e ++ S))) := fun t H => by
    refine .inl (.inr ⟨_, _, rfl, dj (no32 (word_clean t)), .inr (.inr ?_)⟩)
    obtain ⟨c, w, ew, hc⟩ := word_head t
    rw [ew]
    intro h
    have := numT_digits (sumV H) c (by rw [← h]; exact List.mem_cons_self)
    omega
  cases r with
  | begun b =>
    have h1 : 32 ∉ ([98, 101, 103, 117, 110] : Txt) := by decide
    unfold head
    simp only [Rec.parts]
    rw [two _ _ h1]
    exact .inl (.inr ⟨_, _, rfl, dj (no32 (num45 b)), .inl (by rw [sp2 h1]; simp)⟩)
  | answered t =>
    have h1 : 32 ∉ ([97, 110, 115, 119, 101, 114, 101, 100] : Txt) := by decide
    unfold head
    simp only [Rec.parts]
    rw [two _ _ h1]
    exact word t _
  | asked nm t =>
    unfold head
    simp only [Rec.parts]
    have e1 : joinT [32] [numT n, [97, 115, 107, 101, 100], nm, t.word] ++ (e ++ S) = joinT [32] [numT n, [97, 115, 107, 101, 100], nm] ++ 32 :: (t.word ++ (e ++ S)) := by simp [joinT]
    rw [e1]
    exact word t _
  | kept a b =>
    unfold head
    simp only [Rec.parts]
    have e1 : joinT [32] [numT n, [107, 101, 112, 116], numT a, numT b] ++ (e ++ S) = joinT [32] [numT n, [107, 101, 112, 116], numT a] ++ 32 :: (numT b ++ (e ++ S)) := by simp [joinT]
    rw [e1]
    have sp : splitOn 32 (joinT [32] [numT n, [107, 101, 112, 116], numT a]) = [numT n, [107, 101, 112, 116], numT a] := split_join (by simp) (by
      intro p hp
      simp only [List.mem_cons, List.not_mem_nil, or_false] at hp
      rcases hp with rfl | rfl | rfl
      · exact no32 (num45 n)
      · decide
      · exact no32 (num45 a))
    by_cases h : numT b ++ (e ++ S) = numT (sumV (joinT [32] [numT n, [107, 101, 112, 116], numT a]))
    · exact .inr ⟨_, _, by rw [← h], sp, by simp, .inr ⟨a, ho.1, rfl⟩⟩
    · exact .inl (.inr ⟨_, _, rfl, dj (no32 (num45 b)), .inr (.inr h)⟩)
theorem spoil_C {n : Nat} {r : Rec} (ho : r.ok) {x o e y : Txt} (h : numT (sumV (head n r)) = x ++ (o ++ y)) (h1 : o.length ≤ 1) (he : e.length ≤ 1) (hne : e ≠ o) : BadLine n ((head n r ++ 32 :: x) ++ (e ++ y)) := by
  have hS : 32 ∉ x ++ (o ++ y) := by rw [← h]; exact no32 (num45 _)
  have hx : 32 ∉ x := fun m => hS (List.mem_append.mpr (.inl m))
  have hy : 32 ∉ y := fun m => hS (List.mem_append.mpr (.inr (List.mem_append.mpr (.inr m))))
  by_cases e32 : e = [32]
  · subst e32
    have hs : splitOn 32 (head n r ++ 32 :: x) = numT n :: (r.parts ++ [x]) := by
      rw [splitOn_app, head_split ho, splitOn_none hx]; rfl
    have := body_case (n := n) (T := y) ho hy hs rfl (by simp)
    simpa using this
  · have he32 : 32 ∉ e := by
      match e with
      | [] => simp
      | [c] =>
        intro m
        rw [List.mem_singleton.mp m] at e32
        exact e32 rfl
      | _ :: _ :: _ => simp at he
    have hT : 32 ∉ x ++ (e ++ y) := fun m => by
      rcases List.mem_append.mp m with m | m
      · exact hx m
      · rcases List.mem_append.mp m with m | m
        · exact he32 m
        · exact hy m
    refine .inl (.inr ⟨head n r, x ++ (e ++ y), by simp, hT, .inr (.inr ?_)⟩)
    rw [h]
    intro q
    have q := List.append_cancel_left q
    have q := List.append_cancel_right q
    exact hne q
theorem spoil {n : Nat} {r : Rec} (ho : r.ok) {x o e y : Txt} (h : x ++ (o ++ y) = body n r) (h1 : o.length ≤ 1) (he : e.length ≤ 1) (hne : e ≠ o) (hc : ∀ c ∈ e, 32 ≤ c ∧ c ≤ 126) : BadLine n (x ++ (e ++ y)) := by
  have hc1 : ∀ c ∈ e, 1 ≤ c ∧ c ≤ 126 := fun c m => by have := hc c m; omega
  have hd1 : ∀ c ∈ o, 1 ≤ c ∧ c ≤ 126 := fun c m => by
    have : c ∈ body n r := by rw [← h]; simp [m]
    have := body_clean ho c this; omega
  have B : ∀ {c : Nat}, o = [c] → c = 32 → x = head n r → y = numT (sumV (head n r)) → BadLine n (x ++ (e ++ y)) := fun {c} ho1 hc32 hx hy => by
    rw [hx, hy]
    refine spoil_B ho he ?_
    intro m
    match e with
    | [] => simp at m
    | [d] =>
      rw [List.mem_singleton] at m
      rw [ho1, hc32, m] at hne
      exact hne rfl
    | _ :: _ :: _ => simp at he
  rcases List.append_eq_append_iff.mp h with ⟨a', e1, e2⟩ | ⟨c', e1, e2⟩
  · match o, h1, a' with
    | [], _, a' =>
      have e2' : y = a' ++ 32 :: numT (sumV (head n r)) := e2
      have A := spoil_A (n := n) (x := x) (o := []) (e := e) (y := a') (S := numT (sumV (head n r))) (by rw [e1]; rfl) (by simp) he hne hc1 hd1
      rw [e2']
      simpa using A
    | [c], _, [] =>
      have e2' : c :: y = 32 :: numT (sumV (head n r)) := e2
      injection e2' with q1 q2
      exact B rfl q1 (by rw [e1]; simp) q2
    | [c], _, d :: a'' =>
      have e2' : c :: y = d :: (a'' ++ 32 :: numT (sumV (head n r))) := e2
      injection e2' with q1 q2
      subst q1
      have A := spoil_A (n := n) (x := x) (o := [c]) (e := e) (y := a'') (S := numT (sumV (head n r))) (by rw [e1]; rfl) (by simp) he hne hc1 hd1
      rw [q2]
      simpa using A
    | _ :: _ :: _, h1, _ => simp at h1
  · match c' with
    | [] =>
      match o, h1 with
      | [], _ =>
        have e2' : 32 :: numT (sumV (head n r)) = y := e2
        have e1' : x = head n r := by rw [e1]; simp
        have A := spoil_A (n := n) (x := x) (o := []) (e := e) (y := []) (S := numT (sumV (head n r))) (by rw [e1']; simp) (by simp) he hne hc1 hd1
        rw [← e2']
        simpa using A
      | [c], _ =>
        have e2' : 32 :: numT (sumV (head n r)) = c :: y := e2
        injection e2' with q1 q2
        exact B rfl q1.symm (by rw [e1]; simp) q2.symm
      | _ :: _ :: _, h1 => simp at h1
    | d :: c'' =>
      have e2' : 32 :: numT (sumV (head n r)) = d :: (c'' ++ (o ++ y)) := e2
      injection e2' with q1 q2
      subst q1
      rw [e1]
      exact spoil_C ho q2 h1 he hne
/-- two lines without a line feed between them -/
theorem merged {n m : Nat} {r s : Rec} (ho : r.ok) (hs : s.ok) : BadLine n (body n r ++ body m s) := by
  have e : body n r ++ body m s = (head n r ++ 32 :: (numT (sumV (head n r)) ++ head m s)) ++ 32 :: numT (sumV (head m s)) := by simp [body]
  rw [e]
  refine body_case ho (no32 (num45 _)) (ps := r.parts ++ splitOn 32 (numT (sumV (head n r)) ++ head m s)) (more := splitOn 32 (numT (sumV (head n r)) ++ head m s)) ?_ rfl (splitOn_ne _ _)
  rw [splitOn_app, head_split ho]
  rfl
/-- a line with another number -/
theorem other_number {n m : Nat} {r : Rec} (ho : r.ok) (h : m ≠ n) : BadLine n (body m r) := by
  refine .inl (.inr ⟨head m r, _, rfl, no32 (num45 _), .inr (.inl ?_)⟩)
  rw [head_split ho]
  intro e
  injection e with e
  exact h (numT_inj e)
theorem empty_bad (n : Nat) : BadLine n [] := .inl (.inl (by simp))
end K68

end
section
set_option Elab.async false
set_option linter.all false
set_option maxRecDepth 100000
set_option maxHeartbeats 2000000
/-! K16: words read as tellings. -/
namespace K68
open PySem hiding Env Ctx
open Mp PySem.NumText
theorem sIx_nat (n d v : Nat) : sIx n d (some (v : Int)) = min v n := by
  show (if (v : Int) < 0 then ((v : Int) + (n : Int)).toNat else min (v : Int).toNat n) = min v n
  rw [if_neg (by omega), Int.toNat_natCast]
theorem sliceD_str (lo hi : Option Int) (t : Txt) : sliceD lo hi (.str t) = if small t.length = true then some (.str (cut t lo hi)) else none := rfl
theorem findD_str (t : Txt) (c : Nat) (i : Int) : findD (.str t) (.str [c]) (.int i) = if small t.length = true ∧ 0 ≤ i then some (match findFrom c i.toNat t with | some j => (j : Int) | none => -1) else none := rfl
theorem cut_mid {α : Type} (pre m post : List α) : cut (pre ++ (m ++ post)) (some (pre.length : Int)) (some ((pre.length + m.length : Nat) : Int)) = m := by
  unfold cut
  rw [sIx_nat, sIx_nat]
  have h1 : min pre.length (pre ++ (m ++ post)).length = pre.length := by simp
  have h2 : min (pre.length + m.length) (pre ++ (m ++ post)).length = pre.length + m.length := by simp
  rw [h1, h2, List.drop_left]
  have : pre.length + m.length - pre.length = m.length := by omega
  rw [this, List.take_left]
theorem slice_mid {a b : Int} (pre m post : Txt) (ha : a = (pre.length : Int)) (hb : b = ((pre.length + m.length : Nat) : Int)) (hl : (pre ++ (m ++ post)).length ≤ 16777216) : sliceD (some a) (some b) (.str (pre ++ (m ++ post))) = some (.str m) := by
  have hs : small (pre ++ (m ++ post)).length = true := by simpa only [small, decide_eq_true_eq] using hl
  subst ha hb
  rw [sliceD_str, if_pos hs, cut_mid]
theorem find_at (c : Nat) (pre m post : Txt) (h : c ∉ m) : findFrom c pre.length (pre ++ (m ++ c :: post)) = some (pre.length + m.length) := by
  unfold findFrom
  rw [List.drop_left]
  have : (m ++ c :: post).findIdx? (· == c) = some m.length := by
    clear pre
    induction m with
    | nil => simp [List.findIdx?_cons]
    | cons x m ih =>
      have hx : x ≠ c := fun e => h (by rw [e]; exact List.mem_cons_self)
      have ih := ih fun q => h (List.mem_cons_of_mem _ q)
      rw [List.cons_append, List.findIdx?_cons, ih]
      simp [hx]
  rw [this]
  simp [Nat.add_comm]
theorem find_none (c : Nat) (pre m : Txt) (h : c ∉ m) : findFrom c pre.length (pre ++ m) = none := by
  unfold findFrom
  rw [List.drop_left]
  have : m.findIdx? (· == c) = none := by
    rw [List.findIdx?_eq_none_iff]
    intro x hx
    simp
    intro e
    rw [e] at hx
    exact h hx
  rw [this]
  rfl
theorem findD_at (c : Nat) (pre m post : Txt) (h : c ∉ m) (hl : (pre ++ (m ++ c :: post)).length ≤ 16777216) : findD (.str (pre ++ (m ++ c :: post))) (.str [c]) (.int (pre.length : Int)) = some ((pre.length + m.length : Nat) : Int) := by
  have hs : small (pre ++ (m ++ c :: post)).length = true := by simpa only [small, decide_eq_true_eq] using hl
  rw [findD_str, if_pos ⟨hs, by omega⟩, Int.toNat_natCast, find_at c pre m post h]
theorem findD_none (c : Nat) (pre m : Txt) (h : c ∉ m) (hl : (pre ++ m).length ≤ 16777216) : findD (.str (pre ++ m)) (.str [c]) (.int (pre.length : Int)) = some (-1) := by
  have hs : small (pre ++ m).length = true := by simpa only [small, decide_eq_true_eq] using hl
  rw [findD_str, if_pos ⟨hs, by omega⟩, Int.toNat_natCast, find_none c pre m h]
theorem cut_to1 (c : Nat) (w : Txt) : sliceD none (some 1) (.str (c :: w)) = if small (w.length + 1) then some (.str [c]) else none := by
  have : cut (c :: w) none (some 1) = [c] := by
    unfold cut
    have h1 : sIx (c :: w).length 0 none = 0 := rfl
    have h2 : sIx (c :: w).length (c :: w).length (some 1) = 1 := by
      have := sIx_nat (c :: w).length (c :: w).length 1
      simp at this
      simpa using this
    rw [h1, h2]
    rfl
  rw [sliceD_str, this]
  rfl
theorem cut_from1 (c : Nat) (w : Txt) : sliceD (some 1) none (.str (c :: w)) = if small (w.length + 1) then some (.str w) else none := by
  have : cut (c :: w) (some 1) none = w := by
    unfold cut
    have h1 : sIx (c :: w).length (c :: w).length none = w.length + 1 := rfl
    have h2 : sIx (c :: w).length 0 (some 1) = 1 := by
      have := sIx_nat (c :: w).length 0 1
      simp at this
      simpa using this
    rw [h1, h2]
    show w.take (w.length + 1 - 1) = w
    simp
  rw [sliceD_str, this]
  rfl
theorem strI_no59 {i : Int} : 59 ∉ strI i := fun m => by have := strI_clean 59 m; omega
theorem s_int_from {k : Nat} {pre post : Txt} {i : Int} (hi : -2147483648 ≤ i ∧ i ≤ 2147483647) (hl : (pre ++ (strI i ++ 59 :: post)).length ≤ 16777216) : callN fs (k + 3) 16 [.str (pre ++ (strI i ++ 59 :: post)), .int (pre.length : Int)] = some (.tup [.int i, .int ((pre.length + (strI i).length + 1 : Nat) : Int)], [none, none]) := by
  have f1 := findD_at 59 pre (strI i) post strI_no59 hl
  have f2 := slice_mid pre (strI i) (59 :: post) rfl rfl hl
  have f3 := s_is_int (k := k) (i := i)
  have hlen := strI_len hi
  have h2 : i.natAbs < 2 ^ 1900 := by
    have : i.natAbs < 2 ^ 32 := by
      have : (2 : Nat) ^ 32 = 4294967296 := by decide
      omega
    exact Nat.lt_of_lt_of_le this (Nat.pow_le_pow_right (by decide) (by decide))
  have f4 : strF (.int i) = some (strI i) := if_pos h2
  have hokS : okT (strI i) = true := okT_of fun c hc => by have := strI_clean c hc; omega
  have f5 : eqD (.str (strI i)) (.str (strI i)) = some true := by rw [eqD_str hokS hokS]; simp
  have f6 : intT (strI i) = some i := by
    cases i with
    | ofNat m =>
      show intT (strI (m : Int)) = some (m : Int)
      have hlen : (strI (m : Int)).length ≤ 11 := hlen
      rw [strI_nat] at hlen ⊢
      exact intT_num (by omega)
    | negSucc m =>
      rw [strI_neg] at hlen ⊢
      simp only [List.length_cons] at hlen
      rw [intT_neg (by omega)]
      rfl
  have pos : 0 ≤ ((pre.length + (strI i).length : Nat) : Int) := by omega
  have bare : ∃ b c w, (strI i = c :: w) ∧ (∀ c ∈ b, 48 ≤ c ∧ c ≤ 57) ∧ b ≠ [] ∧ b.length ≤ 10 ∧ ((c = 45 ∧ b = w) ∨ (c ≠ 45 ∧ b = c :: w)) := by
    cases i with
    | ofNat m =>
      have hm : (numT m).length ≤ 10 := numT_len (k := 10) (by decide) (by have : (Int.ofNat m : Int) = (m : Int) := rfl; omega)
      obtain ⟨c, w, e⟩ := List.exists_cons_of_ne_nil (numT_ne m)
      have hd := numT_digits m
      refine ⟨numT m, c, w, ?_, hd, numT_ne m, hm, .inr ⟨?_, e⟩⟩
      · show strI (m : Int) = _
        rw [strI_nat, e]
      · have := hd c (by rw [e]; exact List.mem_cons_self); omega
    | negSucc m =>
      have hm : (numT (m + 1)).length ≤ 10 := numT_len (k := 10) (by decide) (by omega)
      exact ⟨numT (m + 1), 45, numT (m + 1), strI_neg m, numT_digits _, numT_ne _, hm, .inl ⟨rfl, rfl⟩⟩
  obtain ⟨b, c, w, e, hd, hb, hb10, hcw⟩ := bare
  have okb : okT b = true := okT_of fun c hc => by have := hd c hc; omega
  have g1 := eqD_str (b := []) okb rfl
  simp only [hb, decide_false] at g1
  have g2 := allD_digs hd
  have g3 : ¬ 10 < (b.length : Int) := by omega
  have g4 : ∀ (v0 v1 v2 v3 : Option DV), op ⟨callN fs (k + 2), []⟩ (.lc (.nm 6) (.seq (.var 4)) .nil (.cmp .isin (.var 6) (.k (.str [48, 49, 50, 51, 52, 53, 54, 55, 56, 57])))) [v0, v1, v2, v3, some (.str b), none, none] = some (.val (.lst true (b.map fun c => .bl (decide (c ∈ digs)))), [v0, v1, v2, v3, some (.str b), none, none]) := fun v0 v1 v2 v3 => op_digs (t := b) rfl (by simp) (by simp) rfl (by omega)
  have okc : okT [c] = true := by
    refine okT_of fun x hx => ?_
    rw [List.mem_singleton] at hx
    have := strI_clean x (i := i) (by rw [e, hx]; exact List.mem_cons_self)
    omega
  have g5 := eqD_str (b := [45]) okc rfl
  have hw : w.length + 1 ≤ 16777216 := by
    have : (c :: w).length ≤ 11 := by rw [← e]; exact hlen
    simp at this
    omega
  have g6 := cut_to1 c w
  have g7 := cut_from1 c w
  have hsm : small (w.length + 1) = true := by simpa only [small, decide_eq_true_eq] using hw
  rw [if_pos hsm] at g6 g7
  have hb16 : b.length ≤ 16777216 := by omega
  refine call_of (f := f_int_from) rfl ?_
  rw [b_int_from]
  have st1 : ∀ (ss : MSs) z, exs ⟨callN fs (k + 2), []⟩ 2 ss [some (.str (pre ++ (strI i ++ 59 :: post))), some (.int (pre.length : Int)), some (.int ((pre.length + (strI i).length : Nat) : Int)), some (.str (strI i)), some (.str b), none, none] = z → exs ⟨callN fs (k + 2), []⟩ 2 (.cons (.asg (.nm 2) (.meth .find (.var 0) (.cons (.k (.str [59])) (.cons (.var 1) .nil)))) (.cons (.asg (.nm 3) (.ite (.cmp .ge (.var 2) (.k (.int 0))) (.slice (.var 0) (.var 1) (.var 2)) (.k (.str [])))) (.cons (.asg (.nm 4) (.ite (.cmp .eq (.slice (.var 3) .no (.k (.int 1))) (.k (.str [45]))) (.slice (.var 3) (.k (.int 1)) .no) (.var 3))) ss))) [some (.str (pre ++ (strI i ++ 59 :: post))), some (.int (pre.length : Int)), none, none, none, none, none] = z := by
    intro ss z hz
    refine exs_nx (e1 := [some (.str (pre ++ (strI i ++ 59 :: post))), some (.int (pre.length : Int)), some (.int ((pre.length + (strI i).length : Nat) : Int)), none, none, none, none]) ?_ (exs_nx (e1 := [some (.str (pre ++ (strI i ++ 59 :: post))), some (.int (pre.length : Int)), some (.int ((pre.length + (strI i).length : Nat) : Int)), some (.str (strI i)), none, none, none]) ?_ (exs_nx (e1 := [some (.str (pre ++ (strI i ++ 59 :: post))), some (.int (pre.length : Int)), some (.int ((pre.length + (strI i).length : Nat) : Int)), some (.str (strI i)), some (.str b), none, none]) ?_ hz))
    · simp only [runD, exs, ex, retv, ev, tst, op, ops, opv, opt, conds, walk, wkOf, wkE, asgn, asgns, setv, setvs, gets, Opd.get, Opd.take, gt, lstAt, biop, bi1, bi2, isiD, isTys, isTy, tyname, finals, isOwn_non, isOwn_bl, isOwn_int, isOwn_str, isOwn_ty, isOwn_tup, isOwn_lst, isOwn_dct, isPlc, ownOnce, putBack, truth, cmpop, binop_addI, binop_addS, binop_addL, binop_addT, binop_sub, binop_mulR, binop_mod, binop_fdiv, negD, nonD, frz_non, frz_bl, frz_int, frz_str, frz_ty, frz_tup, frz_lst, frz_dct, ixD, at?, lenD, ownsAt, noOwn, slotNot, Wk.get, Wk.slot, tsl, tsls, clear, restore, isMut, mutAt, mtmut, mtop, sliceD, augop, pinned, big62, walkD, intF, absF, ordF, tupF, allF, maxF, minF, dvmF, splitD, joinD, f1, Option.bind_eq_bind, Option.bind_some, List.length_cons, List.length_nil, List.getElem?_cons_zero, List.getElem?_cons_succ]
      simp
    · generalize ((pre.length + (strI i).length : Nat) : Int) = q at f2 pos
      generalize (pre.length : Int) = a at f2
      simp [runD, exs, ex, retv, ev, tst, op, ops, opv, opt, conds, walk, wkOf, wkE, asgn, asgns, setv, setvs, gets, Opd.get, Opd.take, gt, lstAt, biop, bi1, bi2, isiD, isTys, isTy, tyname, finals, isOwn_non, isOwn_bl, isOwn_int, isOwn_str, isOwn_ty, isOwn_tup, isOwn_lst, isOwn_dct, isPlc, ownOnce, putBack, truth, cmpop, binop_addI, binop_addS, binop_addL, binop_addT, binop_sub, binop_mulR, binop_mod, binop_fdiv, negD, nonD, frz_non, frz_bl, frz_int, frz_str, frz_ty, frz_tup, frz_lst, frz_dct, ixD, at?, lenD, ownsAt, noOwn, slotNot, Wk.get, Wk.slot, tsl, tsls, clear, restore, isMut, mutAt, mtmut, mtop, augop, pinned, big62, walkD, intF, absF, ordF, tupF, allF, maxF, minF, dvmF, findD, splitD, joinD, f2, pos]
    · simp only [e]
      rcases hcw with ⟨rfl, rfl⟩ | ⟨hc, rfl⟩
      · simp [runD, exs, ex, retv, ev, tst, op, ops, opv, opt, conds, walk, wkOf, wkE, asgn, asgns, setv, setvs, gets, Opd.get, Opd.take, gt, lstAt, biop, bi1, bi2, isiD, isTys, isTy, tyname, finals, isOwn_non, isOwn_bl, isOwn_int, isOwn_str, isOwn_ty, isOwn_tup, isOwn_lst, isOwn_dct, isPlc, ownOnce, putBack, truth, cmpop, binop_addI, binop_addS, binop_addL, binop_addT, binop_sub, binop_mulR, binop_mod, binop_fdiv, negD, nonD, frz_non, frz_bl, frz_int, frz_str, frz_ty, frz_tup, frz_lst, frz_dct, ixD, at?, lenD, ownsAt, noOwn, slotNot, Wk.get, Wk.slot, tsl, tsls, clear, restore, isMut, mutAt, mtmut, mtop, augop, pinned, big62, walkD, intF, absF, ordF, tupF, allF, maxF, minF, dvmF, findD, splitD, joinD, g6, g7, g5, eqD_self]
      · simp [runD, exs, ex, retv, ev, tst, op, ops, opv, opt, conds, walk, wkOf, wkE, asgn, asgns, setv, setvs, gets, Opd.get, Opd.take, gt, lstAt, biop, bi1, bi2, isiD, isTys, isTy, tyname, finals, isOwn_non, isOwn_bl, isOwn_int, isOwn_str, isOwn_ty, isOwn_tup, isOwn_lst, isOwn_dct, isPlc, ownOnce, putBack, truth, cmpop, binop_addI, binop_addS, binop_addL, binop_addT, binop_sub, binop_mulR, binop_mod, binop_fdiv, negD, nonD, frz_non, frz_bl, frz_int, frz_str, frz_ty, frz_tup, frz_lst, frz_dct, ixD, at?, lenD, ownsAt, noOwn, slotNot, Wk.get, Wk.slot, tsl, tsls, clear, restore, isMut, mutAt, mtmut, mtop, augop, pinned, big62, walkD, intF, absF, ordF, tupF, allF, maxF, minF, dvmF, findD, splitD, joinD, g6, g7, g5, hc]
  have E : ∀ v, (v = none ∨ v = some (Mp.D.int i)) → True := fun _ _ => trivial
  refine run_nx (e := [some (.str (pre ++ (strI i ++ 59 :: post))), some (.int (pre.length : Int)), some (.int ((pre.length + (strI i).length : Nat) : Int)), some (.str (strI i)), some (.str b), some (.int i), none]) ⟨rfl, by decide⟩ ?_ (by simp [finals, isOwn_str, isOwn_int])
  refine st1 _ _ ?_
  have rq : ((pre.length + (strI i).length + 1 : Nat) : Int) = ((pre.length + (strI i).length : Nat) : Int) + 1 := by omega
  rw [rq]
  have hr : ownsAt 0 [.str (pre ++ (strI i ++ 59 :: post)), .int (pre.length : Int)] = [] := by simp [ownsAt, isOwn_str, isOwn_int]
  generalize ((pre.length + (strI i).length : Nat) : Int) = q
  generalize strI i = S at f4 f5 f6
  generalize (Mp.D.str (pre ++ (S ++ 59 :: post))) = v0
  generalize (Mp.D.int (pre.length : Int)) = v1
  refine exs_nx (e1 := [some v0, some v1, some (.int q), some (.str S), some (.str b), none, none]) ?_ (exs_nx (e1 := [some v0, some v1, some (.int q), some (.str S), some (.str b), some (.int i), none]) ?_ ?_)
  · have g4' := g4 (some v0) (some v1) (some (.int q)) (some (.str S))
    generalize (ME.lc (.nm 6) (.seq (.var 4)) .nil (.cmp .isin (.var 6) (.k (.str [48, 49, 50, 51, 52, 53, 54, 55, 56, 57])))) = Q at g4' ⊢
    simp [runD, exs, ex, retv, ev, tst, op, ops, opv, opt, conds, walk, wkOf, wkE, asgn, asgns, setv, setvs, gets, Opd.get, Opd.take, gt, lstAt, biop, bi1, bi2, isiD, isTys, isTy, tyname, finals, isOwn_non, isOwn_bl, isOwn_int, isOwn_str, isOwn_ty, isOwn_tup, isOwn_lst, isOwn_dct, isPlc, ownOnce, putBack, truth, cmpop, binop_addI, binop_addS, binop_addL, binop_addT, binop_sub, binop_mulR, binop_mod, binop_fdiv, negD, nonD, frz_non, frz_bl, frz_int, frz_str, frz_ty, frz_tup, frz_lst, frz_dct, ixD, at?, lenD, small, ownsAt, noOwn, slotNot, Wk.get, Wk.slot, tsl, tsls, clear, restore, isMut, mutAt, mtmut, mtop, sliceD, augop, pinned, big62, walkD, intF, absF, ordF, tupF, allF, maxF, minF, dvmF, findD, splitD, joinD, g1, g2, g3, g4', hb16]
  · simp [runD, exs, ex, retv, ev, tst, op, ops, opv, opt, conds, walk, wkOf, wkE, asgn, asgns, setv, setvs, gets, Opd.get, Opd.take, gt, lstAt, biop, bi1, bi2, isiD, isTys, isTy, tyname, finals, isOwn_non, isOwn_bl, isOwn_int, isOwn_str, isOwn_ty, isOwn_tup, isOwn_lst, isOwn_dct, isPlc, ownOnce, putBack, truth, cmpop, binop_addI, binop_addS, binop_addL, binop_addT, binop_sub, binop_mulR, binop_mod, binop_fdiv, negD, nonD, frz_non, frz_bl, frz_int, frz_str, frz_ty, frz_tup, frz_lst, frz_dct, ixD, at?, lenD, small, ownsAt, noOwn, slotNot, Wk.get, Wk.slot, tsl, tsls, clear, restore, isMut, mutAt, mtmut, mtop, sliceD, augop, pinned, big62, walkD, intF, absF, ordF, tupF, allF, maxF, minF, dvmF, findD, splitD, joinD, f6]
  · simp [runD, exs, ex, retv, ev, tst, op, ops, opv, opt, conds, walk, wkOf, wkE, asgn, asgns, setv, setvs, gets, Opd.get, Opd.take, gt, lstAt, biop, bi1, bi2, isiD, isTys, isTy, tyname, finals, isOwn_non, isOwn_bl, isOwn_int, isOwn_str, isOwn_ty, isOwn_tup, isOwn_lst, isOwn_dct, isPlc, ownOnce, putBack, truth, cmpop, binop_addI, binop_addS, binop_addL, binop_addT, binop_sub, binop_mulR, binop_mod, binop_fdiv, negD, nonD, frz_non, frz_bl, frz_int, frz_str, frz_ty, frz_tup, frz_lst, frz_dct, ixD, at?, lenD, small, ownsAt, noOwn, slotNot, Wk.get, Wk.slot, tsl, tsls, clear, restore, isMut, mutAt, mtmut, mtop, sliceD, augop, pinned, big62, walkD, intF, absF, ordF, tupF, allF, maxF, minF, dvmF, findD, splitD, joinD, f4, f5, f3, hi]
theorem s_telling_from : ∀ (t : Tl) (pre post : Txt) (k dp : Nat), t.ok → t.dep ≤ dp → (pre ++ (t.word ++ post)).length ≤ 16777216 → callN fs (k + t.dep + 3) 17 [.str (pre ++ (t.word ++ post)), .int (pre.length : Int), .int (dp : Int)] = some (.tup [t.d, .int ((pre.length + t.word.length : Nat) : Int)], [none, none, none])
  | .int i, pre, post, k, dp, ho, hd, hl => by
    have hd' : ¬ dp = 0 := by have : 1 ≤ dp := hd; omega
    have f1 := slice_mid (a := (pre.length : Int)) (b := (pre.length : Int) + 1) pre [105] (strI i ++ ([59] ++ post)) rfl (by simp) (by simpa [Tl.word] using hl)
    have n1 := s_int_from (k := k) (pre := pre ++ [105]) (post := post) ho (by simpa [Tl.word] using hl)
    have e : pre ++ ((Tl.int i).word ++ post) = pre ++ ([105] ++ (strI i ++ ([59] ++ post))) := by simp [Tl.word]
    have e2 : (pre ++ [105]) ++ (strI i ++ 59 :: post) = pre ++ ([105] ++ (strI i ++ ([59] ++ post))) := by simp
    have e3 : (((pre ++ [105]).length : Nat) : Int) = (pre.length : Int) + 1 := by simp
    have e4 : (((pre ++ [105]).length + (strI i).length + 1 : Nat) : Int) = ((pre.length + (Tl.int i).word.length : Nat) : Int) := by simp [Tl.word]; omega
    rw [e2, e3, e4] at n1
    rw [e]
    generalize (pre ++ ([105] ++ (strI i ++ ([59] ++ post)))) = T at f1 n1
    generalize ((pre.length + (Tl.int i).word.length : Nat) : Int) = q at n1
    generalize (pre.length : Int) = a at f1 n1
    refine call_of (f := f_telling_from) rfl ?_
    rw [b_telling_from]
    have n1 : callN fs (k + (Tl.int i).dep + 2) 16 [.str T, .int (a + 1)] = some (.tup [.int i, .int q], [none, none]) := n1
    simp [runD, exs, ex, retv, ev, tst, op, ops, opv, opt, conds, walk, wkOf, wkE, asgn, asgns, setv, setvs, gets, Opd.get, Opd.take, gt, lstAt, biop, bi1, bi2, isiD, isTys, isTy, tyname, finals, isOwn_non, isOwn_bl, isOwn_int, isOwn_str, isOwn_ty, isOwn_tup, isOwn_lst, isOwn_dct, isPlc, ownOnce, putBack, truth, cmpop, binop_addI, binop_addS, binop_addL, binop_addT, binop_sub, binop_mulR, binop_mod, binop_fdiv, negD, nonD, frz_non, frz_bl, frz_int, frz_str, frz_ty, frz_tup, frz_lst, frz_dct, ixD, at?, lenD, small, ownsAt, noOwn, slotNot, Wk.get, Wk.slot, tsl, tsls, clear, restore, isMut, mutAt, mtmut, mtop, augop, pinned, big62, walkD, intF, absF, ordF, tupF, allF, maxF, minF, dvmF, findD, splitD, joinD, f1, n1, isinD, List.lookup, eqD_int, eqD_str, okT, okT_eq, inD, py, pys, SeqAt.shaped, PyData.canLay0, PyData.canLayAll0, PyData.depth, PyData.depthAll, PyData.eqv, st_beq, hd', Tl.d]
  | .tt, pre, post, k, dp, ho, hd, hl => by
    have hd' : ¬ dp = 0 := by have : 1 ≤ dp := hd; omega
    have f1 := slice_mid (a := (pre.length : Int)) (b := (pre.length : Int) + 1) pre [116] post rfl (by simp) hl
    have e : ((pre.length + (Tl.tt).word.length : Nat) : Int) = (pre.length : Int) + 1 := by simp [Tl.word]
    rw [e]
    have f1 : sliceD (some (pre.length : Int)) (some ((pre.length : Int) + 1)) (.str (pre ++ ((Tl.tt).word ++ post))) = some (.str [116]) := f1
    generalize (pre ++ ((Tl.tt).word ++ post)) = T at f1
    generalize (pre.length : Int) = a at f1
    refine call_of (f := f_telling_from) rfl ?_
    rw [b_telling_from]
    simp [runD, exs, ex, retv, ev, tst, op, ops, opv, opt, conds, walk, wkOf, wkE, asgn, asgns, setv, setvs, gets, Opd.get, Opd.take, gt, lstAt, biop, bi1, bi2, isiD, isTys, isTy, tyname, finals, isOwn_non, isOwn_bl, isOwn_int, isOwn_str, isOwn_ty, isOwn_tup, isOwn_lst, isOwn_dct, isPlc, ownOnce, putBack, truth, cmpop, binop_addI, binop_addS, binop_addL, binop_addT, binop_sub, binop_mulR, binop_mod, binop_fdiv, negD, nonD, frz_non, frz_bl, frz_int, frz_str, frz_ty, frz_tup, frz_lst, frz_dct, ixD, at?, lenD, small, ownsAt, noOwn, slotNot, Wk.get, Wk.slot, tsl, tsls, clear, restore, isMut, mutAt, mtmut, mtop, augop, pinned, big62, walkD, intF, absF, ordF, tupF, allF, maxF, minF, dvmF, findD, splitD, joinD, f1, isinD, List.lookup, eqD_int, eqD_str, okT, okT_eq, inD, py, pys, SeqAt.shaped, PyData.canLay0, PyData.canLayAll0, PyData.depth, PyData.depthAll, PyData.eqv, st_beq, hd', Tl.d]
  | .un, pre, post, k, dp, ho, hd, hl => by
    have hd' : ¬ dp = 0 := by have : 1 ≤ dp := hd; omega
    have f1 := slice_mid (a := (pre.length : Int)) (b := (pre.length : Int) + 1) pre [117] post rfl (by simp) hl
    have e : ((pre.length + (Tl.un).word.length : Nat) : Int) = (pre.length : Int) + 1 := by simp [Tl.word]
    rw [e]
    have f1 : sliceD (some (pre.length : Int)) (some ((pre.length : Int) + 1)) (.str (pre ++ ((Tl.un).word ++ post))) = some (.str [117]) := f1
    generalize (pre ++ ((Tl.un).word ++ post)) = T at f1
    generalize (pre.length : Int) = a at f1
    refine call_of (f := f_telling_from) rfl ?_
    rw [b_telling_from]
    simp [runD, exs, ex, retv, ev, tst, op, ops, opv, opt, conds, walk, wkOf, wkE, asgn, asgns, setv, setvs, gets, Opd.get, Opd.take, gt, lstAt, biop, bi1, bi2, isiD, isTys, isTy, tyname, finals, isOwn_non, isOwn_bl, isOwn_int, isOwn_str, isOwn_ty, isOwn_tup, isOwn_lst, isOwn_dct, isPlc, ownOnce, putBack, truth, cmpop, binop_addI, binop_addS, binop_addL, binop_addT, binop_sub, binop_mulR, binop_mod, binop_fdiv, negD, nonD, frz_non, frz_bl, frz_int, frz_str, frz_ty, frz_tup, frz_lst, frz_dct, ixD, at?, lenD, small, ownsAt, noOwn, slotNot, Wk.get, Wk.slot, tsl, tsls, clear, restore, isMut, mutAt, mtmut, mtop, augop, pinned, big62, walkD, intF, absF, ordF, tupF, allF, maxF, minF, dvmF, findD, splitD, joinD, f1, isinD, List.lookup, eqD_int, eqD_str, okT, okT_eq, inD, py, pys, SeqAt.shaped, PyData.canLay0, PyData.canLayAll0, PyData.depth, PyData.depthAll, PyData.eqv, st_beq, hd', Tl.d]
  | .nl, pre, post, k, dp, ho, hd, hl => by
    have hd' : ¬ dp = 0 := by have : 1 ≤ dp := hd; omega
    have f1 := slice_mid (a := (pre.length : Int)) (b := (pre.length : Int) + 1) pre [110] post rfl (by simp) hl
    have e : ((pre.length + (Tl.nl).word.length : Nat) : Int) = (pre.length : Int) + 1 := by simp [Tl.word]
    rw [e]
    have f1 : sliceD (some (pre.length : Int)) (some ((pre.length : Int) + 1)) (.str (pre ++ ((Tl.nl).word ++ post))) = some (.str [110]) := f1
    generalize (pre ++ ((Tl.nl).word ++ post)) = T at f1
    generalize (pre.length : Int) = a at f1
    refine call_of (f := f_telling_from) rfl ?_
    rw [b_telling_from]
    simp [runD, exs, ex, retv, ev, tst, op, ops, opv, opt, conds, walk, wkOf, wkE, asgn, asgns, setv, setvs, gets, Opd.get, Opd.take, gt, lstAt, biop, bi1, bi2, isiD, isTys, isTy, tyname, finals, isOwn_non, isOwn_bl, isOwn_int, isOwn_str, isOwn_ty, isOwn_tup, isOwn_lst, isOwn_dct, isPlc, ownOnce, putBack, truth, cmpop, binop_addI, binop_addS, binop_addL, binop_addT, binop_sub, binop_mulR, binop_mod, binop_fdiv, negD, nonD, frz_non, frz_bl, frz_int, frz_str, frz_ty, frz_tup, frz_lst, frz_dct, ixD, at?, lenD, small, ownsAt, noOwn, slotNot, Wk.get, Wk.slot, tsl, tsls, clear, restore, isMut, mutAt, mtmut, mtop, augop, pinned, big62, walkD, intF, absF, ordF, tupF, allF, maxF, minF, dvmF, findD, splitD, joinD, f1, isinD, List.lookup, eqD_int, eqD_str, okT, okT_eq, inD, py, pys, SeqAt.shaped, PyData.canLay0, PyData.canLayAll0, PyData.depth, PyData.depthAll, PyData.eqv, st_beq, hd', Tl.d]
  | .two c a b, pre, post, k, dp, ho, hd, hl => by
    have hd0 : max a.dep b.dep + 1 ≤ dp := hd
    have hd' : ¬ dp = 0 := by omega
    obtain ⟨dq, rfl⟩ : ∃ dq, dp = dq + 1 := ⟨dp - 1, by omega⟩
    have lw : (Tl.two c a b).word = (if c then 99 else 112) :: (a.word ++ b.word) := rfl
    generalize hg : (if c then 99 else 112) = g at lw
    have la : (pre ++ [g]).length = pre.length + 1 := by simp
    have e : pre ++ ((Tl.two c a b).word ++ post) = pre ++ ([g] ++ (a.word ++ (b.word ++ post))) := by rw [lw]; simp
    have ea : (pre ++ [g]) ++ (a.word ++ (b.word ++ post)) = pre ++ ([g] ++ (a.word ++ (b.word ++ post))) := by simp
    have eb : ((pre ++ [g]) ++ a.word) ++ (b.word ++ post) = pre ++ ([g] ++ (a.word ++ (b.word ++ post))) := by simp
    rw [e] at hl ⊢
    have f1 := slice_mid (a := (pre.length : Int)) (b := (pre.length : Int) + 1) pre [g] (a.word ++ (b.word ++ post)) rfl (by simp) hl
    have ia := s_telling_from a (pre ++ [g]) (b.word ++ post) (k + (max a.dep b.dep - a.dep)) dq ho.1 (by omega) (by rw [ea]; exact hl)
    have ib := s_telling_from b ((pre ++ [g]) ++ a.word) post (k + (max a.dep b.dep - b.dep)) dq ho.2 (by omega) (by rw [eb]; exact hl)
    rw [show k + (max a.dep b.dep - a.dep) + a.dep + 3 = k + max a.dep b.dep + 3 by omega, ea] at ia
    rw [show k + (max a.dep b.dep - b.dep) + b.dep + 3 = k + max a.dep b.dep + 3 by omega, eb, List.length_append] at ib
    have e3 : (((pre ++ [g]).length : Nat) : Int) = (pre.length : Int) + 1 := by simp
    have e4 : (((pre ++ [g]).length + a.word.length + b.word.length : Nat) : Int) = ((pre.length + (Tl.two c a b).word.length : Nat) : Int) := by rw [lw]; simp; omega
    have e5 : ((dq + 1 : Nat) : Int) = (dq : Int) + 1 := by omega
    rw [e3] at ia
    rw [e4] at ib
    rw [e5]
    generalize (pre ++ ([g] ++ (a.word ++ (b.word ++ post)))) = T at f1 ia ib
    generalize ((pre.length + (Tl.two c a b).word.length : Nat) : Int) = q at ib
    generalize (((pre ++ [g]).length + a.word.length : Nat) : Int) = q1 at ia ib
    generalize (pre.length : Int) = x at f1 ia
    have hz : ¬ ((dq : Int) + 1 = 0) := by omega
    generalize (dq : Int) = z at ia ib hz
    have oa := a.frz
    have ob := b.frz
    refine call_of (f := f_telling_from) rfl ?_
    rw [b_telling_from]
    have ia : callN fs (k + (Tl.two c a b).dep + 2) 17 [.str T, .int (x + 1), .int z] = some (.tup [a.d, .int q1], [none, none, none]) := ia
    have ib : callN fs (k + (Tl.two c a b).dep + 2) 17 [.str T, .int q1, .int z] = some (.tup [b.d, .int q], [none, none, none]) := ib
    have ez : z + 1 - 1 = z := by omega
    cases c with
    | false =>
      have hg : 112 = g := hg
      subst hg
      simp [runD, exs, ex, retv, ev, tst, op, ops, opv, opt, conds, walk, wkOf, wkE, asgn, asgns, setv, setvs, gets, Opd.get, Opd.take, gt, lstAt, biop, bi1, bi2, isiD, isTys, isTy, tyname, finals, isOwn_non, isOwn_bl, isOwn_int, isOwn_str, isOwn_ty, isOwn_tup, isOwn_lst, isOwn_dct, isPlc, ownOnce, putBack, truth, cmpop, binop_addI, binop_addS, binop_addL, binop_addT, binop_sub, binop_mulR, binop_mod, binop_fdiv, negD, nonD, frz_non, frz_bl, frz_int, frz_str, frz_ty, frz_tup, frz_lst, frz_dct, ixD, at?, lenD, small, ownsAt, noOwn, slotNot, Wk.get, Wk.slot, tsl, tsls, clear, restore, isMut, mutAt, mtmut, mtop, augop, pinned, big62, walkD, intF, absF, ordF, tupF, allF, maxF, minF, dvmF, findD, splitD, joinD, f1, ia, ib, isinD, List.lookup, eqD_int, eqD_str, okT, okT_eq, inD, py, pys, SeqAt.shaped, PyData.canLay0, PyData.canLayAll0, PyData.depth, PyData.depthAll, PyData.eqv, st_beq, hz, Tl.d, ez, oa, ob]
    | true =>
      have hg : 99 = g := hg
      subst hg
      simp [runD, exs, ex, retv, ev, tst, op, ops, opv, opt, conds, walk, wkOf, wkE, asgn, asgns, setv, setvs, gets, Opd.get, Opd.take, gt, lstAt, biop, bi1, bi2, isiD, isTys, isTy, tyname, finals, isOwn_non, isOwn_bl, isOwn_int, isOwn_str, isOwn_ty, isOwn_tup, isOwn_lst, isOwn_dct, isPlc, ownOnce, putBack, truth, cmpop, binop_addI, binop_addS, binop_addL, binop_addT, binop_sub, binop_mulR, binop_mod, binop_fdiv, negD, nonD, frz_non, frz_bl, frz_int, frz_str, frz_ty, frz_tup, frz_lst, frz_dct, ixD, at?, lenD, small, ownsAt, noOwn, slotNot, Wk.get, Wk.slot, tsl, tsls, clear, restore, isMut, mutAt, mtmut, mtop, augop, pinned, big62, walkD, intF, absF, ordF, tupF, allF, maxF, minF, dvmF, findD, splitD, joinD, f1, ia, ib, isinD, List.lookup, eqD_int, eqD_str, okT, okT_eq, inD, py, pys, SeqAt.shaped, PyData.canLay0, PyData.canLayAll0, PyData.depth, PyData.depthAll, PyData.eqv, st_beq, hz, Tl.d, ez, oa, ob]
theorem s_telling_by {k : Nat} {t : Tl} (h : smallT t) : callN fs (k + 8) 18 [.str t.word] = some (t.d, [none]) := by
  obtain ⟨h1, h2, h3⟩ := h
  have hw := t.word_len h1
  have n1 := s_telling_from t [] [] (k + (4 - t.dep)) 150 h1 (by omega) (by simp; omega)
  rw [show k + (4 - t.dep) + t.dep + 3 = k + 7 by omega] at n1
  simp at n1
  have hl : t.word.length ≤ 16777216 := by omega
  have of := t.frz
  refine call_of (f := f_telling_by) rfl ?_
  rw [b_telling_by]
  simp [runD, exs, ex, retv, ev, tst, op, ops, opv, opt, conds, walk, wkOf, wkE, asgn, asgns, setv, setvs, gets, Opd.get, Opd.take, gt, lstAt, biop, bi1, bi2, isiD, isTys, isTy, tyname, finals, isOwn_non, isOwn_bl, isOwn_int, isOwn_str, isOwn_ty, isOwn_tup, isOwn_lst, isOwn_dct, isPlc, ownOnce, putBack, truth, cmpop, binop_addI, binop_addS, binop_addL, binop_addT, binop_sub, binop_mulR, binop_mod, binop_fdiv, negD, nonD, frz_non, frz_bl, frz_int, frz_str, frz_ty, frz_tup, frz_lst, frz_dct, ixD, at?, lenD, small, ownsAt, noOwn, slotNot, Wk.get, Wk.slot, tsl, tsls, clear, restore, isMut, mutAt, mtmut, mtop, sliceD, augop, pinned, big62, walkD, intF, absF, ordF, tupF, allF, maxF, minF, dvmF, findD, splitD, joinD, n1, eqD_int, hl, of]
end K68

end
section
set_option Elab.async false
set_option linter.all false
set_option maxRecDepth 100000
set_option maxHeartbeats 2000000
/-! K17: records by their parts; a line's record. -/
namespace K68
open PySem hiding Env Ctx
open Mp PySem.NumText
theorem eqv_none : ∀ {x : DV} {p : PyData}, py x = some p → PyData.eqv p .none = nonD x
  | .non, p, h => by cases h; simp [PyData.eqv, nonD]
  | .bl b, p, h => by cases h; simp [PyData.eqv, nonD]
  | .int i, p, h => by cases h; simp [PyData.eqv, nonD]
  | .str t, p, h => by cases h; simp [PyData.eqv, nonD]
  | .ty n, p, h => by cases h
  | .dct n, p, h => by cases h
  | .tup xs, p, h => by
    simp only [py, Option.map_eq_some_iff] at h
    obtain ⟨a, _, rfl⟩ := h
    simp [PyData.eqv, nonD]
  | .lst o xs, p, h => by
    simp only [py, Option.map_eq_some_iff] at h
    obtain ⟨a, _, rfl⟩ := h
    simp [PyData.eqv, nonD]
theorem any_none : ∀ {xs : List DV} {ps : List PyData}, pys xs = some ps → ps.any (fun z => PyData.eqv z .none) = xs.any nonD
  | [], ps, h => by cases h; rfl
  | x :: xs, ps, h => by
    simp only [pys] at h
    split at h
    · rename_i a as e1 e2
      cases h
      simp [eqv_none e1, any_none e2]
    · cases h
theorem inD_non {xs : List DV} (h : okDs 60 xs = true) : inD .non xs = some (xs.any nonD) := by
  obtain ⟨ps, h1, h2, h3, h4⟩ := okDs_py 60 xs h
  have e1 : py .non = some .none := rfl
  have s1 : SeqAt.shaped .none = true := by simp [SeqAt.shaped, PyData.canLay0, PyData.depth]
  have s2 : SeqAt.shaped (.list ps) = true := by simp [SeqAt.shaped, PyData.canLay0, PyData.depth, h2]; omega
  unfold inD
  rw [e1, h1]
  simp [s1, s2, any_none h1]
def numW (w : Txt) : Prop := w = [98, 101, 103, 117, 110] ∨ w = [107, 101, 112, 116]
theorem numBy_ok (t : Txt) : okD 1 (numBy t) = true ∧ Mp.frz (numBy t) = numBy t ∧ isOwn (numBy t) = false := by
  unfold numBy
  split
  · split
    · exact ⟨rfl, rfl, rfl⟩
    · exact ⟨rfl, rfl, rfl⟩
  · exact ⟨rfl, rfl, rfl⟩
theorem numBy_oks : ∀ (ts : List Txt), okDs 1 (ts.map numBy) = true
  | [] => rfl
  | t :: ts => by
    rw [List.map_cons]
    unfold okDs
    rw [(numBy_ok t).1, numBy_oks ts]
    rfl
/-- a row of numbers of another length is no record -/
theorem s_is_record_not {k : Nat} {w : Txt} {xs : List DV} (hw : (w = [98, 101, 103, 117, 110] ∧ xs.length ≠ 1) ∨ (w = [107, 101, 112, 116] ∧ xs.length ≠ 2)) (ho : okDs 60 xs = true) : callN fs (k + 2) 19 [.tup (.str w :: xs)] = some (.bl false, [none]) := by
  refine call_of (f := f_is_record_of) rfl ?_
  rw [b_is_record_of]
  have hk : okD 61 (.tup (.str w :: xs)) = true := by
    rcases hw with ⟨rfl, _⟩ | ⟨rfl, _⟩ <;> simp [okD, okDs, okT, ho]
  have e0 := eqD_nil (by decide) hk
  rcases hw with ⟨rfl, hx⟩ | ⟨rfl, hx⟩
  · have r1 := s_is_row (k := k) (d := .tup (.str [98, 101, 103, 117, 110] :: xs)) (n := 2) rfl
    have : ¬ ((xs.length : Int) + 1 = 2) := by omega
    simp [runD, exs, ex, retv, ev, tst, op, ops, opv, opt, conds, walk, wkOf, wkE, asgn, asgns, setv, setvs, gets, Opd.get, Opd.take, gt, lstAt, biop, bi1, bi2, isiD, isTys, isTy, tyname, finals, isOwn_non, isOwn_bl, isOwn_int, isOwn_str, isOwn_ty, isOwn_tup, isOwn_lst, isOwn_dct, isPlc, ownOnce, putBack, truth, cmpop, binop_addI, binop_addS, binop_addL, binop_addT, binop_sub, binop_mulR, binop_mod, binop_fdiv, negD, nonD, frz_non, frz_bl, frz_int, frz_str, frz_ty, frz_tup, frz_lst, frz_dct, ixD, at?, lenD, small, ownsAt, noOwn, slotNot, Wk.get, Wk.slot, tsl, tsls, clear, restore, isMut, mutAt, mtmut, mtop, sliceD, augop, pinned, big62, walkD, intF, absF, ordF, tupF, allF, maxF, minF, dvmF, findD, splitD, joinD, e0, eqD_str, okT, r1, isRowD, this]
  · have r1 := s_is_row (k := k) (d := .tup (.str [107, 101, 112, 116] :: xs)) (n := 3) rfl
    have : ¬ ((xs.length : Int) + 1 = 3) := by omega
    simp [runD, exs, ex, retv, ev, tst, op, ops, opv, opt, conds, walk, wkOf, wkE, asgn, asgns, setv, setvs, gets, Opd.get, Opd.take, gt, lstAt, biop, bi1, bi2, isiD, isTys, isTy, tyname, finals, isOwn_non, isOwn_bl, isOwn_int, isOwn_str, isOwn_ty, isOwn_tup, isOwn_lst, isOwn_dct, isPlc, ownOnce, putBack, truth, cmpop, binop_addI, binop_addS, binop_addL, binop_addT, binop_sub, binop_mulR, binop_mod, binop_fdiv, negD, nonD, frz_non, frz_bl, frz_int, frz_str, frz_ty, frz_tup, frz_lst, frz_dct, ixD, at?, lenD, small, ownsAt, noOwn, slotNot, Wk.get, Wk.slot, tsl, tsls, clear, restore, isMut, mutAt, mtmut, mtop, sliceD, augop, pinned, big62, walkD, intF, absF, ordF, tupF, allF, maxF, minF, dvmF, findD, splitD, joinD, e0, eqD_str, okT, r1, isRowD, this]
theorem cut_from1L {α : Type} (x : α) (xs : List α) : cut (x :: xs) (some 1) none = xs := by
  unfold cut
  have h1 : sIx (x :: xs).length (x :: xs).length none = xs.length + 1 := rfl
  have h2 : sIx (x :: xs).length 0 (some 1) = 1 := by
    have := sIx_nat (x :: xs).length 0 1
    simp at this
    simpa using this
  rw [h1, h2]
  show xs.take (xs.length + 1 - 1) = xs
  simp
/-- the numbers of a row -/
theorem op_nums {k : Nat} {w : Txt} {ts : List Txt} {v0 v3 : Option DV} (hok : ∀ t ∈ ts, okT t = true ∧ t.length ≤ 16777216) (hl : ts.length ≤ 400000) : op ⟨callN fs (k + 1), [0]⟩ (.lc (.nm 4) (.seq (.var 2)) .nil (.call 26 (.cons (.var 4) .nil))) [v0, some (.str w), some (.lst true (ts.map Mp.D.str)), v3, none] = some (.val (.lst true (ts.map numBy)), [v0, some (.str w), some (.lst true (ts.map Mp.D.str)), v3, none]) := by
  have lc := op_lc (C := ⟨callN fs (k + 1), [0]⟩) (t := .nm 4) (it := .seq (.var 2)) (cs := .nil) (e := .call 26 (.cons (.var 4) .nil)) (env := [v0, some (.str w), some (.lst true (ts.map Mp.D.str)), v3, none]) (e1 := [v0, some (.str w), some (.lst true (ts.map Mp.D.str)), v3, none]) (e0 := [v0, some (.str w), some (.lst true (ts.map Mp.D.str)), v3, none]) (wk := .live 2) (ys := ts.map Mp.D.str)
      (strOpt numBy) (by simp [walk, op, gt, wkOf]) (by simp [noOwn, tsl, gt, slotNot, Wk.slot]) rfl rfl rfl (by
        intro x hx
        obtain ⟨t, ht, rfl⟩ := List.mem_map.mp hx
        have h1 := s_number_by (k := k) (hok t ht).1 (hok t ht).2
        obtain ⟨_, h3, h4⟩ := numBy_ok t
        simp [lcB, runD, exs, ex, retv, ev, tst, op, ops, opv, opt, conds, walk, wkOf, wkE, asgn, asgns, setv, setvs, gets, Opd.get, Opd.take, gt, lstAt, biop, bi1, bi2, isiD, isTys, isTy, tyname, finals, isOwn_non, isOwn_bl, isOwn_int, isOwn_str, isOwn_ty, isOwn_tup, isOwn_lst, isOwn_dct, isPlc, ownOnce, putBack, truth, cmpop, binop_addI, binop_addS, binop_addL, binop_addT, binop_sub, binop_mulR, binop_mod, binop_fdiv, negD, nonD, frz_non, frz_bl, frz_int, frz_str, frz_ty, frz_tup, frz_lst, frz_dct, ixD, at?, lenD, small, ownsAt, noOwn, slotNot, Wk.get, Wk.slot, tsl, tsls, clear, restore, isMut, mutAt, mtmut, mtop, sliceD, augop, pinned, big62, walkD, intF, absF, ordF, tupF, allF, maxF, minF, dvmF, findD, splitD, joinD, h1, h3, h4, strOpt]) (by
        rw [filterMap_str, List.length_map]
        omega)
  rw [filterMap_str] at lc
  exact lc
theorem s_record_by_num {k : Nat} {w : Txt} {ts : List Txt} (hw : numW w) (hok : ∀ t ∈ ts, okT t = true ∧ t.length ≤ 16777216) (hl : ts.length ≤ 400000) {z : Bool} (hz : (ts.map numBy).any nonD = true ∨ callN fs (k + 6) 19 [.tup (.str w :: ts.map numBy)] = some (.bl z, [none])) :
    callN fs (k + 7) 27 [.lst true (.str w :: ts.map Mp.D.str)] = some (if (ts.map numBy).any nonD = true then .non else if z then .tup (.str w :: ts.map numBy) else .non, [some (.lst true (.str w :: ts.map Mp.D.str))]) := by
  have c1 := cut_from1L (Mp.D.str w) (ts.map Mp.D.str)
  have n1 := op_nums (k := k + 5) (w := w) (v0 := some (.lst true (.str w :: ts.map Mp.D.str))) (v3 := none) hok hl
  have okw : okT w = true := by rcases hw with rfl | rfl <;> rfl
  have hin : isinD (.str w) (.tup [.str [98, 101, 103, 117, 110], .str [107, 101, 112, 116]]) = some true := by
    rcases hw with rfl | rfl <;> simp [isinD, isinD, List.lookup, eqD_int, eqD_str, okT, okT_eq, inD, py, pys, SeqAt.shaped, PyData.canLay0, PyData.canLayAll0, PyData.depth, PyData.depthAll, PyData.eqv, st_beq]
  have hoks : okDs 60 (.str w :: ts.map numBy) = true := by
    have h1 := okD_mono (n := 2) (m := 61) (d := .tup (ts.map numBy)) (by decide) (by unfold okD; exact numBy_oks ts)
    unfold okD at h1
    simp [okDs, okD, okw, h1]
  have hnn := inD_non hoks
  have hnn' : inD .non (.str w :: ts.map numBy) = some ((ts.map numBy).any nonD) := by rw [hnn]; rfl
  have hlen : 1 + ts.length ≤ 16777216 := by omega
  have sl : sliceD (some 1) none (.lst true (.str w :: ts.map Mp.D.str)) = some (.lst true (ts.map Mp.D.str)) := by
    show some (Mp.D.lst true (cut _ _ _)) = _
    rw [c1]
  have lm : (ts.map numBy).length = ts.length := List.length_map ..
  have lm2 : (ts.map Mp.D.str).length = ts.length := List.length_map ..
  generalize hZ : (if (ts.map numBy).any nonD = true then Mp.D.non else if z then .tup (.str w :: ts.map numBy) else .non) = Z
  generalize ts.map numBy = ns at hz n1 hoks hnn' lm hZ
  generalize ts.map Mp.D.str = P at n1 sl lm2
  refine call_of (f := f_record_by) rfl ?_
  rw [b_record_by]
  refine run_nx (e := [some (.lst true (.str w :: P)), some (.str w), some (.lst true P), some (.tup (.str w :: ns)), none]) ⟨rfl, by decide⟩ ?_ (by simp [finals, gt, isOwn_lst])
  refine exs_nx (e1 := [some (.lst true (.str w :: P)), some (.str w), some (.lst true P), none, none]) ?_ (exs_nx (e1 := [some (.lst true (.str w :: P)), some (.str w), some (.lst true P), some (.tup (.str w :: ns)), none]) ?_ ?_)
  · simp [runD, exs, ex, retv, ev, tst, op, ops, opv, opt, conds, walk, wkOf, wkE, asgn, asgns, setv, setvs, gets, Opd.get, Opd.take, gt, lstAt, biop, bi1, bi2, isiD, isTys, isTy, tyname, finals, isOwn_non, isOwn_bl, isOwn_int, isOwn_str, isOwn_ty, isOwn_tup, isOwn_lst, isOwn_dct, isPlc, ownOnce, putBack, truth, cmpop, binop_addI, binop_addS, binop_addL, binop_addT, binop_sub, binop_mulR, binop_mod, binop_fdiv, negD, nonD, frz_non, frz_bl, frz_int, frz_str, frz_ty, frz_tup, frz_lst, frz_dct, ixD, at?, lenD, small, ownsAt, noOwn, slotNot, Wk.get, Wk.slot, tsl, tsls, clear, restore, isMut, mutAt, mtmut, mtop, augop, pinned, big62, walkD, intF, absF, ordF, tupF, allF, maxF, minF, dvmF, findD, splitD, joinD, sl]
  · have n1' : op ⟨callN fs (k + 6), [0]⟩ (.lc (.nm 4) (.seq (.var 2)) .nil (.call 26 (.cons (.var 4) .nil))) [some (.lst true (.str w :: P)), some (.str w), some (.lst true P), none, none] = some (.val (.lst true ns), [some (.lst true (.str w :: P)), some (.str w), some (.lst true P), none, none]) := n1
    generalize (ME.lc (.nm 4) (.seq (.var 2)) .nil (.call 26 (.cons (.var 4) .nil))) = q at n1' ⊢
    simp [runD, exs, ex, retv, ev, tst, op, ops, opv, opt, conds, walk, wkOf, wkE, asgn, asgns, setv, setvs, gets, Opd.get, Opd.take, gt, lstAt, biop, bi1, bi2, isiD, isTys, isTy, tyname, finals, isOwn_non, isOwn_bl, isOwn_int, isOwn_str, isOwn_ty, isOwn_tup, isOwn_lst, isOwn_dct, isPlc, ownOnce, putBack, truth, cmpop, binop_addI, binop_addS, binop_addL, binop_addT, binop_sub, binop_mulR, binop_mod, binop_fdiv, negD, nonD, frz_non, frz_bl, frz_int, frz_str, frz_ty, frz_tup, frz_lst, frz_dct, ixD, at?, lenD, small, ownsAt, noOwn, slotNot, Wk.get, Wk.slot, tsl, tsls, clear, restore, isMut, mutAt, mtmut, mtop, sliceD, augop, pinned, big62, walkD, intF, absF, ordF, tupF, allF, maxF, minF, dvmF, findD, splitD, joinD, n1', hin, lm, hlen]
  · by_cases hy : ns.any nonD = true
    · rw [if_pos hy] at hZ
      rw [hy] at hnn'
      simp [runD, exs, ex, retv, ev, tst, op, ops, opv, opt, conds, walk, wkOf, wkE, asgn, asgns, setv, setvs, gets, Opd.get, Opd.take, gt, lstAt, biop, bi1, bi2, isiD, isTys, isTy, tyname, finals, isOwn_non, isOwn_bl, isOwn_int, isOwn_str, isOwn_ty, isOwn_tup, isOwn_lst, isOwn_dct, isPlc, ownOnce, putBack, truth, cmpop, binop_addI, binop_addS, binop_addL, binop_addT, binop_sub, binop_mulR, binop_mod, binop_fdiv, negD, nonD, frz_non, frz_bl, frz_int, frz_str, frz_ty, frz_tup, frz_lst, frz_dct, ixD, at?, lenD, small, ownsAt, noOwn, slotNot, Wk.get, Wk.slot, tsl, tsls, clear, restore, isMut, mutAt, mtmut, mtop, sliceD, augop, pinned, big62, walkD, intF, absF, ordF, tupF, allF, maxF, minF, dvmF, findD, splitD, joinD, isinD, hnn', ← hZ]
    · rw [if_neg hy] at hZ
      rw [Bool.eq_false_iff.mpr hy] at hnn'
      have hz := hz.resolve_left hy
      cases z with
      | true =>
        simp at hZ
        simp [runD, exs, ex, retv, ev, tst, op, ops, opv, opt, conds, walk, wkOf, wkE, asgn, asgns, setv, setvs, gets, Opd.get, Opd.take, gt, lstAt, biop, bi1, bi2, isiD, isTys, isTy, tyname, finals, isOwn_non, isOwn_bl, isOwn_int, isOwn_str, isOwn_ty, isOwn_tup, isOwn_lst, isOwn_dct, isPlc, ownOnce, putBack, truth, cmpop, binop_addI, binop_addS, binop_addL, binop_addT, binop_sub, binop_mulR, binop_mod, binop_fdiv, negD, nonD, frz_non, frz_bl, frz_int, frz_str, frz_ty, frz_tup, frz_lst, frz_dct, ixD, at?, lenD, small, ownsAt, noOwn, slotNot, Wk.get, Wk.slot, tsl, tsls, clear, restore, isMut, mutAt, mtmut, mtop, sliceD, augop, pinned, big62, walkD, intF, absF, ordF, tupF, allF, maxF, minF, dvmF, findD, splitD, joinD, isinD, hnn', hz, ← hZ]
      | false =>
        simp at hZ
        simp [runD, exs, ex, retv, ev, tst, op, ops, opv, opt, conds, walk, wkOf, wkE, asgn, asgns, setv, setvs, gets, Opd.get, Opd.take, gt, lstAt, biop, bi1, bi2, isiD, isTys, isTy, tyname, finals, isOwn_non, isOwn_bl, isOwn_int, isOwn_str, isOwn_ty, isOwn_tup, isOwn_lst, isOwn_dct, isPlc, ownOnce, putBack, truth, cmpop, binop_addI, binop_addS, binop_addL, binop_addT, binop_sub, binop_mulR, binop_mod, binop_fdiv, negD, nonD, frz_non, frz_bl, frz_int, frz_str, frz_ty, frz_tup, frz_lst, frz_dct, ixD, at?, lenD, small, ownsAt, noOwn, slotNot, Wk.get, Wk.slot, tsl, tsls, clear, restore, isMut, mutAt, mtmut, mtop, sliceD, augop, pinned, big62, walkD, intF, absF, ordF, tupF, allF, maxF, minF, dvmF, findD, splitD, joinD, isinD, hnn', hz, ← hZ]
end K68

end
section
set_option Elab.async false
set_option linter.all false
set_option maxRecDepth 100000
set_option maxHeartbeats 2000000
/-! K18: the record of a line. -/
namespace K68
open PySem hiding Env Ctx
open Mp PySem.NumText
theorem numBy_num {n : Nat} (h : n < 1000000000000) : numBy (numT n) = .int (n : Int) := by
  unfold numBy
  have h1 : (numT n).all (fun c => decide (c ∈ digs)) = true := List.all_eq_true.mpr fun c hc => by
    simpa using digs_mem.mpr (numT_digits n c hc)
  rw [if_pos ⟨numT_ne n, numT_len12 h, h1⟩, numT_val, if_pos rfl]
theorem Tl.nonD (t : Tl) : Mp.nonD t.d = false := by
  cases t with
  | two c a b => cases c <;> rfl
  | _ => rfl
theorem num_okl {n : Nat} (h : n < 1000000000000) : okT (numT n) = true ∧ (numT n).length ≤ 16777216 := ⟨okT_num n, by have := numT_len12 h; omega⟩
theorem s_record_by {k : Nat} {r : Rec} (ho : r.ok) : callN fs (k + 9) 27 [.lst true (r.parts.map Mp.D.str)] = some (r.d, [some (.lst true (r.parts.map Mp.D.str))]) := by
  cases r with
  | begun n =>
    have h1 := s_record_by_num (k := k + 2) (w := [98, 101, 103, 117, 110]) (ts := [numT n]) (.inl rfl) (fun t ht => by
      rw [List.mem_singleton.mp ht]; exact num_okl ho) (by simp) (z := true) (.inr (by
      have : callN fs (k + 2 + 6) 19 [.tup [.str [98, 101, 103, 117, 110], .int (n : Int)]] = some (.bl true, [none]) := s_is_record_of (k := k + 2) (r := .begun n) ho
      simp only [List.map_cons, List.map_nil, numBy_num ho]
      exact this))
    simp only [List.map_cons, List.map_nil, numBy_num ho, List.any_cons, List.any_nil, Mp.nonD, Bool.or_false, Bool.false_eq_true, if_false, if_true] at h1
    exact h1
  | kept a b =>
    have h1 := s_record_by_num (k := k + 2) (w := [107, 101, 112, 116]) (ts := [numT a, numT b]) (.inr rfl) (fun t ht => by
      simp only [List.mem_cons, List.not_mem_nil, or_false] at ht
      rcases ht with rfl | rfl
      · exact num_okl ho.1
      · exact num_okl ho.2) (by simp) (z := true) (.inr (by
      have : callN fs (k + 2 + 6) 19 [.tup [.str [107, 101, 112, 116], .int (a : Int), .int (b : Int)]] = some (.bl true, [none]) := s_is_record_of (k := k + 2) (r := .kept a b) ho
      simp only [List.map_cons, List.map_nil, numBy_num ho.1, numBy_num ho.2]
      exact this))
    simp only [List.map_cons, List.map_nil, numBy_num ho.1, numBy_num ho.2, List.any_cons, List.any_nil, Mp.nonD, Bool.or_false, Bool.false_eq_true, if_false, if_true] at h1
    exact h1
  | asked nm t =>
    have n1 := s_telling_by (k := k) ho.2
    have n2 := s_is_record_of (k := k + 2) ho
    have hok : okDs 60 [Mp.D.str [97, 115, 107, 101, 100], .str nm, t.d] = true := by
      have := Rec.okD ho
      simp only [Rec.d, K68.okD] at this
      have := okD_mono (n := 5) (m := 61) (d := .tup [Mp.D.str [97, 115, 107, 101, 100], .str nm, t.d]) (by decide) (by unfold K68.okD; exact this)
      unfold K68.okD at this
      exact this
    have n3 := inD_non hok
    have hz : (List.any [Mp.D.str [97, 115, 107, 101, 100], .str nm, t.d] Mp.nonD) = false := by
      simp only [List.any_cons, List.any_nil, t.nonD]
      rfl
    rw [hz] at n3
    have n3 : isinD .non (.tup [Mp.D.str [97, 115, 107, 101, 100], .str nm, t.d]) = some false := n3
    have n4 : isinD (.str [97, 115, 107, 101, 100]) (.tup [.str [98, 101, 103, 117, 110], .str [107, 101, 112, 116]]) = some false := by simp [isinD, List.lookup, eqD_int, eqD_str, okT, okT_eq, inD, py, pys, SeqAt.shaped, PyData.canLay0, PyData.canLayAll0, PyData.depth, PyData.depthAll, PyData.eqv, st_beq]
    simp only [Rec.d] at n2
    have of := t.frz
    refine call_of (f := f_record_by) rfl ?_
    rw [b_record_by]
    simp [runD, exs, ex, retv, ev, tst, op, ops, opv, opt, conds, walk, wkOf, wkE, asgn, asgns, setv, setvs, gets, Opd.get, Opd.take, gt, lstAt, biop, bi1, bi2, isiD, isTys, isTy, tyname, finals, isOwn_non, isOwn_bl, isOwn_int, isOwn_str, isOwn_ty, isOwn_tup, isOwn_lst, isOwn_dct, isPlc, ownOnce, putBack, truth, cmpop, binop_addI, binop_addS, binop_addL, binop_addT, binop_sub, binop_mulR, binop_mod, binop_fdiv, negD, nonD, frz_non, frz_bl, frz_int, frz_str, frz_ty, frz_tup, frz_lst, frz_dct, ixD, at?, lenD, small, ownsAt, noOwn, slotNot, Wk.get, Wk.slot, tsl, tsls, clear, restore, isMut, mutAt, mtmut, mtop, sliceD, augop, pinned, big62, walkD, intF, absF, ordF, tupF, allF, maxF, minF, dvmF, findD, splitD, joinD, eqD_int, eqD_str, okT, Rec.d, Rec.parts, cut, sIx, n1, n2, n3, n4, of, t.own]
  | answered t =>
    have n1 := s_telling_by (k := k) ho
    have n2 := s_is_record_of (k := k + 2) (r := .answered t) ho
    have hok : okDs 60 [Mp.D.str [97, 110, 115, 119, 101, 114, 101, 100], t.d] = true := by
      have := Rec.okD (r := .answered t) ho
      simp only [Rec.d, K68.okD] at this
      have := okD_mono (n := 5) (m := 61) (d := .tup [Mp.D.str [97, 110, 115, 119, 101, 114, 101, 100], t.d]) (by decide) (by unfold K68.okD; exact this)
      unfold K68.okD at this
      exact this
    have n3 := inD_non hok
    have hz : (List.any [Mp.D.str [97, 110, 115, 119, 101, 114, 101, 100], t.d] Mp.nonD) = false := by
      simp only [List.any_cons, List.any_nil, t.nonD]
      rfl
    rw [hz] at n3
    have n3 : isinD .non (.tup [Mp.D.str [97, 110, 115, 119, 101, 114, 101, 100], t.d]) = some false := n3
    have n4 : isinD (.str [97, 110, 115, 119, 101, 114, 101, 100]) (.tup [.str [98, 101, 103, 117, 110], .str [107, 101, 112, 116]]) = some false := by simp [isinD, List.lookup, eqD_int, eqD_str, okT, okT_eq, inD, py, pys, SeqAt.shaped, PyData.canLay0, PyData.canLayAll0, PyData.depth, PyData.depthAll, PyData.eqv, st_beq]
    have n5 : isinD (.str [97, 110, 115, 119, 101, 114, 101, 100]) (.tup [.str [97, 110, 115, 119, 101, 114, 101, 100], .str [101, 110, 100, 101, 100]]) = some true := by simp [isinD, List.lookup, eqD_int, eqD_str, okT, okT_eq, inD, py, pys, SeqAt.shaped, PyData.canLay0, PyData.canLayAll0, PyData.depth, PyData.depthAll, PyData.eqv, st_beq]
    simp only [Rec.d] at n2
    have of := t.frz
    refine call_of (f := f_record_by) rfl ?_
    rw [b_record_by]
    simp [runD, exs, ex, retv, ev, tst, op, ops, opv, opt, conds, walk, wkOf, wkE, asgn, asgns, setv, setvs, gets, Opd.get, Opd.take, gt, lstAt, biop, bi1, bi2, isiD, isTys, isTy, tyname, finals, isOwn_non, isOwn_bl, isOwn_int, isOwn_str, isOwn_ty, isOwn_tup, isOwn_lst, isOwn_dct, isPlc, ownOnce, putBack, truth, cmpop, binop_addI, binop_addS, binop_addL, binop_addT, binop_sub, binop_mulR, binop_mod, binop_fdiv, negD, nonD, frz_non, frz_bl, frz_int, frz_str, frz_ty, frz_tup, frz_lst, frz_dct, ixD, at?, lenD, small, ownsAt, noOwn, slotNot, Wk.get, Wk.slot, tsl, tsls, clear, restore, isMut, mutAt, mtmut, mtop, sliceD, augop, pinned, big62, walkD, intF, absF, ordF, tupF, allF, maxF, minF, dvmF, findD, splitD, joinD, eqD_int, eqD_str, okT, Rec.d, Rec.parts, cut, sIx, n1, n2, n3, n4, n5, of, t.own]
theorem s_record_by_bad {k : Nat} {ps : List Txt} (h : BadParts ps) (hok : ∀ t ∈ ps, okT t = true ∧ t.length ≤ 16777216) (hl : ps.length ≤ 400000) : callN fs (k + 9) 27 [.lst true (ps.map Mp.D.str)] = some (.non, [some (.lst true (ps.map Mp.D.str))]) := by
  have num : ∀ {w : Txt} {ts : List Txt}, ((w = [98, 101, 103, 117, 110] ∧ ts.length ≠ 1) ∨ (w = [107, 101, 112, 116] ∧ ts.length ≠ 2)) → ps = w :: ts → callN fs (k + 9) 27 [.lst true (ps.map Mp.D.str)] = some (.non, [some (.lst true (ps.map Mp.D.str))]) := fun {w ts} hw e => by
    subst e
    have hoks : okDs 60 (ts.map numBy) = true := by
      have h1 := okD_mono (n := 2) (m := 61) (d := .tup (ts.map numBy)) (by decide) (by unfold K68.okD; exact numBy_oks ts)
      unfold K68.okD at h1
      exact h1
    have n1 := s_is_record_not (k := k + 6) (w := w) (xs := ts.map numBy) (by simpa using hw) hoks
    have hw' : numW w := hw.elim (fun h => .inl h.1) fun h => .inr h.1
    have h1 := s_record_by_num (k := k + 2) (w := w) (ts := ts) hw' (fun t ht => hok t (List.mem_cons_of_mem _ ht)) (by simp at hl; omega) (z := false) (.inr n1)
    have e2 : (if (ts.map numBy).any Mp.nonD = true then Mp.D.non else if false = true then .tup (.str w :: ts.map numBy) else .non) = .non := by split <;> rfl
    rw [e2] at h1
    exact h1
  rcases h with ⟨r, ho, more, hm, e⟩ | ⟨a, ha, e⟩
  · cases r with
    | begun n => exact num (ts := numT n :: more) (.inl ⟨rfl, by obtain ⟨x, y, rfl⟩ := List.exists_cons_of_ne_nil hm; simp⟩) e
    | kept a b => exact num (ts := numT a :: numT b :: more) (.inr ⟨rfl, by obtain ⟨x, y, rfl⟩ := List.exists_cons_of_ne_nil hm; simp⟩) e
    | asked nm t =>
      obtain ⟨x, y, rfl⟩ := List.exists_cons_of_ne_nil hm
      subst e
      have sl := cut_from1L (Mp.D.str [97, 115, 107, 101, 100]) (.str nm :: .str t.word :: .str x :: y.map Mp.D.str)
      have ln : ¬ ((y.length : Int) + 1 + 1 + 1 = 2) := by omega
      refine call_of (f := f_record_by) rfl ?_
      rw [b_record_by]
      simp [runD, exs, ex, retv, ev, tst, op, ops, opv, opt, conds, walk, wkOf, wkE, asgn, asgns, setv, setvs, gets, Opd.get, Opd.take, gt, lstAt, biop, bi1, bi2, isiD, isTys, isTy, tyname, finals, isOwn_non, isOwn_bl, isOwn_int, isOwn_str, isOwn_ty, isOwn_tup, isOwn_lst, isOwn_dct, isPlc, ownOnce, putBack, truth, cmpop, binop_addI, binop_addS, binop_addL, binop_addT, binop_sub, binop_mulR, binop_mod, binop_fdiv, negD, nonD, frz_non, frz_bl, frz_int, frz_str, frz_ty, frz_tup, frz_lst, frz_dct, ixD, at?, lenD, small, ownsAt, noOwn, slotNot, Wk.get, Wk.slot, tsl, tsls, clear, restore, isMut, mutAt, mtmut, mtop, sliceD, augop, pinned, big62, walkD, intF, absF, ordF, tupF, allF, maxF, minF, dvmF, findD, splitD, joinD, isinD, List.lookup, eqD_int, eqD_str, okT, okT_eq, inD, py, pys, SeqAt.shaped, PyData.canLay0, PyData.canLayAll0, PyData.depth, PyData.depthAll, PyData.eqv, st_beq, Rec.parts, sl, ln]
    | answered t =>
      obtain ⟨x, y, rfl⟩ := List.exists_cons_of_ne_nil hm
      subst e
      have sl := cut_from1L (Mp.D.str [97, 110, 115, 119, 101, 114, 101, 100]) (.str t.word :: .str x :: y.map Mp.D.str)
      have ln : ¬ ((y.length : Int) + 1 + 1 = 1) := by omega
      refine call_of (f := f_record_by) rfl ?_
      rw [b_record_by]
      simp [runD, exs, ex, retv, ev, tst, op, ops, opv, opt, conds, walk, wkOf, wkE, asgn, asgns, setv, setvs, gets, Opd.get, Opd.take, gt, lstAt, biop, bi1, bi2, isiD, isTys, isTy, tyname, finals, isOwn_non, isOwn_bl, isOwn_int, isOwn_str, isOwn_ty, isOwn_tup, isOwn_lst, isOwn_dct, isPlc, ownOnce, putBack, truth, cmpop, binop_addI, binop_addS, binop_addL, binop_addT, binop_sub, binop_mulR, binop_mod, binop_fdiv, negD, nonD, frz_non, frz_bl, frz_int, frz_str, frz_ty, frz_tup, frz_lst, frz_dct, ixD, at?, lenD, small, ownsAt, noOwn, slotNot, Wk.get, Wk.slot, tsl, tsls, clear, restore, isMut, mutAt, mtmut, mtop, sliceD, augop, pinned, big62, walkD, intF, absF, ordF, tupF, allF, maxF, minF, dvmF, findD, splitD, joinD, isinD, List.lookup, eqD_int, eqD_str, okT, okT_eq, inD, py, pys, SeqAt.shaped, PyData.canLay0, PyData.canLayAll0, PyData.depth, PyData.depthAll, PyData.eqv, st_beq, Rec.parts, sl, ln]
  · exact num (ts := [numT a]) (.inr ⟨rfl, by simp⟩) e
end K68

end
section
set_option Elab.async false
set_option linter.all false
set_option maxRecDepth 100000
set_option maxHeartbeats 2000000
/-! K19: the record of a line, asked of a text. -/
namespace K68
open PySem hiding Env Ctx
open Mp PySem.NumText
theorem splitOn_sum (c : Nat) : ∀ (t : Txt), ((splitOn c t).map List.length).sum + (splitOn c t).length = t.length + 1
  | [] => by simp [splitOn]
  | x :: r => by
    have ih := splitOn_sum c r
    obtain ⟨w, ws, e⟩ := List.exists_cons_of_ne_nil (splitOn_ne c r)
    rw [e] at ih
    by_cases h : x = c
    · simp [splitOn, h, e] at ih ⊢
      omega
    · simp [splitOn, h, e] at ih ⊢
      omega
theorem splitOn_sub (c : Nat) : ∀ (t : Txt), ∀ p ∈ splitOn c t, ∀ x ∈ p, x ∈ t
  | [], p, hp, x, hx => by
    simp [splitOn] at hp
    rw [hp] at hx
    cases hx
  | y :: r, p, hp, x, hx => by
    have ih := splitOn_sub c r
    obtain ⟨w, ws, e⟩ := List.exists_cons_of_ne_nil (splitOn_ne c r)
    rw [e] at ih
    by_cases h : y = c
    · simp only [splitOn, h, if_true, e] at hp
      rcases List.mem_cons.mp hp with rfl | hp
      · cases hx
      · exact List.mem_cons_of_mem _ (ih p hp x hx)
    · simp only [splitOn, h, if_false, e] at hp
      rcases List.mem_cons.mp hp with rfl | hp
      · rcases List.mem_cons.mp hx with rfl | hx
        · exact List.mem_cons_self
        · exact List.mem_cons_of_mem _ (ih w List.mem_cons_self x hx)
      · exact List.mem_cons_of_mem _ (ih p (List.mem_cons_of_mem _ hp) x hx)
theorem mem_sum : ∀ {ps : List Txt} {p : Txt}, p ∈ ps → p.length ≤ (ps.map List.length).sum
  | q :: ps, p, h => by
    rw [List.map_cons, List.sum_cons]
    rcases List.mem_cons.mp h with rfl | h
    · omega
    · have := mem_sum h; omega
theorem splitOn_ok {c : Nat} {t : Txt} (hok : okT t = true) (hl : t.length ≤ 300000) : ∀ p ∈ splitOn c t, okT p = true ∧ p.length ≤ 16777216 := by
  intro p hp
  refine ⟨List.all_eq_true.mpr fun x hx => List.all_eq_true.mp hok x (splitOn_sub c t p hp x hx), ?_⟩
  have h1 := splitOn_sum c t
  have h2 := mem_sum hp
  omega
theorem splitD_str {t : Txt} {c : Nat} (h : t.length + 2 ≤ 16777216 ∧ c < 256) : splitD (.str t) (.str [c]) = some ((splitOn c t).map Mp.D.str) := by
  show (if t.length + 2 ≤ 16777216 ∧ c < 256 then some ((splitOn c t).map Mp.D.str) else none) = _
  rw [if_pos h]
theorem joinD_str {s : Txt} {o : Bool} {ps : List Txt} (h : (ps.map List.length).sum + ps.length * s.length ≤ 16777216) : joinD (.str s) (.lst o (ps.map Mp.D.str)) = some (joinT s ps) := by
  have e : txts (ps.map Mp.D.str) = some ps := txts_map ps
  show (match txts (ps.map Mp.D.str) with
    | some ys => if (ys.map List.length).sum + ys.length * s.length ≤ 16777216 then some (joinT s ys) else none
    | none => none) = _
  rw [e]
  exact if_pos h
theorem sIx_neg1 (n d : Nat) : sIx n d (some (-1)) = n - 1 := by
  show (if (-1 : Int) < 0 then ((-1 : Int) + (n : Int)).toNat else min (Int.toNat (-1)) n) = n - 1
  rw [if_pos (by decide)]
  omega
theorem cut_init {α : Type} (xs : List α) (x : α) : cut (xs ++ [x]) none (some (-1)) = xs := by
  unfold cut
  have h1 : sIx (xs ++ [x]).length 0 none = 0 := rfl
  have h2 : sIx (xs ++ [x]).length (xs ++ [x]).length (some (-1)) = xs.length := by
    rw [sIx_neg1]; simp
  rw [h1, h2]
  simp
theorem cut_inner {α : Type} (y : α) (xs : List α) (x : α) : cut (y :: (xs ++ [x])) (some 1) (some (-1)) = xs := by
  unfold cut
  have h1 : sIx (y :: (xs ++ [x])).length 0 (some 1) = 1 := by
    have := sIx_nat (y :: (xs ++ [x])).length 0 1
    simp at this
    simpa using this
  have h2 : sIx (y :: (xs ++ [x])).length (y :: (xs ++ [x])).length (some (-1)) = xs.length + 1 := by
    rw [sIx_neg1]; simp
  rw [h1, h2]
  simp
theorem at_last {α : Type} (xs : List α) (x : α) : at? (xs ++ [x]) (-1) = some x := by
  unfold at?
  have h2 : -(((xs ++ [x]).length : Nat) : Int) ≤ -1 := by simp; omega
  have h3 : ((-1 : Int) + (((xs ++ [x]).length : Nat) : Int)).toNat = xs.length := by simp; omega
  rw [if_neg (by decide), if_pos h2, h3]
  simp
theorem s_rin_short {k n : Nat} {L : Txt} (hl : L.length ≤ 300000) (h : (splitOn 32 L).length < 4) : callN fs (k + 1) 28 [.int n, .str L] = some (.non, [none, none]) := by
  have e := splitD_str (t := L) (c := 32) ⟨by omega, by decide⟩
  have h2 : ((splitOn 32 L).length : Int) < 4 := by omega
  have h3 : (((splitOn 32 L).map Mp.D.str).length : Int) < 4 := by rw [List.length_map]; exact h2
  generalize (splitOn 32 L).map Mp.D.str = Q at e h3
  refine call_of (f := f_record_in) rfl ?_
  rw [b_record_in]
  simp [runD, exs, ex, retv, ev, tst, op, ops, opv, opt, conds, walk, wkOf, wkE, asgn, asgns, setv, setvs, gets, Opd.get, Opd.take, gt, lstAt, biop, bi1, bi2, isiD, isTys, isTy, tyname, finals, isOwn_non, isOwn_bl, isOwn_int, isOwn_str, isOwn_ty, isOwn_tup, isOwn_lst, isOwn_dct, isPlc, ownOnce, putBack, truth, cmpop, binop_addI, binop_addS, binop_addL, binop_addT, binop_sub, binop_mulR, binop_mod, binop_fdiv, negD, nonD, frz_non, frz_bl, frz_int, frz_str, frz_ty, frz_tup, frz_lst, frz_dct, ixD, at?, lenD, small, ownsAt, noOwn, slotNot, Wk.get, Wk.slot, tsl, tsls, clear, restore, isMut, mutAt, mtmut, mtop, sliceD, augop, pinned, big62, walkD, intF, absF, ordF, tupF, allF, maxF, minF, dvmF, findD, joinD, e, h3]
theorem s_rin_num {k n : Nat} {L p : Txt} {ps : List Txt} (hn : n < 1000000000000) (hok : okT L = true) (hl : L.length ≤ 300000) (hq : splitOn 32 L = p :: ps) (h4 : 3 ≤ ps.length) (h : p ≠ numT n) : callN fs (k + 1) 28 [.int n, .str L] = some (.non, [none, none]) := by
  have e := splitD_str (t := L) (c := 32) ⟨by omega, by decide⟩
  have okp := (splitOn_ok hok hl p (by rw [hq]; exact List.mem_cons_self)).1
  rw [hq, List.map_cons] at e
  have h3 : ¬ (((ps.map Mp.D.str).length : Int) + 1 < 4) := by rw [List.length_map]; omega
  have h5 := strF_nat (n := n) (by omega)
  have h6 := eqD_str okp (okT_num n)
  simp only [h, decide_false] at h6
  generalize ps.map Mp.D.str = Q at e h3
  refine call_of (f := f_record_in) rfl ?_
  rw [b_record_in]
  simp [runD, exs, ex, retv, ev, tst, op, ops, opv, opt, conds, walk, wkOf, wkE, asgn, asgns, setv, setvs, gets, Opd.get, Opd.take, gt, lstAt, biop, bi1, bi2, isiD, isTys, isTy, tyname, finals, isOwn_non, isOwn_bl, isOwn_int, isOwn_str, isOwn_ty, isOwn_tup, isOwn_lst, isOwn_dct, isPlc, ownOnce, putBack, truth, cmpop, binop_addI, binop_addS, binop_addL, binop_addT, binop_sub, binop_mulR, binop_mod, binop_fdiv, negD, nonD, frz_non, frz_bl, frz_int, frz_str, frz_ty, frz_tup, frz_lst, frz_dct, ixD, at?, lenD, small, ownsAt, noOwn, slotNot, Wk.get, Wk.slot, tsl, tsls, clear, restore, isMut, mutAt, mtmut, mtop, sliceD, augop, pinned, big62, walkD, intF, absF, ordF, tupF, allF, maxF, minF, dvmF, findD, joinD, e, h3, h5, h6]
theorem s_rin {k n : Nat} {L T : Txt} {mid : List Txt} (hn : n < 1000000000000) (hok : okT L = true) (hl : L.length ≤ 300000) (hq : splitOn 32 L = numT n :: (mid ++ [T])) (h4 : 2 ≤ mid.length) {d : Mp.D} {fo : Option Mp.D} (hd : Mp.frz d = d) (hc : T = numT (sumV (joinT [32] (numT n :: mid))) → callN fs (k + 1) 27 [.lst true (mid.map Mp.D.str)] = some (d, [fo])) :
    callN fs (k + 2) 28 [.int n, .str L] = some (if T = numT (sumV (joinT [32] (numT n :: mid))) then d else .non, [none, none]) := by
  have e := splitD_str (t := L) (c := 32) ⟨by omega, by decide⟩
  have hs := splitOn_sum 32 L
  have okp := splitOn_ok (c := 32) hok hl
  rw [hq] at e hs okp
  have okTT := (okp T (by simp)).1
  have hj := joinD_str (s := [32]) (o := true) (ps := numT n :: mid) (by
    simp at hs ⊢
    omega)
  have c1 := cut_init (Mp.D.str (numT n) :: mid.map Mp.D.str) (Mp.D.str T)
  have c2 := cut_inner (Mp.D.str (numT n)) (mid.map Mp.D.str) (Mp.D.str T)
  have c3 := at_last (Mp.D.str (numT n) :: mid.map Mp.D.str) (Mp.D.str T)
  have h5 := strF_nat (n := n) (by omega)
  have h6 : eqD (.str (numT n)) (.str (numT n)) = some true := by rw [eqD_str (okT_num n) (okT_num n)]; simp
  have h7 := s_sum_of_signs (k := k) (t := joinT [32] (numT n :: mid))
  have h8 := strF_nat (n := sumV (joinT [32] (numT n :: mid))) (by have := sumV_lt (joinT [32] (numT n :: mid)); omega)
  have h9 := eqD_str okTT (okT_num (sumV (joinT [32] (numT n :: mid))))
  have eP : (numT n :: (mid ++ [T])).map Mp.D.str = Mp.D.str (numT n) :: (mid.map Mp.D.str ++ [Mp.D.str T]) := by simp
  rw [eP] at e
  rw [List.cons_append] at c1 c3
  rw [List.map_cons] at hj
  have lP : ¬ (((Mp.D.str (numT n) :: (mid.map Mp.D.str ++ [Mp.D.str T])).length : Int) < 4) := by simp; omega
  have x0 : at? (Mp.D.str (numT n) :: (mid.map Mp.D.str ++ [Mp.D.str T])) 0 = some (Mp.D.str (numT n)) := rfl
  generalize hS : sumV (joinT [32] (numT n :: mid)) = S at h7 h8 h9 hc
  generalize joinT [32] (numT n :: mid) = J at hj h7
  generalize Mp.D.str (numT n) :: (mid.map Mp.D.str ++ [Mp.D.str T]) = P at e c1 c2 c3 lP x0
  generalize Mp.D.str (numT n) :: mid.map Mp.D.str = P1 at hj c1
  generalize mid.map Mp.D.str = P2 at c2 hc
  generalize numT n = N at h5 h6 x0
  have s1 : sliceD none (some (-1)) (.lst true P) = some (.lst true P1) := by
    show some (Mp.D.lst true (cut _ _ _)) = _
    rw [c1]
  have s2 : sliceD (some 1) (some (-1)) (.lst true P) = some (.lst true P2) := by
    show some (Mp.D.lst true (cut _ _ _)) = _
    rw [c2]
  refine call_of (f := f_record_in) rfl ?_
  rw [b_record_in]
  by_cases hT : T = numT S
  · rw [if_pos hT]
    have hc := hc hT
    rw [decide_eq_true hT] at h9
    simp [runD, exs, ex, retv, ev, tst, op, ops, opv, opt, conds, walk, wkOf, wkE, asgn, asgns, setv, setvs, gets, Opd.get, Opd.take, gt, lstAt, biop, bi1, bi2, isiD, isTys, isTy, tyname, finals, isOwn_non, isOwn_bl, isOwn_int, isOwn_str, isOwn_ty, isOwn_tup, isOwn_lst, isOwn_dct, isPlc, ownOnce, putBack, truth, cmpop, binop_addI, binop_addS, binop_addL, binop_addT, binop_sub, binop_mulR, binop_mod, binop_fdiv, negD, nonD, frz_non, frz_bl, frz_int, frz_str, frz_ty, frz_tup, frz_lst, frz_dct, ixD, lenD, small, ownsAt, noOwn, slotNot, Wk.get, Wk.slot, tsl, tsls, clear, restore, isMut, mutAt, mtmut, mtop, augop, pinned, big62, walkD, intF, absF, ordF, tupF, allF, maxF, minF, dvmF, findD, e, s1, s2, c3, x0, lP, h5, h6, h7, h8, h9, hj, hc, hd]
  · rw [if_neg hT]
    rw [decide_eq_false hT] at h9
    simp [runD, exs, ex, retv, ev, tst, op, ops, opv, opt, conds, walk, wkOf, wkE, asgn, asgns, setv, setvs, gets, Opd.get, Opd.take, gt, lstAt, biop, bi1, bi2, isiD, isTys, isTy, tyname, finals, isOwn_non, isOwn_bl, isOwn_int, isOwn_str, isOwn_ty, isOwn_tup, isOwn_lst, isOwn_dct, isPlc, ownOnce, putBack, truth, cmpop, binop_addI, binop_addS, binop_addL, binop_addT, binop_sub, binop_mulR, binop_mod, binop_fdiv, negD, nonD, frz_non, frz_bl, frz_int, frz_str, frz_ty, frz_tup, frz_lst, frz_dct, ixD, lenD, small, ownsAt, noOwn, slotNot, Wk.get, Wk.slot, tsl, tsls, clear, restore, isMut, mutAt, mtmut, mtop, augop, pinned, big62, walkD, intF, absF, ordF, tupF, allF, maxF, minF, dvmF, findD, e, s1, s2, c3, x0, lP, h5, h6, h7, h8, h9, hj]
theorem s_record_in_bad {k n : Nat} {L : Txt} (hn : n < 1000000000000) (hok : okT L = true) (hl : L.length ≤ 300000) (h : BadLine n L) : callN fs (k + 10) 28 [.int n, .str L] = some (.non, [none, none]) := by
  rcases h with (h | ⟨H, T, e, h32, h⟩) | ⟨H, ps, e, hs, h2, hb⟩
  · exact s_rin_short (k := k + 9) hl (by rw [splitOn_none h]; simp)
  · have hq : splitOn 32 L = splitOn 32 H ++ [T] := by rw [e, splitOn_app, splitOn_none h32]
    obtain ⟨p, ps, ep⟩ := List.exists_cons_of_ne_nil (splitOn_ne 32 H)
    by_cases h3 : (splitOn 32 H).length < 3
    · exact s_rin_short (k := k + 9) hl (by rw [hq]; simp; omega)
    · rw [ep] at hq h3
      simp at h3
      by_cases hp : p = numT n
      · subst hp
        have hne : T ≠ numT (sumV (joinT [32] (numT n :: ps))) := by
          rcases h with h | h | h
          · rw [ep] at h; simp at h; omega
          · rw [ep] at h; exact absurd rfl h
          · rw [← ep, join_split]; exact h
        have := s_rin (k := k + 8) (d := .non) (fo := none) hn hok hl hq (by omega) rfl (fun q => absurd q hne)
        rw [this, if_neg hne]
      · exact s_rin_num (k := k + 9) hn hok hl hq (by simp; omega) hp
  · have hq : splitOn 32 L = numT n :: (ps ++ [numT (sumV H)]) := by rw [e, splitOn_app, splitOn_none (no32 (num45 _)), hs]; rfl
    have hs' := splitOn_sum 32 L
    have okp := splitOn_ok (c := 32) hok hl
    rw [hq] at hs' okp
    have := s_rin (k := k + 8) (d := .non) hn hok hl hq h2 rfl (fun _ => s_record_by_bad (k := k) hb (fun t ht => okp t (by simp [ht])) (by simp at hs'; omega))
    rw [this]
    split <;> rfl
theorem s_record_in {k n : Nat} {r : Rec} (hn : n < 1000000000000) (ho : r.ok) : callN fs (k + 10) 28 [.int n, .str (body n r)] = some (r.d, [none, none]) := by
  have hq : splitOn 32 (body n r) = numT n :: (r.parts ++ [numT (sumV (head n r))]) := by
    unfold body
    rw [splitOn_app, splitOn_none (no32 (num45 _)), head_split ho]; rfl
  have hl := body_len ho hn
  have hok : okT (body n r) = true := okT_of fun c hc => by have := body_clean ho c hc; omega
  have := s_rin (k := k + 8) hn hok (by omega) hq (parts_sum ho).2.2 r.frz (fun _ => s_record_by (k := k) ho)
  rw [this]
  exact congrArg (fun x => some (x, [none, none])) (if_pos rfl)
end K68

end
section
set_option Elab.async false
set_option linter.all false
set_option maxRecDepth 100000
set_option maxHeartbeats 2000000
/-! K20: what follows; journals. -/
namespace K68
open PySem hiding Env Ctx
open Mp PySem.NumText
def Rec.w : Rec → Txt
  | .begun _ => [98, 101, 103, 117, 110]
  | .kept _ _ => [107, 101, 112, 116]
  | .asked _ _ => [97, 115, 107, 101, 100]
  | .answered _ => [97, 110, 115, 119, 101, 114, 101, 100]
def ws (rs : List Rec) : List Txt := (rs.filter fun r => decide (r.w ≠ [107, 101, 112, 116])).map Rec.w
def fol (rs : List Rec) (r : Rec) : Bool :=
  if rs = [] then decide (r.w = [98, 101, 103, 117, 110])
  else if r.w = [98, 101, 103, 117, 110] ∨ ws rs = [] then false
  else if r.w = [107, 101, 112, 116] then true
  else if r.w = [97, 110, 115, 119, 101, 114, 101, 100] then decide ((ws rs).getLast? = some [97, 115, 107, 101, 100])
  else decide ((ws rs).getLast? = some [98, 101, 103, 117, 110] ∨ (ws rs).getLast? = some [97, 110, 115, 119, 101, 114, 101, 100])
theorem w_ok (r : Rec) : okT r.w = true := by cases r <;> rfl
theorem ix0 (r : Rec) : ixD r.d (.int 0) = some (.str r.w) := by cases r <;> rfl
theorem recs_ok : ∀ {rs : List Rec}, (∀ r ∈ rs, r.ok) → okDs 5 (rs.map Rec.d) = true
  | [], _ => rfl
  | r :: rs, h => by
    have h1 := Rec.okD (h r List.mem_cons_self)
    have h2 := recs_ok (rs := rs) fun q hq => h q (List.mem_cons_of_mem _ hq)
    rw [List.map_cons]
    unfold okDs
    rw [h1, h2]
    rfl
theorem okDs_mono {n m : Nat} {xs : List Mp.D} (h : n ≤ m) (ho : okDs n xs = true) : okDs m xs = true := by
  have h1 := okD_mono (n := n + 1) (m := m + 1) (d := .tup xs) (by omega) (by unfold K68.okD; exact ho)
  unfold K68.okD at h1
  exact h1
theorem strs_ok : ∀ {ts : List Txt}, (∀ t ∈ ts, okT t = true) → okDs 5 (ts.map Mp.D.str) = true
  | [], _ => rfl
  | t :: ts, h => by
    have h1 := h t List.mem_cons_self
    have h2 := strs_ok (ts := ts) fun q hq => h q (List.mem_cons_of_mem _ hq)
    rw [List.map_cons]
    unfold okDs
    rw [h2]
    unfold K68.okD
    rw [h1]
    rfl
def wOpt (d : Mp.D) : Option Mp.D := match ixD d (.int 0) with
  | some (.str w) => if w = [107, 101, 112, 116] then none else some (.str w)
  | _ => none
theorem wOpt_rec (r : Rec) : wOpt r.d = if r.w = [107, 101, 112, 116] then none else some (.str r.w) := by
  unfold wOpt
  rw [ix0]
theorem filter_ws : ∀ (rs : List Rec), (rs.map Rec.d).filterMap wOpt = (ws rs).map Mp.D.str
  | [] => rfl
  | r :: rs => by
    have ih := filter_ws rs
    unfold ws at ih ⊢
    by_cases h : r.w = [107, 101, 112, 116]
    · rw [List.map_cons, List.filterMap_cons_none (by rw [wOpt_rec, if_pos h]), ih, List.filter_cons_of_neg (by simp [h])]
    · rw [List.map_cons, List.filterMap_cons_some (b := .str r.w) (by rw [wOpt_rec, if_neg h]), ih, List.filter_cons_of_pos (by simp [h])]
      rfl
theorem s_follows {k : Nat} {rs : List Rec} {r : Rec} (hrs : ∀ x ∈ rs, x.ok) (hl : rs.length ≤ 10000) : callN fs (k + 1) 21 [.lst true (rs.map Rec.d), r.d] = some (.bl (fol rs r), [some (.lst true (rs.map Rec.d)), none]) := by
  have hok := okDs_mono (m := 63) (by decide) (recs_ok hrs)
  have e1 := eqD_lnil (o := true) (o' := true) hok
  have hw0 := ix0 r
  have hwo := w_ok r
  have or := r.own
  have q1 := eqD_str (b := [98, 101, 103, 117, 110]) hwo rfl
  have q2 := eqD_str (b := [107, 101, 112, 116]) hwo rfl
  have q3 := eqD_str (b := [97, 110, 115, 119, 101, 114, 101, 100]) hwo rfl
  have hnil : (rs.map Rec.d = []) ↔ rs = [] := by simp
  simp only [hnil] at e1
  refine call_of (f := f_follows) rfl ?_
  rw [b_follows]
  by_cases h : rs = []
  · have hf : fol rs r = decide (r.w = [98, 101, 103, 117, 110]) := by unfold fol; rw [if_pos h]
    rw [hf]
    rw [decide_eq_true h] at e1
    generalize rs.map Rec.d = P at e1
    generalize r.d = R at hw0 or
    simp [runD, exs, ex, retv, ev, tst, op, ops, opv, opt, conds, walk, wkOf, wkE, asgn, asgns, setv, setvs, gets, Opd.get, Opd.take, gt, lstAt, biop, bi1, bi2, isiD, isTys, isTy, tyname, finals, isOwn_non, isOwn_bl, isOwn_int, isOwn_str, isOwn_ty, isOwn_tup, isOwn_lst, isOwn_dct, isPlc, ownOnce, putBack, truth, cmpop, binop_addI, binop_addS, binop_addL, binop_addT, binop_sub, binop_mulR, binop_mod, binop_fdiv, negD, nonD, frz_non, frz_bl, frz_int, frz_str, frz_ty, frz_tup, frz_lst, frz_dct, at?, lenD, small, ownsAt, noOwn, slotNot, Wk.get, Wk.slot, tsl, tsls, clear, restore, isMut, mutAt, mtmut, mtop, sliceD, augop, pinned, big62, walkD, intF, absF, ordF, tupF, allF, maxF, minF, dvmF, findD, splitD, joinD, e1, hw0, q1, or]
  rw [decide_eq_false h] at e1
  have lc := op_lc (C := ⟨callN fs k, [0]⟩) (t := .nm 3) (it := .seq (.var 0)) (cs := .cons (.cmp .ne (.ix (.var 3) (.k (.int 0))) (.k (.str [107, 101, 112, 116]))) .nil) (e := .ix (.var 3) (.k (.int 0))) (env := [some (.lst true (rs.map Rec.d)), some r.d, none, none]) (e1 := [some (.lst true (rs.map Rec.d)), some r.d, none, none]) (e0 := [some (.lst true (rs.map Rec.d)), some r.d, none, none]) (wk := .live 0) (ys := rs.map Rec.d)
      wOpt (by simp [walk, op, gt, wkOf]) (by simp [noOwn, tsl, gt, slotNot, Wk.slot]) rfl rfl rfl (by
        intro x hx
        obtain ⟨y, hy, rfl⟩ := List.mem_map.mp hx
        have i0 := ix0 y
        have q := eqD_str (b := [107, 101, 112, 116]) (w_ok y) rfl
        rw [wOpt_rec]
        generalize y.d = Y at i0
        by_cases hk : y.w = [107, 101, 112, 116]
        · rw [decide_eq_true hk] at q
          rw [if_pos hk]
          simp [lcB, runD, exs, ex, retv, ev, tst, op, ops, opv, opt, conds, walk, wkOf, wkE, asgn, asgns, setv, setvs, gets, Opd.get, Opd.take, gt, lstAt, biop, bi1, bi2, isiD, isTys, isTy, tyname, finals, isOwn_non, isOwn_bl, isOwn_int, isOwn_str, isOwn_ty, isOwn_tup, isOwn_lst, isOwn_dct, isPlc, ownOnce, putBack, truth, cmpop, binop_addI, binop_addS, binop_addL, binop_addT, binop_sub, binop_mulR, binop_mod, binop_fdiv, negD, nonD, frz_non, frz_bl, frz_int, frz_str, frz_ty, frz_tup, frz_lst, frz_dct, at?, lenD, small, ownsAt, noOwn, slotNot, Wk.get, Wk.slot, tsl, tsls, clear, restore, isMut, mutAt, mtmut, mtop, sliceD, augop, pinned, big62, walkD, intF, absF, ordF, tupF, allF, maxF, minF, dvmF, findD, splitD, joinD, i0, q]
        · rw [decide_eq_false hk] at q
          rw [if_neg hk]
          simp [lcB, runD, exs, ex, retv, ev, tst, op, ops, opv, opt, conds, walk, wkOf, wkE, asgn, asgns, setv, setvs, gets, Opd.get, Opd.take, gt, lstAt, biop, bi1, bi2, isiD, isTys, isTy, tyname, finals, isOwn_non, isOwn_bl, isOwn_int, isOwn_str, isOwn_ty, isOwn_tup, isOwn_lst, isOwn_dct, isPlc, ownOnce, putBack, truth, cmpop, binop_addI, binop_addS, binop_addL, binop_addT, binop_sub, binop_mulR, binop_mod, binop_fdiv, negD, nonD, frz_non, frz_bl, frz_int, frz_str, frz_ty, frz_tup, frz_lst, frz_dct, at?, lenD, small, ownsAt, noOwn, slotNot, Wk.get, Wk.slot, tsl, tsls, clear, restore, isMut, mutAt, mtmut, mtop, sliceD, augop, pinned, big62, walkD, intF, absF, ordF, tupF, allF, maxF, minF, dvmF, findD, splitD, joinD, i0, q]) (by
        have h1 := List.length_filterMap_le wOpt (rs.map Rec.d)
        rw [List.length_map] at h1
        omega)
  rw [filter_ws] at lc
  have okW : okDs 63 ((ws rs).map Mp.D.str) = true := okDs_mono (m := 63) (by decide) (strs_ok fun t ht => by
    unfold ws at ht
    obtain ⟨y, _, rfl⟩ := List.mem_map.mp ht
    exact w_ok y)
  have e2 := eqD_lnil (o := true) (o' := true) okW
  have hnil2 : ((ws rs).map Mp.D.str = []) ↔ ws rs = [] := by simp
  simp only [hnil2] at e2
  have rr : restore [some (.lst true (rs.map Rec.d)), some r.d, none, none] (tsl (.nm 3)) (clear (tsl (.nm 3)) [some (.lst true (rs.map Rec.d)), some r.d, none, none]) = [some (.lst true (rs.map Rec.d)), some r.d, none, none] := rfl
  rw [rr] at lc
  have own0 : ownsAt 0 [.lst true (rs.map Rec.d), r.d] = [0] := by simp [ownsAt, or, isOwn_lst]
  generalize rs.map Rec.d = P at e1 lc own0
  generalize r.d = R at hw0 or lc own0
  generalize hq : (ME.lc (.nm 3) (.seq (.var 0)) (.cons (.cmp .ne (.ix (.var 3) (.k (.int 0))) (.k (.str [107, 101, 112, 116]))) .nil) (.ix (.var 3) (.k (.int 0)))) = q at lc ⊢
  by_cases hb : r.w = [98, 101, 103, 117, 110]
  · have hf : fol rs r = false := by unfold fol; rw [if_neg h, if_pos (.inl hb)]
    rw [hf]
    rw [decide_eq_true hb] at q1
    simp [runD, exs, ex, retv, ev, tst, op, ops, opv, opt, conds, walk, wkOf, wkE, asgn, asgns, setv, setvs, gets, Opd.get, Opd.take, gt, lstAt, biop, bi1, bi2, isiD, isTys, isTy, tyname, finals, isOwn_non, isOwn_bl, isOwn_int, isOwn_str, isOwn_ty, isOwn_tup, isOwn_lst, isOwn_dct, isPlc, ownOnce, putBack, truth, cmpop, binop_addI, binop_addS, binop_addL, binop_addT, binop_sub, binop_mulR, binop_mod, binop_fdiv, negD, nonD, frz_non, frz_bl, frz_int, frz_str, frz_ty, frz_tup, frz_lst, frz_dct, at?, lenD, small, ownsAt, noOwn, slotNot, Wk.get, Wk.slot, tsl, tsls, clear, restore, isMut, mutAt, mtmut, mtop, sliceD, augop, pinned, big62, walkD, intF, absF, ordF, tupF, allF, maxF, minF, dvmF, findD, splitD, joinD, e1, lc, hw0, q1, or]
  rw [decide_eq_false hb] at q1
  by_cases hw : ws rs = []
  · have hf : fol rs r = false := by unfold fol; rw [if_neg h, if_pos (.inr hw)]
    rw [hf]
    rw [decide_eq_true hw] at e2
    simp [runD, exs, ex, retv, ev, tst, op, ops, opv, opt, conds, walk, wkOf, wkE, asgn, asgns, setv, setvs, gets, Opd.get, Opd.take, gt, lstAt, biop, bi1, bi2, isiD, isTys, isTy, tyname, finals, isOwn_non, isOwn_bl, isOwn_int, isOwn_str, isOwn_ty, isOwn_tup, isOwn_lst, isOwn_dct, isPlc, ownOnce, putBack, truth, cmpop, binop_addI, binop_addS, binop_addL, binop_addT, binop_sub, binop_mulR, binop_mod, binop_fdiv, negD, nonD, frz_non, frz_bl, frz_int, frz_str, frz_ty, frz_tup, frz_lst, frz_dct, at?, lenD, small, ownsAt, noOwn, slotNot, Wk.get, Wk.slot, tsl, tsls, clear, restore, isMut, mutAt, mtmut, mtop, sliceD, augop, pinned, big62, walkD, intF, absF, ordF, tupF, allF, maxF, minF, dvmF, findD, splitD, joinD, e1, lc, hw0, q1, or, e2]
  rw [decide_eq_false hw] at e2
  have hbw : ¬ (r.w = [98, 101, 103, 117, 110] ∨ ws rs = []) := fun z => z.elim hb hw
  by_cases hk : r.w = [107, 101, 112, 116]
  · have hf : fol rs r = true := by unfold fol; rw [if_neg h, if_neg hbw, if_pos hk]
    rw [hf]
    rw [decide_eq_true hk] at q2
    simp [runD, exs, ex, retv, ev, tst, op, ops, opv, opt, conds, walk, wkOf, wkE, asgn, asgns, setv, setvs, gets, Opd.get, Opd.take, gt, lstAt, biop, bi1, bi2, isiD, isTys, isTy, tyname, finals, isOwn_non, isOwn_bl, isOwn_int, isOwn_str, isOwn_ty, isOwn_tup, isOwn_lst, isOwn_dct, isPlc, ownOnce, putBack, truth, cmpop, binop_addI, binop_addS, binop_addL, binop_addT, binop_sub, binop_mulR, binop_mod, binop_fdiv, negD, nonD, frz_non, frz_bl, frz_int, frz_str, frz_ty, frz_tup, frz_lst, frz_dct, at?, lenD, small, ownsAt, noOwn, slotNot, Wk.get, Wk.slot, tsl, tsls, clear, restore, isMut, mutAt, mtmut, mtop, sliceD, augop, pinned, big62, walkD, intF, absF, ordF, tupF, allF, maxF, minF, dvmF, findD, splitD, joinD, e1, lc, hw0, q1, or, e2, q2]
  rw [decide_eq_false hk] at q2
  obtain ⟨ini, w, ew⟩ := last_split (ws rs) hw
  have hy : ∃ y : Rec, y.w = w := by
    have : w ∈ ws rs := by rw [ew]; simp
    unfold ws at this
    obtain ⟨y, _, e⟩ := List.mem_map.mp this
    exact ⟨y, e⟩
  obtain ⟨y, hy⟩ := hy
  have okw : okT w = true := by rw [← hy]; exact w_ok y
  have gl : (ws rs).getLast? = some w := by rw [ew]; simp
  have al : ixD (.lst true ((ws rs).map Mp.D.str)) (.int (-1)) = some (.str w) := by
    rw [ew, List.map_append]
    exact at_last _ _
  generalize (ws rs).map Mp.D.str = W at lc e2 al
  by_cases ha : r.w = [97, 110, 115, 119, 101, 114, 101, 100]
  · have hf : fol rs r = decide (w = [97, 115, 107, 101, 100]) := by
      unfold fol; rw [if_neg h, if_neg hbw, if_neg hk, if_pos ha, gl]; simp
    rw [hf]
    rw [decide_eq_true ha] at q3
    have q4 := eqD_str (b := [97, 115, 107, 101, 100]) okw rfl
    simp [runD, exs, ex, retv, ev, tst, op, ops, opv, opt, conds, walk, wkOf, wkE, asgn, asgns, setv, setvs, gets, Opd.get, Opd.take, gt, lstAt, biop, bi1, bi2, isiD, isTys, isTy, tyname, finals, isOwn_non, isOwn_bl, isOwn_int, isOwn_str, isOwn_ty, isOwn_tup, isOwn_lst, isOwn_dct, isPlc, ownOnce, putBack, truth, cmpop, binop_addI, binop_addS, binop_addL, binop_addT, binop_sub, binop_mulR, binop_mod, binop_fdiv, negD, nonD, frz_non, frz_bl, frz_int, frz_str, frz_ty, frz_tup, frz_lst, frz_dct, at?, lenD, small, ownsAt, noOwn, slotNot, Wk.get, Wk.slot, tsl, tsls, clear, restore, isMut, mutAt, mtmut, mtop, sliceD, augop, pinned, big62, walkD, intF, absF, ordF, tupF, allF, maxF, minF, dvmF, findD, splitD, joinD, e1, lc, hw0, q1, or, e2, q2, q3, al, q4]
  · have hf : fol rs r = decide (w = [98, 101, 103, 117, 110] ∨ w = [97, 110, 115, 119, 101, 114, 101, 100]) := by
      unfold fol; rw [if_neg h, if_neg hbw, if_neg hk, if_neg ha, gl]; simp
    rw [hf]
    rw [decide_eq_false ha] at q3
    have q4 : isinD (.str w) (.tup [.str [98, 101, 103, 117, 110], .str [97, 110, 115, 119, 101, 114, 101, 100]]) = some (decide (w = [98, 101, 103, 117, 110] ∨ w = [97, 110, 115, 119, 101, 114, 101, 100])) := by
      rw [← hy]
      cases y <;> simp [Rec.w, isinD, List.lookup, eqD_int, eqD_str, okT, okT_eq, inD, py, pys, SeqAt.shaped, PyData.canLay0, PyData.canLayAll0, PyData.depth, PyData.depthAll, PyData.eqv, st_beq]
    simp [runD, exs, ex, retv, ev, tst, op, ops, opv, opt, conds, walk, wkOf, wkE, asgn, asgns, setv, setvs, gets, Opd.get, Opd.take, gt, lstAt, biop, bi1, bi2, isiD, isTys, isTy, tyname, finals, isOwn_non, isOwn_bl, isOwn_int, isOwn_str, isOwn_ty, isOwn_tup, isOwn_lst, isOwn_dct, isPlc, ownOnce, putBack, truth, cmpop, binop_addI, binop_addS, binop_addL, binop_addT, binop_sub, binop_mulR, binop_mod, binop_fdiv, negD, nonD, frz_non, frz_bl, frz_int, frz_str, frz_ty, frz_tup, frz_lst, frz_dct, at?, lenD, small, ownsAt, noOwn, slotNot, Wk.get, Wk.slot, tsl, tsls, clear, restore, isMut, mutAt, mtmut, mtop, sliceD, augop, pinned, big62, walkD, intF, absF, ordF, tupF, allF, maxF, minF, dvmF, findD, splitD, joinD, e1, lc, hw0, q1, or, e2, q2, q3, al, q4]
/-! comprehensions by place -/
theorem lcL_idx {get : Env → Option (List Mp.D)} {b : Mp.D → Env → Option (Option Mp.D × Env)} {env : Env} {xs zs : List Mp.D} (hz : zs.length = xs.length) (hg : get env = some xs) (hs : ∀ i (h : i < xs.length), b xs[i] env = some (some (zs[i]'(by omega)), env)) : ∀ (r t : Nat), t + r = xs.length → lcL get b r t env = some (zs.drop t, env)
  | 0, t, h => by
    unfold lcL
    rw [hg]
    have e : xs.length = t := by omega
    dsimp only
    rw [if_pos e, List.drop_eq_nil_of_le (by omega)]
  | r + 1, t, h => by
    unfold lcL
    rw [hg]
    have hlt : t < xs.length := by omega
    dsimp only
    rw [if_pos h.symm, List.getElem?_eq_getElem hlt]
    dsimp only
    rw [hs _ hlt]
    have ih := lcL_idx hz hg hs r (t + 1) (by omega)
    dsimp only
    rw [ih, List.drop_eq_getElem_cons (i := t) (by omega : t < zs.length)]
theorem op_lcI {C : Ctx} {t : MT} {it : MI2} {e : ME} {env e1 e0 : Env} {wk : Wk} {ys : List Mp.D} (zs : List Mp.D) (hz : zs.length = ys.length) (hw : walk C it env = some (wk, e1)) (hn : (noOwn e1 (tsl t) && slotNot wk (tsl t)) = true) (h0 : clear (tsl t) e1 = e0) (hg : wk.get e1 = some ys) (hg2 : wk.get e0 = some ys) (hs : ∀ i (h : i < ys.length), lcB C t .nil e ys[i] e0 = some (some (zs[i]'(by omega)), e0)) (hl : ys.length ≤ 16777216) : op C (.lc t it .nil e) env = some (.val (.lst true zs), restore e1 (tsl t) (clear (tsl t) e0)) := by
  have h := lcL_idx hz hg2 hs ys.length 0 (by omega)
  have hsm : small zs.length = true := by simpa [small, hz] using hl
  unfold op
  rw [hw]
  simp only [Option.bind_eq_bind, Option.bind_some]
  rw [hg]
  simp only [Option.bind_some]
  rw [if_pos hn, h0]
  have eq : lcL wk.get (lcB C t .nil e) ys.length 0 e0 = some (zs, e0) := by rw [h]; rfl
  show (lcL wk.get (lcB C t .nil e) ys.length 0 e0).bind _ = _
  rw [eq]
  simp only [Option.bind_some]
  rw [if_pos hsm]
theorem enumd_len : ∀ (xs : List Mp.D) (i : Int), (enumd i xs).length = xs.length
  | [], _ => rfl
  | x :: xs, i => by simp [enumd, enumd_len xs]
theorem enumd_get : ∀ (xs : List Mp.D) (i : Int) (j : Nat) (h : j < xs.length), (enumd i xs)[j]'(by rw [enumd_len]; exact h) = .tup [.int (i + j), xs[j]]
  | x :: xs, i, 0, h => by simp [enumd]
  | x :: xs, i, j + 1, h => by
    have ih := enumd_get xs (i + 1) j (by simp at h; omega)
    simp only [enumd, List.getElem_cons_succ]
    rw [ih]
    have : i + 1 + (j : Int) = i + ((j + 1 : Nat) : Int) := by omega
    rw [this]
/-- each record can come behind those ahead -/
def Good (rs : List Rec) : Prop := ∀ i (h : i < rs.length), fol (rs.take i) rs[i] = true
def fin1 (o : Bool) (d : Mp.D) : Option Mp.D := if o then some d else none
theorem cut_take {α : Type} (xs : List α) (i : Nat) : cut xs none (some (i : Int)) = xs.take i := by
  unfold cut
  have h1 : sIx xs.length 0 none = 0 := rfl
  rw [h1, sIx_nat]
  simp [List.take_eq_take_iff]
theorem slice_take {xs : List Mp.D} {o : Bool} {i : Nat} {a : Int} (ha : a = (i : Int)) : sliceD none (some a) (.lst o xs) = some (.lst true (xs.take i)) := by
  subst ha
  show some (Mp.D.lst true (cut _ _ _)) = _
  rw [cut_take]
theorem allD_true : ∀ (n : Nat), allD (List.replicate n (.bl true)) = some true
  | 0 => rfl
  | n + 1 => by
    rw [List.replicate_succ]
    unfold allD
    exact allD_true n
theorem s_are_records_of {k : Nat} {rs : List Rec} {o : Bool} (hrs : ∀ x ∈ rs, x.ok) (hg : Good rs) (hl : rs.length ≤ 10000) : callN fs (k + 8) 22 [.lst o (rs.map Rec.d)] = some (.bl true, [fin1 o (.lst o (rs.map Rec.d))]) := by
  have lcs : ∀ (C : Ctx), C.calls = callN fs (k + 7) → C.pins = ownsAt 0 [.lst o (rs.map Rec.d)] →
      op C (.lc (.nm 2) (.seq (.var 0)) .nil (.call 19 (.cons (.var 2) .nil))) [some (.lst o (rs.map Rec.d)), none, none] = some (.val (.lst true (List.replicate rs.length (.bl true))), [some (.lst o (rs.map Rec.d)), none, none]) ∧
      op C (.lc (.tup (.cons (.nm 1) (.cons (.nm 2) .nil))) (.enum (.var 0)) .nil (.call 21 (.cons (.bi .list (.cons (.slice (.var 0) .no (.var 1)) .nil)) (.cons (.var 2) .nil)))) [some (.lst o (rs.map Rec.d)), none, none] = some (.val (.lst true (List.replicate rs.length (.bl true))), [some (.lst o (rs.map Rec.d)), none, none]) := by
    intro C hC hp
    have hlen : (rs.map Rec.d).length = rs.length := List.length_map ..
    refine ⟨?_, ?_⟩
    · refine op_lcI (wk := if o then .live 0 else .fix (rs.map Rec.d)) (ys := rs.map Rec.d) (e1 := [some (.lst o (rs.map Rec.d)), none, none]) (e0 := [some (.lst o (rs.map Rec.d)), none, none]) (List.replicate rs.length (.bl true)) (by simp) (by cases o <;> simp [walk, op, gt, wkOf, walkD]) (by cases o <;> simp [noOwn, tsl, gt, slotNot, Wk.slot]) rfl (by cases o <;> simp [Wk.get, lstAt, gt]) (by cases o <;> simp [Wk.get, lstAt, gt]) ?_ (by omega)
      intro i h
      have hi : i < rs.length := by omega
      have h1 := s_is_record_of (k := k + 1) (hrs rs[i] (List.getElem_mem hi))
      have or := (rs[i]).own
      have : (rs.map Rec.d)[i] = rs[i].d := List.getElem_map ..
      rw [this]
      simp only [List.getElem_replicate]
      generalize rs[i].d = R at h1 or
      cases o <;> simp [lcB, runD, exs, ex, retv, ev, tst, op, ops, opv, opt, conds, walk, wkOf, wkE, asgn, asgns, setv, setvs, gets, Opd.get, Opd.take, gt, lstAt, biop, bi1, bi2, isiD, isTys, isTy, tyname, finals, isOwn_non, isOwn_bl, isOwn_int, isOwn_str, isOwn_ty, isOwn_tup, isOwn_lst, isOwn_dct, isPlc, ownOnce, putBack, truth, cmpop, binop_addI, binop_addS, binop_addL, binop_addT, binop_sub, binop_mulR, binop_mod, binop_fdiv, negD, nonD, frz_non, frz_bl, frz_int, frz_str, frz_ty, frz_tup, frz_lst, frz_dct, ixD, at?, lenD, small, ownsAt, noOwn, slotNot, Wk.get, Wk.slot, tsl, tsls, clear, restore, isMut, mutAt, mtmut, mtop, sliceD, augop, pinned, big62, walkD, intF, absF, ordF, tupF, allF, maxF, minF, dvmF, findD, splitD, joinD, h1, or, hC, hp]
    · refine op_lcI (wk := if o then .liveE 0 else .fix (enumd 0 (rs.map Rec.d))) (ys := enumd 0 (rs.map Rec.d)) (e1 := [some (.lst o (rs.map Rec.d)), none, none]) (e0 := [some (.lst o (rs.map Rec.d)), none, none]) (List.replicate rs.length (.bl true)) (by simp [enumd_len]) (by cases o <;> simp [walk, op, gt, wkE, walkD]) (by cases o <;> simp [noOwn, tsl, tsls, gt, slotNot, Wk.slot]) rfl (by cases o <;> simp [Wk.get, lstAt, gt]) (by cases o <;> simp [Wk.get, lstAt, gt]) ?_ (by rw [enumd_len]; omega)
      intro i h
      rw [enumd_len] at h
      have hi : i < rs.length := by omega
      rw [enumd_get _ _ _ h]
      have : (rs.map Rec.d)[i] = rs[i].d := List.getElem_map ..
      rw [this]
      have h1 := s_follows (k := k + 6) (rs := rs.take i) (r := rs[i]) (fun x hx => hrs x (List.mem_of_mem_take hx)) (by simp; omega)
      rw [hg i hi] at h1
      have or := (rs[i]).own
      have sl := slice_take (xs := rs.map Rec.d) (o := o) (i := i) (a := 0 + (i : Int)) (by omega)
      rw [← List.map_take] at sl
      simp only [List.getElem_replicate]
      generalize rs[i].d = R at h1 or
      generalize (rs.take i).map Rec.d = P at sl h1
      generalize rs.map Rec.d = Q at sl hp
      generalize (0 + (i : Int)) = z at sl
      cases o <;> simp [lcB, runD, exs, ex, retv, ev, tst, op, ops, opv, opt, conds, walk, wkOf, wkE, asgn, asgns, setv, setvs, gets, Opd.get, Opd.take, gt, lstAt, biop, bi1, bi2, isiD, isTys, isTy, tyname, finals, isOwn_non, isOwn_bl, isOwn_int, isOwn_str, isOwn_ty, isOwn_tup, isOwn_lst, isOwn_dct, isPlc, ownOnce, putBack, truth, cmpop, binop_addI, binop_addS, binop_addL, binop_addT, binop_sub, binop_mulR, binop_mod, binop_fdiv, negD, nonD, frz_non, frz_bl, frz_int, frz_str, frz_ty, frz_tup, frz_lst, frz_dct, ixD, at?, lenD, small, ownsAt, noOwn, slotNot, Wk.get, Wk.slot, tsl, tsls, clear, restore, isMut, mutAt, mtmut, mtop, augop, pinned, big62, walkD, intF, absF, ordF, tupF, allF, maxF, minF, dvmF, findD, splitD, joinD, h1, or, hC, hp, sl]
  obtain ⟨l1, l2⟩ := lcs ⟨callN fs (k + 7), ownsAt 0 [.lst o (rs.map Rec.d)]⟩ rfl rfl
  have ad := allD_true rs.length
  refine call_of (f := f_are_records_of) rfl ?_
  rw [b_are_records_of]
  generalize (ME.lc (.nm 2) (.seq (.var 0)) .nil (.call 19 (.cons (.var 2) .nil))) = q1 at l1 ⊢
  generalize (ME.lc (.tup (.cons (.nm 1) (.cons (.nm 2) .nil))) (.enum (.var 0)) .nil (.call 21 (.cons (.bi .list (.cons (.slice (.var 0) .no (.var 1)) .nil)) (.cons (.var 2) .nil)))) = q2 at l2 ⊢
  generalize rs.map Rec.d = Q at l1 l2
  generalize List.replicate rs.length (Mp.D.bl true) = W at l1 l2 ad
  cases o <;> simp [ownsAt, isOwn_lst] at l1 l2 <;> simp [runD, exs, ex, retv, ev, tst, op, ops, opv, opt, conds, walk, wkOf, wkE, asgn, asgns, setv, setvs, gets, Opd.get, Opd.take, gt, lstAt, biop, bi1, bi2, isiD, isTys, isTy, tyname, finals, isOwn_non, isOwn_bl, isOwn_int, isOwn_str, isOwn_ty, isOwn_tup, isOwn_lst, isOwn_dct, isPlc, ownOnce, putBack, truth, cmpop, binop_addI, binop_addS, binop_addL, binop_addT, binop_sub, binop_mulR, binop_mod, binop_fdiv, negD, nonD, frz_non, frz_bl, frz_int, frz_str, frz_ty, frz_tup, frz_lst, frz_dct, ixD, at?, lenD, small, ownsAt, noOwn, slotNot, Wk.get, Wk.slot, tsl, tsls, clear, restore, isMut, mutAt, mtmut, mtop, sliceD, augop, pinned, big62, walkD, intF, absF, ordF, tupF, allF, maxF, minF, dvmF, findD, splitD, joinD, l1, l2, ad, fin1]
end K68

end
section
set_option Elab.async false
set_option linter.all false
set_option maxRecDepth 100000
set_option maxHeartbeats 2000000
/-! K21: journals as texts, and read. -/
namespace K68
open PySem hiding Env Ctx
open Mp PySem.NumText
def lines (n : Nat) : List Rec → List Txt
  | [] => []
  | r :: rs => line n r :: lines (n + 1) rs
theorem lines_len : ∀ (n : Nat) (rs : List Rec), (lines n rs).length = rs.length
  | _, [] => rfl
  | n, r :: rs => by simp [lines, lines_len (n + 1) rs]
theorem lines_get : ∀ (n : Nat) (rs : List Rec) (i : Nat) (h : i < rs.length), (lines n rs)[i]'(by rw [lines_len]; exact h) = line (n + i) rs[i]
  | n, r :: rs, 0, h => rfl
  | n, r :: rs, i + 1, h => by
    have ih := lines_get (n + 1) rs i (by simp at h; omega)
    simp only [lines, List.getElem_cons_succ]
    rw [ih]
    have : n + 1 + i = n + (i + 1) := by omega
    rw [this]
theorem lines_app : ∀ (n : Nat) (a b : List Rec), lines n (a ++ b) = lines n a ++ lines (n + a.length) b
  | n, [], b => rfl
  | n, r :: a, b => by
    have ih := lines_app (n + 1) a b
    have : n + (r :: a).length = n + 1 + a.length := by simp; omega
    rw [List.cons_append, this]
    simp only [lines, ih, List.cons_append]
/-- the journal's text -/
def jour (n : Nat) (rs : List Rec) : Txt := (lines n rs).flatten
theorem jour_nil (n : Nat) : jour n [] = [] := rfl
theorem jour_cons (n : Nat) (r : Rec) (rs : List Rec) : jour n (r :: rs) = line n r ++ jour (n + 1) rs := rfl
theorem jour_app (n : Nat) (a b : List Rec) : jour n (a ++ b) = jour n a ++ jour (n + a.length) b := by
  unfold jour
  rw [lines_app, List.flatten_append]
theorem joinT_nil : ∀ (ps : List Txt), joinT [] ps = ps.flatten
  | [] => rfl
  | [x] => by simp [joinT]
  | x :: y :: r => by
    rw [joinT_cons [] x (List.cons_ne_nil _ _), joinT_nil (y :: r)]
    simp
theorem line_len {n : Nat} {r : Rec} (ho : r.ok) (hn : n < 1000000000000) : (line n r).length ≤ 612 := by
  have := body_len ho hn
  simp [line]
  omega
theorem jour_len : ∀ {n : Nat} {rs : List Rec}, (∀ r ∈ rs, r.ok) → n + rs.length < 1000000000000 → (jour n rs).length ≤ 612 * rs.length
  | n, [], _, _ => by simp [jour_nil]
  | n, r :: rs, h, hn => by
    simp only [List.length_cons] at hn
    have h1 := line_len (h r List.mem_cons_self) (show n < 1000000000000 by omega)
    have h2 := jour_len (n := n + 1) (rs := rs) (fun x hx => h x (List.mem_cons_of_mem _ hx)) (by omega)
    rw [jour_cons, List.length_append, List.length_cons]
    omega
theorem line_chr {n : Nat} {r : Rec} (ho : r.ok) : ∀ c ∈ line n r, c ≤ 126 := by
  intro c hc
  simp only [line, List.mem_append, List.mem_singleton] at hc
  rcases hc with hc | rfl
  · have := body_clean ho c hc; omega
  · omega
theorem jour_chr : ∀ {n : Nat} {rs : List Rec}, (∀ r ∈ rs, r.ok) → ∀ c ∈ jour n rs, c ≤ 126
  | n, [], _, c, hc => by simp [jour_nil] at hc
  | n, r :: rs, h, c, hc => by
    rw [jour_cons] at hc
    rcases List.mem_append.mp hc with hc | hc
    · exact line_chr (h r List.mem_cons_self) c hc
    · exact jour_chr (fun x hx => h x (List.mem_cons_of_mem _ hx)) c hc
theorem flat_sum (ps : List Txt) : (ps.map List.length).sum = ps.flatten.length := List.length_flatten.symm
theorem s_journal_of {k : Nat} {rs : List Rec} {o : Bool} (hrs : ∀ x ∈ rs, x.ok) (hl : rs.length ≤ 10000) : callN fs (k + 7) 29 [.lst o (rs.map Rec.d)] = some (.str (jour 0 rs), [fin1 o (.lst o (rs.map Rec.d))]) := by
  have lcs : ∀ (C : Ctx), C.calls = callN fs (k + 6) → C.pins = ownsAt 0 [.lst o (rs.map Rec.d)] →
      op C (.lc (.tup (.cons (.nm 1) (.cons (.nm 2) .nil))) (.enum (.var 0)) .nil (.call 25 (.cons (.var 1) (.cons (.var 2) .nil)))) [some (.lst o (rs.map Rec.d)), none, none] = some (.val (.lst true ((lines 0 rs).map Mp.D.str)), [some (.lst o (rs.map Rec.d)), none, none]) := by
    intro C hC hp
    have hlen : (rs.map Rec.d).length = rs.length := List.length_map ..
    refine op_lcI (wk := if o then .liveE 0 else .fix (enumd 0 (rs.map Rec.d))) (ys := enumd 0 (rs.map Rec.d)) (e1 := [some (.lst o (rs.map Rec.d)), none, none]) (e0 := [some (.lst o (rs.map Rec.d)), none, none]) ((lines 0 rs).map Mp.D.str) (by simp [enumd_len, lines_len]) (by cases o <;> simp [walk, op, gt, wkE, walkD]) (by cases o <;> simp [noOwn, tsl, tsls, gt, slotNot, Wk.slot]) rfl (by cases o <;> simp [Wk.get, lstAt, gt]) (by cases o <;> simp [Wk.get, lstAt, gt]) ?_ (by rw [enumd_len]; omega)
    intro i h
    rw [enumd_len] at h
    have hi : i < rs.length := by omega
    rw [enumd_get _ _ _ h]
    have : (rs.map Rec.d)[i] = rs[i].d := List.getElem_map ..
    rw [this]
    have h1 := s_line_of (k := k) (n := i) (r := rs[i]) (hrs _ (List.getElem_mem hi)) (by omega)
    have or := (rs[i]).own
    have hz : (0 + (i : Int)) = (i : Int) := by omega
    rw [hz, List.getElem_map, lines_get _ _ _ hi]
    have e0 : line (0 + i) rs[i] = line i rs[i] := by rw [Nat.zero_add]
    rw [e0]
    generalize rs[i].d = R at h1 or
    generalize (i : Int) = z at h1
    generalize line i rs[i] = W at h1
    generalize rs.map Rec.d = Q at hp
    cases o <;> simp [lcB, runD, exs, ex, retv, ev, tst, op, ops, opv, opt, conds, walk, wkOf, wkE, asgn, asgns, setv, setvs, gets, Opd.get, Opd.take, gt, lstAt, biop, bi1, bi2, isiD, isTys, isTy, tyname, finals, isOwn_non, isOwn_bl, isOwn_int, isOwn_str, isOwn_ty, isOwn_tup, isOwn_lst, isOwn_dct, isPlc, ownOnce, putBack, truth, cmpop, binop_addI, binop_addS, binop_addL, binop_addT, binop_sub, binop_mulR, binop_mod, binop_fdiv, negD, nonD, frz_non, frz_bl, frz_int, frz_str, frz_ty, frz_tup, frz_lst, frz_dct, ixD, at?, lenD, small, ownsAt, noOwn, slotNot, Wk.get, Wk.slot, tsl, tsls, clear, restore, isMut, mutAt, mtmut, mtop, sliceD, augop, pinned, big62, walkD, intF, absF, ordF, tupF, allF, maxF, minF, dvmF, findD, splitD, joinD, h1, or, hC, hp]
  have l2 := lcs ⟨callN fs (k + 6), ownsAt 0 [.lst o (rs.map Rec.d)]⟩ rfl rfl
  have hj := joinD_str (s := []) (o := true) (ps := lines 0 rs) (by
    have := jour_len (n := 0) hrs (by omega)
    have e : ((lines 0 rs).map List.length).sum = (jour 0 rs).length := flat_sum _
    rw [e, List.length_nil]
    omega)
  rw [joinT_nil] at hj
  have hj : joinD (.str []) (.lst true ((lines 0 rs).map Mp.D.str)) = some (jour 0 rs) := hj
  refine call_of (f := f_journal_of) rfl ?_
  rw [b_journal_of]
  generalize (ME.lc (.tup (.cons (.nm 1) (.cons (.nm 2) .nil))) (.enum (.var 0)) .nil (.call 25 (.cons (.var 1) (.cons (.var 2) .nil)))) = q2 at l2 ⊢
  generalize rs.map Rec.d = Q at l2
  generalize (lines 0 rs).map Mp.D.str = W at l2 hj
  cases o <;> simp [ownsAt, isOwn_lst] at l2 <;> simp [runD, exs, ex, retv, ev, tst, op, ops, opv, opt, conds, walk, wkOf, wkE, asgn, asgns, setv, setvs, gets, Opd.get, Opd.take, gt, lstAt, biop, bi1, bi2, isiD, isTys, isTy, tyname, finals, isOwn_non, isOwn_bl, isOwn_int, isOwn_str, isOwn_ty, isOwn_tup, isOwn_lst, isOwn_dct, isPlc, ownOnce, putBack, truth, cmpop, binop_addI, binop_addS, binop_addL, binop_addT, binop_sub, binop_mulR, binop_mod, binop_fdiv, negD, nonD, frz_non, frz_bl, frz_int, frz_str, frz_ty, frz_tup, frz_lst, frz_dct, ixD, at?, lenD, small, ownsAt, noOwn, slotNot, Wk.get, Wk.slot, tsl, tsls, clear, restore, isMut, mutAt, mtmut, mtop, sliceD, augop, pinned, big62, walkD, intF, absF, ordF, tupF, allF, maxF, minF, dvmF, findD, splitD, l2, hj, fin1]
theorem s_journal_text {k : Nat} {rs : List Rec} {o : Bool} (hrs : ∀ x ∈ rs, x.ok) (hg : Good rs) (hl : rs.length ≤ 10000) : callN fs (k + 9) 35 [.lst o (rs.map Rec.d)] = some (.str (jour 0 rs), [fin1 o (.lst o (rs.map Rec.d))]) := by
  have h1 := s_are_records_of (k := k) (o := o) hrs hg hl
  have h2 := s_journal_of (k := k + 1) (o := o) hrs hl
  refine call_of (f := f_journal_text) rfl ?_
  rw [b_journal_text]
  generalize rs.map Rec.d = Q at h1 h2
  cases o <;> simp [fin1] at h1 h2 <;> simp [runD, exs, ex, retv, ev, tst, op, ops, opv, opt, conds, walk, wkOf, wkE, asgn, asgns, setv, setvs, gets, Opd.get, Opd.take, gt, lstAt, biop, bi1, bi2, isiD, isTys, isTy, tyname, finals, isOwn_non, isOwn_bl, isOwn_int, isOwn_str, isOwn_ty, isOwn_tup, isOwn_lst, isOwn_dct, isPlc, ownOnce, putBack, truth, cmpop, binop_addI, binop_addS, binop_addL, binop_addT, binop_sub, binop_mulR, binop_mod, binop_fdiv, negD, nonD, frz_non, frz_bl, frz_int, frz_str, frz_ty, frz_tup, frz_lst, frz_dct, ixD, at?, lenD, small, ownsAt, noOwn, slotNot, Wk.get, Wk.slot, tsl, tsls, clear, restore, isMut, mutAt, mtmut, mtop, sliceD, augop, pinned, big62, walkD, intF, absF, ordF, tupF, allF, maxF, minF, dvmF, findD, splitD, joinD, h1, h2, fin1]
theorem s_are_records {k : Nat} {rs : List Rec} {o : Bool} (hrs : ∀ x ∈ rs, x.ok) (hg : Good rs) (hl : rs.length ≤ 10000) : callN fs (k + 9) 32 [.lst o (rs.map Rec.d)] = some (.bl true, [fin1 o (.lst o (rs.map Rec.d))]) := by
  have h1 := s_are_records_of (k := k) (o := o) hrs hg hl
  refine call_of (f := f_are_records) rfl ?_
  rw [b_are_records]
  generalize rs.map Rec.d = Q at h1
  cases o <;> simp [fin1] at h1 <;> simp [runD, exs, ex, retv, ev, tst, op, ops, opv, opt, conds, walk, wkOf, wkE, asgn, asgns, setv, setvs, gets, Opd.get, Opd.take, gt, lstAt, biop, bi1, bi2, isiD, isTys, isTy, tyname, finals, isOwn_non, isOwn_bl, isOwn_int, isOwn_str, isOwn_ty, isOwn_tup, isOwn_lst, isOwn_dct, isPlc, ownOnce, putBack, truth, cmpop, binop_addI, binop_addS, binop_addL, binop_addT, binop_sub, binop_mulR, binop_mod, binop_fdiv, negD, nonD, frz_non, frz_bl, frz_int, frz_str, frz_ty, frz_tup, frz_lst, frz_dct, ixD, at?, lenD, small, ownsAt, noOwn, slotNot, Wk.get, Wk.slot, tsl, tsls, clear, restore, isMut, mutAt, mtmut, mtop, sliceD, augop, pinned, big62, walkD, intF, absF, ordF, tupF, allF, maxF, minF, dvmF, findD, splitD, joinD, h1, fin1]
theorem s_want_journal {k : Nat} {t : Txt} (hl : t.length ≤ 200000) : callN fs (k + 1) 31 [.str t] = some (.str t, [none]) := by
  refine call_of (f := f_want_journal) rfl ?_
  rw [b_want_journal]
  have h1 : ¬ 200000 < (t.length : Int) := by omega
  have h2 : t.length ≤ 16777216 := by omega
  simp [runD, exs, ex, retv, ev, tst, op, ops, opv, opt, conds, walk, wkOf, wkE, asgn, asgns, setv, setvs, gets, Opd.get, Opd.take, gt, lstAt, biop, bi1, bi2, isiD, isTys, isTy, tyname, finals, isOwn_non, isOwn_bl, isOwn_int, isOwn_str, isOwn_ty, isOwn_tup, isOwn_lst, isOwn_dct, isPlc, ownOnce, putBack, truth, cmpop, binop_addI, binop_addS, binop_addL, binop_addT, binop_sub, binop_mulR, binop_mod, binop_fdiv, negD, nonD, frz_non, frz_bl, frz_int, frz_str, frz_ty, frz_tup, frz_lst, frz_dct, ixD, at?, lenD, small, ownsAt, noOwn, slotNot, Wk.get, Wk.slot, tsl, tsls, clear, restore, isMut, mutAt, mtmut, mtop, sliceD, augop, pinned, big62, walkD, intF, absF, ordF, tupF, allF, maxF, minF, dvmF, findD, splitD, joinD, h1, h2]
theorem s_sum_of {k : Nat} {t : Txt} (hl : t.length ≤ 200000) : callN fs (k + 2) 33 [.str t] = some (.int (sumV t), [none]) := by
  have h1 := s_want_journal (k := k) hl
  have h2 := s_sum_of_signs (k := k) (t := t)
  refine call_of (f := f_sum_of) rfl ?_
  rw [b_sum_of]
  simp [runD, exs, ex, retv, ev, tst, op, ops, opv, opt, conds, walk, wkOf, wkE, asgn, asgns, setv, setvs, gets, Opd.get, Opd.take, gt, lstAt, biop, bi1, bi2, isiD, isTys, isTy, tyname, finals, isOwn_non, isOwn_bl, isOwn_int, isOwn_str, isOwn_ty, isOwn_tup, isOwn_lst, isOwn_dct, isPlc, ownOnce, putBack, truth, cmpop, binop_addI, binop_addS, binop_addL, binop_addT, binop_sub, binop_mulR, binop_mod, binop_fdiv, negD, nonD, frz_non, frz_bl, frz_int, frz_str, frz_ty, frz_tup, frz_lst, frz_dct, ixD, at?, lenD, small, ownsAt, noOwn, slotNot, Wk.get, Wk.slot, tsl, tsls, clear, restore, isMut, mutAt, mtmut, mtop, sliceD, augop, pinned, big62, walkD, intF, absF, ordF, tupF, allF, maxF, minF, dvmF, findD, splitD, joinD, h1, h2]
end K68

end
section
set_option Elab.async false
set_option linter.all false
set_option maxRecDepth 100000
set_option maxHeartbeats 2000000
/-! K22: journals read. -/
namespace K68
open PySem hiding Env Ctx
open Mp PySem.NumText
/-- where the next line feed stands -/
def nx (p : Nat) (rem : Txt) : Int := match rem.findIdx? (· == 10) with
  | some j => ((j + p : Nat) : Int)
  | none => -1
theorem find_nx (pre rem : Txt) (hl : (pre ++ rem).length ≤ 16777216) : findD (.str (pre ++ rem)) (.str [10]) (.int (pre.length : Int)) = some (nx pre.length rem) := by
  have hs : small (pre ++ rem).length = true := by simpa only [small, decide_eq_true_eq] using hl
  rw [findD_str, if_pos ⟨hs, by omega⟩, Int.toNat_natCast]
  unfold findFrom nx
  rw [List.drop_left]
  cases rem.findIdx? (· == 10) with
  | none => rfl
  | some j => rfl
theorem nx_at (p : Nat) (L rem : Txt) (h : 10 ∉ L) : nx p (L ++ 10 :: rem) = ((p + L.length : Nat) : Int) := by
  have := find_at 10 [] L rem h
  unfold findFrom at this
  simp only [List.length_nil, List.drop_zero, List.nil_append] at this
  unfold nx
  cases e : (L ++ 10 :: rem).findIdx? (· == 10) with
  | none => rw [e] at this; simp at this
  | some j =>
    rw [e] at this
    simp at this
    subst this
    show ((L.length + p : Nat) : Int) = _
    rw [Nat.add_comm]
theorem nx_none (p : Nat) (L : Txt) (h : 10 ∉ L) : nx p L = -1 := by
  have := find_none 10 [] L h
  unfold findFrom at this
  simp only [List.length_nil, List.drop_zero, List.nil_append] at this
  unfold nx
  cases e : L.findIdx? (· == 10) with
  | none => rfl
  | some j => rw [e] at this; simp at this
/-- where reading stops -/
def Stop (n : Nat) (rs : List Rec) (rest : Txt) : Prop := 10 ∉ rest ∨ ∃ L rest', rest = L ++ 10 :: rest' ∧ 10 ∉ L ∧ (BadLine n L ∨ ∃ r, r.ok ∧ L = body n r ∧ fol rs r = false)
def wl : MS := match f_read_of.body with
  | .cons _ (.cons _ (.cons s _)) => s
  | _ => .bad
def wc : ME := match wl with
  | .while c _ => c
  | _ => .bad
def wb : MSs := match wl with
  | .while _ b => b
  | _ => .nil
theorem wc_eq : wc = .cmp .ge (.var 1) (.k (.int 0)) := by
  unfold wc wl
  rw [b_read_of]
theorem read_test {k : Nat} {v : Mp.D} {e : Int} {o2 o3 o4 : Option Mp.D} : tst ⟨callN fs k, []⟩ wc [some v, some (.int e), o2, o3, o4] = some (decide (0 ≤ e), [some v, some (.int e), o2, o3, o4]) := by
  rw [wc_eq]
  simp [runD, exs, ex, retv, ev, tst, op, ops, opv, opt, conds, walk, wkOf, wkE, asgn, asgns, setv, setvs, gets, Opd.get, Opd.take, gt, lstAt, biop, bi1, bi2, isiD, isTys, isTy, tyname, finals, isOwn_non, isOwn_bl, isOwn_int, isOwn_str, isOwn_ty, isOwn_tup, isOwn_lst, isOwn_dct, isPlc, ownOnce, putBack, truth, cmpop, binop_addI, binop_addS, binop_addL, binop_addT, binop_sub, binop_mulR, binop_mod, binop_fdiv, negD, nonD, frz_non, frz_bl, frz_int, frz_str, frz_ty, frz_tup, frz_lst, frz_dct, ixD, at?, lenD, small, ownsAt, noOwn, slotNot, Wk.get, Wk.slot, tsl, tsls, clear, restore, isMut, mutAt, mtmut, mtop, sliceD, augop, pinned, big62, walkD, intF, absF, ordF, tupF, allF, maxF, minF, dvmF, findD, splitD, joinD]
theorem slice_line {pre L rem : Txt} {a b : Int} (ha : a = (pre.length : Int)) (hb : b = ((pre.length + L.length : Nat) : Int)) (hl : (pre ++ (L ++ 10 :: rem)).length ≤ 16777216) : sliceD (some a) (some b) (.str (pre ++ (L ++ 10 :: rem))) = some (.str L) := slice_mid pre L (10 :: rem) ha hb hl
theorem read_out {k : Nat} {rs : List Rec} {pre L rem : Txt} {o4 : Option Mp.D} (hrs : ∀ x ∈ rs, x.ok) (hl : rs.length ≤ 10000) (ht : (pre ++ (L ++ 10 :: rem)).length ≤ 200000) (h10 : 10 ∉ L) (hok : okT L = true) (h : BadLine rs.length L ∨ ∃ r, r.ok ∧ L = body rs.length r ∧ fol rs r = false) :
    ∃ e2 e4, exs ⟨callN fs (k + 10), []⟩ 1 wb [some (.str (pre ++ (L ++ 10 :: rem))), some (.int (nx pre.length (L ++ 10 :: rem))), some (.lst true (rs.map Rec.d)), some (.int (pre.length : Int)), o4] = some (.ret (.tup [.lst false (rs.map Rec.d), .int (pre.length : Int)]), [some (.str (pre ++ (L ++ 10 :: rem))), some (.int (nx pre.length (L ++ 10 :: rem))), e2, some (.int (pre.length : Int)), e4]) := by
  have sl := slice_line (pre := pre) (L := L) (rem := rem) rfl (nx_at pre.length L rem h10) (by omega)
  have hL : L.length ≤ 300000 := by simp at ht; omega
  have hm : (rs.map Rec.d).length = rs.length := List.length_map ..
  unfold wb wl
  rw [b_read_of]
  rcases h with h | ⟨r, ho, eL, hf⟩
  · have h1 := s_record_in_bad (k := k) (n := rs.length) (by omega) hok hL h
    rw [← hm] at h1
    generalize (pre ++ (L ++ 10 :: rem)) = T at sl
    generalize nx pre.length (L ++ 10 :: rem) = e at sl
    generalize (pre.length : Int) = a at sl
    generalize rs.map Rec.d = P at h1
    refine ⟨some (.lst false P), some .non, ?_⟩
    simp [runD, exs, ex, retv, ev, tst, op, ops, opv, opt, conds, walk, wkOf, wkE, asgn, asgns, setv, setvs, gets, Opd.get, Opd.take, gt, lstAt, biop, bi1, bi2, isiD, isTys, isTy, tyname, finals, isOwn_non, isOwn_bl, isOwn_int, isOwn_str, isOwn_ty, isOwn_tup, isOwn_lst, isOwn_dct, isPlc, ownOnce, putBack, truth, cmpop, binop_addI, binop_addS, binop_addL, binop_addT, binop_sub, binop_mulR, binop_mod, binop_fdiv, negD, nonD, frz_non, frz_bl, frz_int, frz_str, frz_ty, frz_tup, frz_lst, frz_dct, ixD, at?, lenD, small, ownsAt, noOwn, slotNot, Wk.get, Wk.slot, tsl, tsls, clear, restore, isMut, mutAt, mtmut, mtop, augop, pinned, big62, walkD, intF, absF, ordF, tupF, allF, maxF, minF, dvmF, findD, splitD, joinD, sl, h1]
  · have h1 := s_record_in (k := k) (n := rs.length) (r := r) (by omega) ho
    have h2 := s_follows (k := k + 9) (r := r) hrs hl
    rw [hf] at h2
    rw [← eL, ← hm] at h1
    have or := r.own
    have of := r.frz
    generalize (pre ++ (L ++ 10 :: rem)) = T at sl
    generalize nx pre.length (L ++ 10 :: rem) = e at sl
    generalize (pre.length : Int) = a at sl
    generalize rs.map Rec.d = P at h1 h2
    have hn : Mp.nonD r.d = false := by cases r <;> rfl
    generalize r.d = R at h1 h2 or of hn
    refine ⟨some (.lst false P), some R, ?_⟩
    simp [runD, exs, ex, retv, ev, tst, op, ops, opv, opt, conds, walk, wkOf, wkE, asgn, asgns, setv, setvs, gets, Opd.get, Opd.take, gt, lstAt, biop, bi1, bi2, isiD, isTys, isTy, tyname, finals, isOwn_non, isOwn_bl, isOwn_int, isOwn_str, isOwn_ty, isOwn_tup, isOwn_lst, isOwn_dct, isPlc, ownOnce, putBack, truth, cmpop, binop_addI, binop_addS, binop_addL, binop_addT, binop_sub, binop_mulR, binop_mod, binop_fdiv, negD, frz_non, frz_bl, frz_int, frz_str, frz_ty, frz_tup, frz_lst, frz_dct, ixD, at?, lenD, small, ownsAt, noOwn, slotNot, Wk.get, Wk.slot, tsl, tsls, clear, restore, isMut, mutAt, mtmut, mtop, augop, pinned, big62, walkD, intF, absF, ordF, tupF, allF, maxF, minF, dvmF, findD, splitD, joinD, sl, h1, h2, or, of, hn]
theorem read_turn {k : Nat} {rs : List Rec} {r : Rec} {pre rem : Txt} {o4 : Option Mp.D} (hrs : ∀ x ∈ rs, x.ok) (ho : r.ok) (hl : rs.length ≤ 10000) (ht : (pre ++ (body rs.length r ++ 10 :: rem)).length ≤ 200000) (hf : fol rs r = true) :
    exs ⟨callN fs (k + 10), []⟩ 1 wb [some (.str (pre ++ (body rs.length r ++ 10 :: rem))), some (.int (nx pre.length (body rs.length r ++ 10 :: rem))), some (.lst true (rs.map Rec.d)), some (.int (pre.length : Int)), o4] = some (.nx, [some (.str (pre ++ (body rs.length r ++ 10 :: rem))), some (.int (nx (pre ++ line rs.length r).length rem)), some (.lst true ((rs ++ [r]).map Rec.d)), some (.int ((pre ++ line rs.length r).length : Int)), some r.d]) := by
  have hnx := nx_at pre.length (body rs.length r) rem (body_no10 ho)
  have sl := slice_line (pre := pre) (L := body rs.length r) (rem := rem) rfl hnx (by omega)
  have fd := find_nx (pre ++ line rs.length r) rem (by simp [line] at ht ⊢; omega)
  have eT : (pre ++ line rs.length r) ++ rem = pre ++ (body rs.length r ++ 10 :: rem) := by simp [line]
  have en : nx pre.length (body rs.length r ++ 10 :: rem) + 1 = ((pre ++ line rs.length r).length : Int) := by
    rw [hnx]; simp [line]; omega
  rw [eT, ← en] at fd
  rw [← en]
  have hm : (rs.map Rec.d).length = rs.length := List.length_map ..
  have h1 := s_record_in (k := k) (n := rs.length) (r := r) (by omega) ho
  have h2 := s_follows (k := k + 9) (r := r) hrs hl
  rw [hf] at h2
  have or := r.own
  have of := r.frz
  have hn : Mp.nonD r.d = false := by cases r <;> rfl
  have hlen : (rs.map Rec.d).length < 16777216 := by omega
  have ea : (rs ++ [r]).map Rec.d = rs.map Rec.d ++ [r.d] := by simp
  rw [ea]
  unfold wb wl
  rw [b_read_of]
  generalize hB : body rs.length r = B at sl fd h1 ⊢
  generalize (pre ++ (B ++ 10 :: rem)) = T at sl fd ⊢
  generalize nx pre.length (B ++ 10 :: rem) = e at sl fd ⊢
  generalize nx (pre ++ line rs.length r).length rem = e' at fd ⊢
  generalize (pre.length : Int) = a at sl ⊢
  rw [← hm] at h1
  generalize rs.map Rec.d = P at h1 h2 hlen ⊢
  generalize r.d = R at h1 h2 or of hn ⊢
  simp [runD, exs, ex, retv, ev, tst, op, ops, opv, opt, conds, walk, wkOf, wkE, asgn, asgns, setv, setvs, gets, Opd.get, Opd.take, gt, lstAt, biop, bi1, bi2, isiD, isTys, isTy, tyname, finals, isOwn_non, isOwn_bl, isOwn_int, isOwn_str, isOwn_ty, isOwn_tup, isOwn_lst, isOwn_dct, isPlc, ownOnce, putBack, truth, cmpop, binop_addI, binop_addS, binop_addL, binop_addT, binop_sub, binop_mulR, binop_mod, binop_fdiv, negD, frz_non, frz_bl, frz_int, frz_str, frz_ty, frz_tup, frz_lst, frz_dct, ixD, at?, lenD, small, ownsAt, noOwn, slotNot, Wk.get, Wk.slot, tsl, tsls, clear, restore, isMut, mutAt, mtmut, mtop, augop, pinned, big62, walkD, intF, absF, ordF, tupF, allF, maxF, minF, dvmF, splitD, joinD, sl, h1, h2, or, of, hn, fd, hlen]
/-- reading -/
theorem read_loop {k : Nat} : ∀ (todo done : List Rec) (pre rest : Txt) (o4 : Option Mp.D), (∀ x ∈ done ++ todo, x.ok) → (done ++ todo).length ≤ 10000 → (∀ i (h : i < todo.length), fol (done ++ todo.take i) todo[i] = true) → Stop (done.length + todo.length) (done ++ todo) rest → (∀ c ∈ rest, c ≤ 126) → (pre ++ (jour done.length todo ++ rest)).length ≤ 200000 →
    (∃ e1 e2 e4, Loop (tst ⟨callN fs (k + 10), []⟩ wc) (exs ⟨callN fs (k + 10), []⟩ 1 wb) [some (.str (pre ++ (jour done.length todo ++ rest))), some (.int (nx pre.length (jour done.length todo ++ rest))), some (.lst true (done.map Rec.d)), some (.int (pre.length : Int)), o4] (.ret (.tup [.lst false ((done ++ todo).map Rec.d), .int ((pre ++ jour done.length todo).length : Int)]), [some (.str (pre ++ (jour done.length todo ++ rest))), e1, e2, some (.int ((pre ++ jour done.length todo).length : Int)), e4])) ∨
    (∃ e1 e4, Loop (tst ⟨callN fs (k + 10), []⟩ wc) (exs ⟨callN fs (k + 10), []⟩ 1 wb) [some (.str (pre ++ (jour done.length todo ++ rest))), some (.int (nx pre.length (jour done.length todo ++ rest))), some (.lst true (done.map Rec.d)), some (.int (pre.length : Int)), o4] (.nx, [some (.str (pre ++ (jour done.length todo ++ rest))), e1, some (.lst true ((done ++ todo).map Rec.d)), some (.int ((pre ++ jour done.length todo).length : Int)), e4]))
  | [], done, pre, rest, o4, hok, hl, hf, hs, hc, ht => by
    simp only [jour_nil, List.nil_append, List.append_nil, List.length_nil, Nat.add_zero] at hok hl hs ht ⊢
    rcases hs with h | ⟨L, rest', e, h10, h⟩
    · refine .inr ⟨some (.int (nx pre.length rest)), o4, Loop.stop ?_⟩
      rw [read_test, nx_none _ _ h]
      rfl
    · subst e
      have hokL : okT L = true := okT_of fun c m => hc c (by simp [m])
      obtain ⟨e2, e4, ho⟩ := read_out (k := k) (rs := done) (pre := pre) (L := L) (rem := rest') (o4 := o4) hok hl ht h10 hokL h
      refine .inl ⟨_, e2, e4, Loop.out ?_ ho⟩
      rw [read_test, nx_at _ _ _ h10, decide_eq_true (by omega)]
  | r :: todo, done, pre, rest, o4, hok, hl, hf, hs, hc, ht => by
    have hro : r.ok := hok r (by simp)
    have hf0 := hf 0 (by simp)
    simp only [List.take_zero, List.append_nil, List.getElem_cons_zero] at hf0
    have eJ : jour done.length (r :: todo) ++ rest = body done.length r ++ 10 :: (jour (done.length + 1) todo ++ rest) := by
      rw [jour_cons]
      simp [line]
    have el : (done ++ [r]).length = done.length + 1 := by simp
    have ed : done ++ r :: todo = (done ++ [r]) ++ todo := by simp
    have ep : pre ++ jour done.length (r :: todo) = (pre ++ line done.length r) ++ jour (done ++ [r]).length todo := by
      rw [jour_cons, el]; simp
    have eT : pre ++ (body done.length r ++ 10 :: (jour (done.length + 1) todo ++ rest)) = (pre ++ line done.length r) ++ (jour (done ++ [r]).length todo ++ rest) := by
      rw [el]; simp [line]
    have ih := read_loop (k := k) todo (done ++ [r]) (pre ++ line done.length r) rest (some r.d) (by rw [← ed]; exact hok) (by rw [← ed]; exact hl) (by
      intro i h
      have := hf (i + 1) (by simp; omega)
      simp only [List.take_succ_cons, List.getElem_cons_succ] at this
      rw [show done ++ r :: todo.take i = (done ++ [r]) ++ todo.take i by simp] at this
      exact this) (by
      rw [← ed, el, show done.length + 1 + todo.length = done.length + (r :: todo).length by simp; omega]
      exact hs) hc (by rw [← eT, ← eJ]; exact ht)
    rw [← ed, ← ep, ← eT, ← eJ] at ih
    have hrs : ∀ x ∈ done, x.ok := fun x hx => hok x (by simp [hx])
    have hld : done.length ≤ 10000 := by simp at hl; omega
    have tn := read_turn (k := k) (rs := done) (r := r) (pre := pre) (rem := jour (done.length + 1) todo ++ rest) (o4 := o4) hrs hro hld (by rw [← eJ]; exact ht) hf0
    have tt : tst ⟨callN fs (k + 10), []⟩ wc [some (.str (pre ++ (jour done.length (r :: todo) ++ rest))), some (.int (nx pre.length (jour done.length (r :: todo) ++ rest))), some (.lst true (done.map Rec.d)), some (.int (pre.length : Int)), o4] = some (true, [some (.str (pre ++ (jour done.length (r :: todo) ++ rest))), some (.int (nx pre.length (jour done.length (r :: todo) ++ rest))), some (.lst true (done.map Rec.d)), some (.int (pre.length : Int)), o4]) := by
      rw [read_test, eJ, nx_at _ _ _ (body_no10 hro), decide_eq_true (by omega)]
    rw [← eJ] at tn
    rw [el] at ih
    rcases ih with ⟨e1, e2, e4, lp⟩ | ⟨e1, e4, lp⟩
    · exact .inl ⟨e1, e2, e4, Loop.step tt tn lp⟩
    · exact .inr ⟨e1, e4, Loop.step tt tn lp⟩
theorem s_read_of {k : Nat} {rs : List Rec} {rest : Txt} (hrs : ∀ x ∈ rs, x.ok) (hl : rs.length ≤ 10000) (hg : Good rs) (hs : Stop rs.length rs rest) (hc : ∀ c ∈ rest, c ≤ 126) (ht : (jour 0 rs ++ rest).length ≤ 200000) : callN fs (k + 11) 30 [.str (jour 0 rs ++ rest)] = some (.tup [.lst false (rs.map Rec.d), .int ((jour 0 rs).length : Int)], [none]) := by
  have lp := read_loop (k := k) rs [] [] rest none (by simpa using hrs) (by simpa using hl) (by
    intro i h
    simpa using hg i h) (by simpa using hs) hc (by simpa using ht)
  simp only [List.nil_append, List.length_nil, List.map_nil] at lp
  have fd := find_nx [] (jour 0 rs ++ rest) (by simp at ht ⊢; omega)
  simp only [List.nil_append, List.length_nil] at fd
  have hbody : f_read_of.body = .cons (.par [2, 3] (.cons (.lst .nil) (.cons (.k (.int 0)) .nil))) (.cons (.asg (.nm 1) (.meth .find (.var 0) (.cons (.k (.str [10])) (.cons (.var 3) .nil)))) (.cons (.while wc wb) (.cons (.ret (.tup (.cons (.var 2) (.cons (.var 3) .nil)))) .nil))) := by
    unfold wc wb wl
    rw [b_read_of]
  refine call_of (f := f_read_of) rfl ?_
  have hnp : f_read_of.np = 1 ∧ f_read_of.ns = 5 := by rw [b_read_of]; exact ⟨rfl, rfl⟩
  have how : ownsAt 0 [.str (jour 0 rs ++ rest)] = [] := by simp [ownsAt, isOwn_str]
  have fin : ∀ e1 e2 e3 e4, ∀ z, exs ⟨callN fs (k + 10), []⟩ 1 f_read_of.body [some (.str (jour 0 rs ++ rest)), none, none, none, none] = some (.ret z, [some (.str (jour 0 rs ++ rest)), e1, e2, e3, e4]) → runD (callN fs (k + 10)) f_read_of [.str (jour 0 rs ++ rest)] = some (z, [none]) := by
    intro e1 e2 e3 e4 z h
    refine run_nx (e := [some (.str (jour 0 rs ++ rest)), e1, e2, e3, e4]) ⟨hnp.1.symm, by rw [hnp.1, hnp.2]; decide⟩ ?_ (by simp [finals, isOwn_str])
    rw [how, hnp.1, hnp.2]
    exact h
  have st1 : ex ⟨callN fs (k + 10), []⟩ 1 (.par [2, 3] (.cons (.lst .nil) (.cons (.k (.int 0)) .nil))) [some (.str (jour 0 rs ++ rest)), none, none, none, none] = some (.nx, [some (.str (jour 0 rs ++ rest)), none, some (.lst true []), some (.int 0), none]) := by simp [runD, exs, ex, retv, ev, tst, op, ops, opv, opt, conds, walk, wkOf, wkE, asgn, asgns, setv, setvs, gets, Opd.get, Opd.take, gt, lstAt, biop, bi1, bi2, isiD, isTys, isTy, tyname, finals, isOwn_non, isOwn_bl, isOwn_int, isOwn_str, isOwn_ty, isOwn_tup, isOwn_lst, isOwn_dct, isPlc, ownOnce, putBack, truth, cmpop, binop_addI, binop_addS, binop_addL, binop_addT, binop_sub, binop_mulR, binop_mod, binop_fdiv, negD, nonD, frz_non, frz_bl, frz_int, frz_str, frz_ty, frz_tup, frz_lst, frz_dct, ixD, at?, lenD, small, ownsAt, noOwn, slotNot, Wk.get, Wk.slot, tsl, tsls, clear, restore, isMut, mutAt, mtmut, mtop, sliceD, augop, pinned, big62, walkD, intF, absF, ordF, tupF, allF, maxF, minF, dvmF, findD, splitD, joinD]
  have st2 : ex ⟨callN fs (k + 10), []⟩ 1 (.asg (.nm 1) (.meth .find (.var 0) (.cons (.k (.str [10])) (.cons (.var 3) .nil)))) [some (.str (jour 0 rs ++ rest)), none, some (.lst true []), some (.int 0), none] = some (.nx, [some (.str (jour 0 rs ++ rest)), some (.int (nx 0 (jour 0 rs ++ rest))), some (.lst true []), some (.int 0), none]) := by
    have fd' : findD (.str (jour 0 rs ++ rest)) (.str [10]) (.int 0) = some (nx 0 (jour 0 rs ++ rest)) := fd
    generalize jour 0 rs ++ rest = T at fd'
    simp [runD, exs, ex, retv, ev, tst, op, ops, opv, opt, conds, walk, wkOf, wkE, asgn, asgns, setv, setvs, gets, Opd.get, Opd.take, gt, lstAt, biop, bi1, bi2, isiD, isTys, isTy, tyname, finals, isOwn_non, isOwn_bl, isOwn_int, isOwn_str, isOwn_ty, isOwn_tup, isOwn_lst, isOwn_dct, isPlc, ownOnce, putBack, truth, cmpop, binop_addI, binop_addS, binop_addL, binop_addT, binop_sub, binop_mulR, binop_mod, binop_fdiv, negD, nonD, frz_non, frz_bl, frz_int, frz_str, frz_ty, frz_tup, frz_lst, frz_dct, ixD, at?, lenD, small, ownsAt, noOwn, slotNot, Wk.get, Wk.slot, tsl, tsls, clear, restore, isMut, mutAt, mtmut, mtop, sliceD, augop, pinned, big62, walkD, intF, absF, ordF, tupF, allF, maxF, minF, dvmF, splitD, joinD, fd']
  rcases lp with ⟨e1, e2, e4, lp⟩ | ⟨e1, e4, lp⟩
  · refine fin e1 e2 (some (.int ((jour 0 rs).length : Int))) e4 _ ?_
    rw [hbody]
    refine exs_nx st1 (exs_nx st2 (exs_ret ?_))
    unfold ex
    exact whileM_of lp
  · refine fin e1 (some (.lst false (rs.map Rec.d))) (some (.int ((jour 0 rs).length : Int))) e4 _ ?_
    · rw [hbody]
      refine exs_nx st1 (exs_nx st2 (exs_nx (e1 := [some (.str (jour 0 rs ++ rest)), e1, some (.lst true (rs.map Rec.d)), some (.int ((jour 0 rs).length : Int)), e4]) ?_ ?_))
      · unfold ex
        exact whileM_of lp
      · generalize jour 0 rs ++ rest = T
        generalize rs.map Rec.d = P
        generalize ((jour 0 rs).length : Int) = q
        simp [runD, exs, ex, retv, ev, tst, op, ops, opv, opt, conds, walk, wkOf, wkE, asgn, asgns, setv, setvs, gets, Opd.get, Opd.take, gt, lstAt, biop, bi1, bi2, isiD, isTys, isTy, tyname, finals, isOwn_non, isOwn_bl, isOwn_int, isOwn_str, isOwn_ty, isOwn_tup, isOwn_lst, isOwn_dct, isPlc, ownOnce, putBack, truth, cmpop, binop_addI, binop_addS, binop_addL, binop_addT, binop_sub, binop_mulR, binop_mod, binop_fdiv, negD, nonD, frz_non, frz_bl, frz_int, frz_str, frz_ty, frz_tup, frz_lst, frz_dct, ixD, at?, lenD, small, ownsAt, noOwn, slotNot, Wk.get, Wk.slot, tsl, tsls, clear, restore, isMut, mutAt, mtmut, mtop, sliceD, augop, pinned, big62, walkD, intF, absF, ordF, tupF, allF, maxF, minF, dvmF, findD, splitD, joinD]
theorem s_read_journal {k : Nat} {rs : List Rec} {rest : Txt} (hrs : ∀ x ∈ rs, x.ok) (hl : rs.length ≤ 10000) (hg : Good rs) (hs : Stop rs.length rs rest) (hc : ∀ c ∈ rest, c ≤ 126) (ht : (jour 0 rs ++ rest).length ≤ 200000) : callN fs (k + 12) 36 [.str (jour 0 rs ++ rest)] = some (.tup [.lst false (rs.map Rec.d), .int ((jour 0 rs).length : Int)], [none]) := by
  have h1 := s_want_journal (k := k + 10) ht
  have h2 := s_read_of (k := k) hrs hl hg hs hc ht
  refine call_of (f := f_read_journal) rfl ?_
  rw [b_read_journal]
  generalize jour 0 rs ++ rest = T at h1 h2
  simp [runD, exs, ex, retv, ev, tst, op, ops, opv, opt, conds, walk, wkOf, wkE, asgn, asgns, setv, setvs, gets, Opd.get, Opd.take, gt, lstAt, biop, bi1, bi2, isiD, isTys, isTy, tyname, finals, isOwn_non, isOwn_bl, isOwn_int, isOwn_str, isOwn_ty, isOwn_tup, isOwn_lst, isOwn_dct, isPlc, ownOnce, putBack, truth, cmpop, binop_addI, binop_addS, binop_addL, binop_addT, binop_sub, binop_mulR, binop_mod, binop_fdiv, negD, nonD, frz_non, frz_bl, frz_int, frz_str, frz_ty, frz_tup, frz_lst, frz_dct, ixD, at?, lenD, small, ownsAt, noOwn, slotNot, Wk.get, Wk.slot, tsl, tsls, clear, restore, isMut, mutAt, mtmut, mtop, sliceD, augop, pinned, big62, walkD, intF, absF, ordF, tupF, allF, maxF, minF, dvmF, findD, splitD, joinD, h1, h2]
end K68

end
section
set_option Elab.async false
set_option linter.all false
set_option maxRecDepth 100000
set_option maxHeartbeats 2000000
/-! K23: _law_is_right. -/
namespace K68
open PySem hiding Env Ctx
open Mp PySem.NumText
theorem eqD_lst {o o' : Bool} {xs : List Mp.D} (h : okDs 63 xs = true) : eqD (.lst o xs) (.lst o' xs) = some true := by
  obtain ⟨ps, h1, h2, h3, h4⟩ := okDs_py 63 xs h
  have e1 : ∀ o, py (.lst o xs) = some (.list ps) := fun o => by simp [py, h1]
  have s1 : SeqAt.shaped (.list ps) = true := by simp [SeqAt.shaped, PyData.canLay0, PyData.depth, h2]; omega
  unfold eqD
  rw [e1, e1]
  simp [s1, PyData.eqv, h4]
theorem good_take {rs : List Rec} {m : Nat} (h : Good rs) : Good (rs.take m) := by
  intro i hi
  have hi' : i < m ∧ i < rs.length := by simp at hi; omega
  rw [List.getElem_take, List.take_take, Nat.min_eq_left (by omega)]
  exact h i hi'.2
theorem slice_pre {J rest : Txt} {a : Int} (ha : a = (J.length : Int)) (hl : (J ++ rest).length ≤ 16777216) : sliceD none (some a) (.str (J ++ rest)) = some (.str J) := by
  have hs : small (J ++ rest).length = true := by simpa only [small, decide_eq_true_eq] using hl
  subst ha
  rw [sliceD_str, if_pos hs, cut_take, List.take_left]
theorem slice_from {J rest : Txt} {a : Int} (ha : a = (J.length : Int)) (hl : (J ++ rest).length ≤ 16777216) : sliceD (some a) none (.str (J ++ rest)) = some (.str rest) := by
  have hs : small (J ++ rest).length = true := by simpa only [small, decide_eq_true_eq] using hl
  subst ha
  rw [sliceD_str, if_pos hs]
  have : cut (J ++ rest) (some (J.length : Int)) none = rest := by
    unfold cut
    have h1 : sIx (J ++ rest).length (J ++ rest).length none = (J ++ rest).length := rfl
    rw [h1, sIx_nat]
    have h2 : min J.length (J ++ rest).length = J.length := by simp
    rw [h2, List.drop_left]
    simp
  rw [this]
/-- the lines of records, made one by one -/
theorem op_lines {k : Nat} {C : Ctx} {rs : List Rec} {it : MI2} {a b : Nat} {wk : Wk} {env : Env} (hC : C.calls = callN fs (k + 7)) (hrs : ∀ x ∈ rs, x.ok) (hl : rs.length ≤ 10000) (hw : walk C it env = some (wk, env)) (hab : a < b) (hb : b < env.length) (ha0 : env.set a none = env) (hb0 : env.set b none = env) (hpa : a ∉ C.pins) (hpb : b ∉ C.pins) (hs : slotNot wk [a, b] = true) (hg : wk.get env = some (enumd 0 (rs.map Rec.d))) :
    op C (.lc (.tup (.cons (.nm a) (.cons (.nm b) .nil))) it .nil (.call 34 (.cons (.var a) (.cons (.var b) .nil)))) env = some (.val (.lst true ((lines 0 rs).map Mp.D.str)), env) := by
  have hlen : (rs.map Rec.d).length = rs.length := List.length_map ..
  have haL : a < env.length := by omega
  have gta : gt env a = none := by rw [← ha0]; simp [gt, haL]
  have gtb : gt env b = none := by rw [← hb0]; simp [gt, hb]
  have ga : env[a]?.getD none = none := by
    simp only [gt] at gta
    rw [List.getElem?_eq_getElem haL] at gta ⊢
    cases h : env[a] with
    | none => rfl
    | some d => rw [h] at gta; simp at gta
  have gb : env[b]?.getD none = none := by
    simp only [gt] at gtb
    rw [List.getElem?_eq_getElem hb] at gtb ⊢
    cases h : env[b] with
    | none => rfl
    | some d => rw [h] at gtb; simp at gtb
  have hcl : clear (tsl (.tup (.cons (.nm a) (.cons (.nm b) .nil)))) env = env := by
    simp only [tsl, tsls, List.cons_append, List.nil_append, List.append_nil, clear, hb0, ha0]
  have := op_lcI (C := C) (t := .tup (.cons (.nm a) (.cons (.nm b) .nil))) (e := .call 34 (.cons (.var a) (.cons (.var b) .nil))) (ys := enumd 0 (rs.map Rec.d)) (e1 := env) (e0 := env) ((lines 0 rs).map Mp.D.str) (by simp [enumd_len, lines_len]) hw (by simp [noOwn, tsl, tsls, gta, gtb, hs]) hcl hg hg (by
    intro i h
    rw [enumd_len] at h
    have hi : i < rs.length := by omega
    rw [enumd_get _ _ _ h]
    have : (rs.map Rec.d)[i] = rs[i].d := List.getElem_map ..
    rw [this]
    have h1 := s_record_line (k := k) (n := i) (r := rs[i]) (hrs _ (List.getElem_mem hi)) (by omega)
    have or := (rs[i]).own
    have hz : (0 + (i : Int)) = (i : Int) := by omega
    rw [hz, List.getElem_map, lines_get _ _ _ hi]
    have e0 : line (0 + i) rs[i] = line i rs[i] := by rw [Nat.zero_add]
    rw [e0]
    generalize rs[i].d = R at h1 or
    generalize (i : Int) = z at h1
    generalize line i rs[i] = W at h1
    have g1 : gt ((env.set a (some (.int z))).set b (some R)) a = some (.int z) := by
      simp [gt, List.getElem?_set, haL, Nat.ne_of_gt hab]
    have g2 : gt ((env.set a (some (.int z))).set b (some R)) b = some R := by
      simp [gt, List.getElem?_set, hb]
    have s1 : (((env.set a (some (.int z))).set b (some R)).set b none).set a none = env := by
      rw [List.set_set, List.set_comm _ _ (Nat.ne_of_gt hab), List.set_set, ha0, hb0]
    simp only [lcB, asgn, asgns, setv, if_pos (And.intro haL hpa), Option.bind_eq_bind, Option.bind_some, List.length_set, if_pos (And.intro hb hpb), conds, op, ops, g1, g2, ownOnce, isOwn_int, or, gets, Opd.get, hC, h1, putBack, Opd.take, tsl, tsls, List.cons_append, List.nil_append, List.append_nil, clear, s1, frz_str, if_true, Bool.not_false, Bool.true_or, Bool.and_true, Bool.and_self, Bool.false_eq_true, if_false]) (by rw [enumd_len]; omega)
  rw [this]
  have : restore env (tsl (.tup (.cons (.nm a) (.cons (.nm b) .nil)))) (clear (tsl (.tup (.cons (.nm a) (.cons (.nm b) .nil)))) env) = env := by
    rw [hcl]
    simp only [tsl, tsls, List.cons_append, List.nil_append, List.append_nil, restore, ga, gb, hb0, ha0]
  rw [this]
theorem s_law_is_right {k m : Nat} {rs : List Rec} {rest : Txt} (hrs : ∀ x ∈ rs, x.ok) (hl : rs.length ≤ 10000) (hg : Good rs) (hm : m ≤ rs.length) (hs : Stop m (rs.take m) rest) (hc : ∀ c ∈ rest, c ≤ 126) (ht : (jour 0 (rs.take m) ++ rest).length ≤ 200000) : callN fs (k + 13) 42 [.lst true (rs.map Rec.d), .int (m : Int), .str (jour 0 (rs.take m) ++ rest)] = some (.bl true, [some (.lst true (rs.map Rec.d)), none, none]) := by
  have hq : ∀ x ∈ rs.take m, x.ok := fun x hx => hrs x (List.mem_of_mem_take hx)
  have hlq : (rs.take m).length = m := by simp; omega
  have hgq := good_take (m := m) hg
  have h1 := s_read_journal (k := k) hq (by omega) hgq (by rw [hlq]; exact hs) hc ht
  have h2 := s_are_records (k := k + 3) (o := false) hq hgq (by omega)
  have h3 := s_journal_text (k := k + 3) (o := false) hq hgq (by omega)
  have sl := slice_take (xs := rs.map Rec.d) (o := true) (i := m) (a := (m : Int)) rfl
  rw [← List.map_take] at sl
  have q1 := eqD_lst (o := false) (o' := true) (okDs_mono (m := 63) (by decide) (recs_ok hq))
  have hlJ : (jour 0 (rs.take m)).length ≤ 16777216 := by simp at ht; omega
  have q2 := slice_pre (J := jour 0 (rs.take m)) (rest := rest) rfl (by omega)
  have okJ : okT (jour 0 (rs.take m)) = true := okT_of (jour_chr hq)
  have q3 : eqD (.str (jour 0 (rs.take m))) (.str (jour 0 (rs.take m))) = some true := by rw [eqD_str okJ okJ]; simp
  have q4 : eqD (.int ((jour 0 (rs.take m)).length : Int)) (.int ((jour 0 (rs.take m)).length : Int)) = some true := by rw [eqD_int]; simp
  have hj := joinD_str (s := []) (o := true) (ps := lines 0 (rs.take m)) (by
    have e : ((lines 0 (rs.take m)).map List.length).sum = (jour 0 (rs.take m)).length := flat_sum _
    rw [e, List.length_nil]
    omega)
  rw [joinT_nil] at hj
  have hj : joinD (.str []) (.lst true ((lines 0 (rs.take m)).map Mp.D.str)) = some (jour 0 (rs.take m)) := hj
  have lc : ∀ (T told sg : Mp.D), op ⟨callN fs (k + 12), [0]⟩ (.lc (.tup (.cons (.nm 6) (.cons (.nm 7) .nil))) (.enum (.slice (.var 0) .no (.var 1))) .nil (.call 34 (.cons (.var 6) (.cons (.var 7) .nil)))) [some (.lst true (rs.map Rec.d)), some (.int (m : Int)), some T, none, some told, some sg, none, none] = some (.val (.lst true ((lines 0 (rs.take m)).map Mp.D.str)), [some (.lst true (rs.map Rec.d)), some (.int (m : Int)), some T, none, some told, some sg, none, none]) := by
    intro T told sg
    refine op_lines (k := k + 5) (wk := .fix (enumd 0 ((rs.take m).map Rec.d))) rfl hq (by omega) ?_ (by decide) (by simp) rfl rfl (by simp) (by simp) rfl rfl
    simp [runD, exs, ex, retv, ev, tst, op, ops, opv, opt, conds, walk, wkOf, wkE, asgn, asgns, setv, setvs, gets, Opd.get, Opd.take, gt, lstAt, biop, bi1, bi2, isiD, isTys, isTy, tyname, finals, isOwn_non, isOwn_bl, isOwn_int, isOwn_str, isOwn_ty, isOwn_tup, isOwn_lst, isOwn_dct, isPlc, ownOnce, putBack, truth, cmpop, binop_addI, binop_addS, binop_addL, binop_addT, binop_sub, binop_mulR, binop_mod, binop_fdiv, negD, nonD, frz_non, frz_bl, frz_int, frz_str, frz_ty, frz_tup, frz_lst, frz_dct, ixD, at?, lenD, small, ownsAt, noOwn, slotNot, Wk.get, Wk.slot, tsl, tsls, clear, restore, isMut, mutAt, mtmut, mtop, augop, pinned, big62, walkD, intF, absF, ordF, tupF, allF, maxF, minF, dvmF, findD, splitD, joinD, sl]
  refine call_of (f := f__law_is_right) rfl ?_
  rw [b__law_is_right]
  generalize (ME.lc (.tup (.cons (.nm 6) (.cons (.nm 7) .nil))) (.enum (.slice (.var 0) .no (.var 1))) .nil (.call 34 (.cons (.var 6) (.cons (.var 7) .nil)))) = q at lc ⊢
  generalize jour 0 (rs.take m) ++ rest = T at h1 q2
  generalize hsg : ((jour 0 (rs.take m)).length : Int) = sg at h1 q2 q4
  generalize jour 0 (rs.take m) = J at *
  generalize (rs.take m).map Rec.d = P at *
  generalize (lines 0 (rs.take m)).map Mp.D.str = W at *
  generalize rs.map Rec.d = R at *
  refine run_nx (e := [some (.lst true R), some (.int (m : Int)), some (.str T), some (.str J), some (.lst false P), some (.int sg), none, none]) ⟨rfl, by simp⟩ ?_ (by simp [finals, gt, isOwn_lst, isOwn_int, isOwn_str])
  have how : ownsAt 0 [.lst true R, .int (m : Int), .str T] = [0] := by simp [ownsAt, isOwn_lst, isOwn_int, isOwn_str]
  rw [how]
  simp only [fin1] at h2 h3
  have h2 : callN fs (k + 12) 32 [.lst false P] = some (.bl true, [none]) := h2
  have h3 : callN fs (k + 12) 35 [.lst false P] = some (.str J, [none]) := h3
  refine exs_nx (e1 := [some (.lst true R), some (.int (m : Int)), some (.str T), none, some (.lst false P), some (.int sg), none, none]) ?_ (exs_nx (e1 := [some (.lst true R), some (.int (m : Int)), some (.str T), some (.str J), some (.lst false P), some (.int sg), none, none]) ?_ ?_)
  · simp [runD, exs, ex, retv, ev, tst, op, ops, opv, opt, conds, walk, wkOf, wkE, asgn, asgns, setv, setvs, gets, Opd.get, Opd.take, gt, lstAt, biop, bi1, bi2, isiD, isTys, isTy, tyname, finals, isOwn_non, isOwn_bl, isOwn_int, isOwn_str, isOwn_ty, isOwn_tup, isOwn_lst, isOwn_dct, isPlc, ownOnce, putBack, truth, cmpop, binop_addI, binop_addS, binop_addL, binop_addT, binop_sub, binop_mulR, binop_mod, binop_fdiv, negD, nonD, frz_non, frz_bl, frz_int, frz_str, frz_ty, frz_tup, frz_lst, frz_dct, ixD, at?, lenD, small, ownsAt, noOwn, slotNot, Wk.get, Wk.slot, tsl, tsls, clear, restore, isMut, mutAt, mtmut, mtop, sliceD, augop, pinned, big62, walkD, intF, absF, ordF, tupF, allF, maxF, minF, dvmF, findD, splitD, joinD, h1]
  · have lc := lc (.str T) (.lst false P) (.int sg)
    simp [runD, exs, ex, retv, ev, tst, op, ops, opv, opt, conds, walk, wkOf, wkE, asgn, asgns, setv, setvs, gets, Opd.get, Opd.take, gt, lstAt, biop, bi1, bi2, isiD, isTys, isTy, tyname, finals, isOwn_non, isOwn_bl, isOwn_int, isOwn_str, isOwn_ty, isOwn_tup, isOwn_lst, isOwn_dct, isPlc, ownOnce, putBack, truth, cmpop, binop_addI, binop_addS, binop_addL, binop_addT, binop_sub, binop_mulR, binop_mod, binop_fdiv, negD, nonD, frz_non, frz_bl, frz_int, frz_str, frz_ty, frz_tup, frz_lst, frz_dct, ixD, at?, lenD, small, ownsAt, noOwn, slotNot, Wk.get, Wk.slot, tsl, tsls, clear, restore, isMut, mutAt, mtmut, mtop, sliceD, augop, pinned, big62, walkD, intF, absF, ordF, tupF, allF, maxF, minF, dvmF, findD, splitD, lc, hj]
  · simp [runD, exs, ex, retv, ev, tst, op, ops, opv, opt, conds, walk, wkOf, wkE, asgn, asgns, setv, setvs, gets, Opd.get, Opd.take, gt, lstAt, biop, bi1, bi2, isiD, isTys, isTy, tyname, finals, isOwn_non, isOwn_bl, isOwn_int, isOwn_str, isOwn_ty, isOwn_tup, isOwn_lst, isOwn_dct, isPlc, ownOnce, putBack, truth, cmpop, binop_addI, binop_addS, binop_addL, binop_addT, binop_sub, binop_mulR, binop_mod, binop_fdiv, negD, nonD, frz_non, frz_bl, frz_int, frz_str, frz_ty, frz_tup, frz_lst, frz_dct, ixD, at?, lenD, small, ownsAt, noOwn, slotNot, Wk.get, Wk.slot, tsl, tsls, clear, restore, isMut, mutAt, mtmut, mtop, augop, pinned, big62, walkD, intF, absF, ordF, tupF, allF, maxF, minF, dvmF, findD, splitD, joinD, sl, q1, hlJ, hsg, q2, q3, q4, h2, h3]
end K68

end
section
set_option Elab.async false
set_option linter.all false
set_option maxRecDepth 100000
set_option maxHeartbeats 2000000
/-! K24: what the law draws. -/
namespace K68
open PySem hiding Env Ctx
open Mp PySem.NumText
def Pot (p : Mp.D) : Prop := ∃ a b : Int, p = .lst true [.int a, .int b] ∧ 0 ≤ b ∧ b < 2147483648
theorem Pot.own {p : Mp.D} (h : Pot p) : isOwn p = true := by
  obtain ⟨a, b, rfl, _⟩ := h
  rfl
theorem draw_core {C : Ctx} {np : Nat} {a b c1 d1 m1 m2 m3 size : Int} (hc1 : 0 ≤ c1 ∧ c1 < 4611686018427387904) (hm1 : 0 < m1 ∧ m1 < 2147483648) (hm2 : 0 < m2) (hm3 : 0 < m3 ∧ m3 < 1073741824) (hs : 0 < size ∧ size < 1073741824) (hb : 0 ≤ b ∧ b < 2147483648) (hnp : np = 2) : ∃ v p', Pot p' ∧ 0 ≤ v ∧ v < size ∧ ∃ e,
    exs C np (.cons (.ite (.cmp .gt (.ix (.var 0) (.k (.int 0))) (.k (.int 0))) (.cons (.asg (.tup (.cons (.sub (.var 0) (.k (.int 0))) (.cons (.nm 2) .nil))) (.bi .divmod (.cons (.ix (.var 0) (.k (.int 0))) (.cons (.var 1) .nil)))) (.cons (.ret (.var 2)) .nil)) .nil) (.cons (.asg (.sub (.var 0) (.k (.int 1))) (.bin .mod (.bi .int (.cons (.bin .add (.bin .mul (.ix (.var 0) (.k (.int 1))) (.k (.int c1))) (.k (.int d1))) .nil)) (.k (.int m1)))) (.cons (.ret (.bin .mod (.bi .int (.cons (.bin .fdiv (.bin .mod (.bi .int (.cons (.bin .mul (.ix (.var 0) (.k (.int 1))) (.ix (.var 0) (.k (.int 1)))) .nil)) (.k (.int m2))) (.k (.int m3))) .nil)) (.var 1))) .nil))) [some (.lst true [.int a, .int b]), some (.int size), none] = some (.ret (.int v), [some p', some (.int size), e]) ∨ 2 ∈ C.pins := by
  by_cases hp : 2 ∈ C.pins
  · exact ⟨0, _, ⟨a, b, rfl, hb⟩, by omega, by omega, none, .inr hp⟩
  by_cases ha : 0 < a
  · refine ⟨a % size, _, ⟨a / size, b, rfl, hb⟩, Int.emod_nonneg _ (by omega), Int.emod_lt_of_pos _ hs.1, none, .inl ?_⟩
    subst hnp
    simp [runD, exs, ex, retv, ev, tst, op, ops, opv, opt, conds, walk, wkOf, wkE, asgn, asgns, setv, setvs, gets, Opd.get, Opd.take, gt, lstAt, biop, bi1, bi2, isiD, isTys, isTy, tyname, finals, isOwn_non, isOwn_bl, isOwn_int, isOwn_str, isOwn_ty, isOwn_tup, isOwn_lst, isOwn_dct, isPlc, ownOnce, putBack, truth, cmpop, binop_addI, binop_addS, binop_addL, binop_addT, binop_sub, binop_mulR, binop_mod, binop_fdiv, negD, nonD, frz_non, frz_bl, frz_int, frz_str, frz_ty, frz_tup, frz_lst, frz_dct, ixD, at?, lenD, small, ownsAt, noOwn, slotNot, Wk.get, Wk.slot, tsl, tsls, clear, restore, isMut, mutAt, mtmut, mtop, sliceD, augop, pinned, big62, walkD, intF, absF, ordF, tupF, allF, maxF, minF, dvmF, findD, splitD, joinD, ha, hs, hp]
  · have hb1 : 0 ≤ (b * c1 + d1) % m1 := Int.emod_nonneg _ (by omega)
    have hb2 : (b * c1 + d1) % m1 < m1 := Int.emod_lt_of_pos _ hm1.1
    refine ⟨((b * c1 + d1) % m1 * ((b * c1 + d1) % m1) % m2 / m3) % size, _, ⟨a, (b * c1 + d1) % m1, rfl, hb1, by omega⟩, Int.emod_nonneg _ (by omega), Int.emod_lt_of_pos _ hs.1, none, .inl ?_⟩
    have e1 := binop_mulR (i := b) hc1
    have e2 := binop_mod (i := b * c1 + d1) hm1.1
    generalize (b * c1 + d1) % m1 = x at hb1 hb2 e2
    have e3 := binop_mulR (i := x) (j := x) ⟨hb1, by omega⟩
    have e4 := binop_mod (i := x * x) hm2
    have e5 := binop_fdiv (i := x * x % m2) hm3
    have e6 := binop_mod (i := x * x % m2 / m3) hs.1
    simp [runD, exs, ex, retv, ev, tst, op, ops, opv, opt, conds, walk, wkOf, wkE, asgn, asgns, setv, setvs, gets, Opd.get, Opd.take, gt, lstAt, biop, bi1, bi2, isiD, isTys, isTy, tyname, finals, isOwn_non, isOwn_bl, isOwn_int, isOwn_str, isOwn_ty, isOwn_tup, isOwn_lst, isOwn_dct, isPlc, ownOnce, putBack, truth, cmpop, binop_addI, binop_addS, binop_addL, binop_addT, binop_sub, negD, nonD, frz_non, frz_bl, frz_int, frz_str, frz_ty, frz_tup, frz_lst, frz_dct, ixD, at?, lenD, small, ownsAt, noOwn, slotNot, Wk.get, Wk.slot, tsl, tsls, clear, restore, isMut, mutAt, mtmut, mtop, sliceD, augop, pinned, big62, walkD, intF, absF, ordF, tupF, allF, maxF, minF, dvmF, findD, splitD, joinD, ha, e1, e2, e3, e4, e5, e6]
theorem s_draw {k : Nat} {p : Mp.D} {size : Int} (h : Pot p) (hs : 0 < size ∧ size < 1073741824) : ∃ v p', Pot p' ∧ 0 ≤ v ∧ v < size ∧ callN fs (k + 1) 38 [p, .int size] = some (.int v, [some p', none]) := by
  obtain ⟨a, b, rfl, hb⟩ := h
  obtain ⟨v, p', h1, h2, h3, e, h4⟩ := draw_core (C := ⟨callN fs k, [0]⟩) (np := 2) (a := a) (b := b) (c1 := 40692) (d1 := 18181) (m1 := 2147483399) (m2 := 2147483323) (m3 := 19) (size := size) (by omega) (by omega) (by omega) (by omega) hs hb rfl
  have h4 := h4.resolve_right (by simp)
  refine ⟨v, p', h1, h2, h3, call_of (f := f__law_draw) rfl ?_⟩
  rw [b__law_draw]
  refine run_nx (e := [some p', some (.int size), e]) ⟨rfl, by decide⟩ ?_ (by simp [finals, gt, isOwn_lst, isOwn_int])
  exact h4
theorem s_pick {k : Nat} {p : Mp.D} {xs : List Mp.D} (h : Pot p) (hx : 0 < xs.length ∧ xs.length < 1000000) : ∃ i, ∃ hi : i < xs.length, ∃ p', Pot p' ∧ callN fs (k + 2) 39 [p, .lst true xs] = some (xs[i], [some p', some (.lst true xs)]) := by
  obtain ⟨v, p', h1, h2, h3, h4⟩ := s_draw (k := k) (size := (xs.length : Int)) h (by omega)
  have hi : v.toNat < xs.length := by omega
  refine ⟨v.toNat, hi, p', h1, call_of (f := f__law_pick) rfl ?_⟩
  have ha : at? xs v = some xs[v.toNat] := by
    unfold at?
    rw [if_pos h2, List.getElem?_eq_getElem hi]
  rw [b__law_pick]
  have o1 := h.own
  have o2 := h1.own
  generalize xs[v.toNat] = x at ha
  simp [runD, exs, ex, retv, ev, tst, op, ops, opv, opt, conds, walk, wkOf, wkE, asgn, asgns, setv, setvs, gets, Opd.get, Opd.take, gt, lstAt, biop, bi1, bi2, isiD, isTys, isTy, tyname, finals, isOwn_non, isOwn_bl, isOwn_int, isOwn_str, isOwn_ty, isOwn_tup, isOwn_lst, isOwn_dct, isPlc, ownOnce, putBack, truth, cmpop, binop_addI, binop_addS, binop_addL, binop_addT, binop_sub, binop_mulR, binop_mod, binop_fdiv, negD, nonD, frz_non, frz_bl, frz_int, frz_str, frz_ty, frz_tup, frz_lst, frz_dct, ixD, lenD, small, ownsAt, noOwn, slotNot, Wk.get, Wk.slot, tsl, tsls, clear, restore, isMut, mutAt, mtmut, mtop, sliceD, augop, pinned, big62, walkD, intF, absF, ordF, tupF, allF, maxF, minF, dvmF, findD, splitD, joinD, h4, o1, ha]
theorem binop_pow {i j : Int} : binop .pow (.int i) (.int j) = if 0 ≤ j ∧ j ≤ 1000000 ∧ i.natAbs < 2 ^ 64 then some (.int (i ^ j.toNat)) else none := rfl
theorem pow231 : binop .pow (.int 2) (.int 31) = some (.int 2147483648) := by
  rw [binop_pow, if_pos (by decide)]
  rfl
theorem pow8 : binop .pow (.int 10) (.int 8) = some (.int 100000000) := by
  rw [binop_pow, if_pos (by decide)]
  rfl
theorem pow9 : binop .pow (.int 10) (.int 9) = some (.int 1000000000) := by
  rw [binop_pow, if_pos (by decide)]
  rfl
theorem pow18 : binop .pow (.int 10) (.int 18) = some (.int 1000000000000000000) := by
  rw [binop_pow, if_pos (by decide)]
  rfl
theorem s_data : ∀ (deep : Nat) (k : Nat) (p : Mp.D), Pot p → ∃ t p', Pot p' ∧ t.ok ∧ t.dep ≤ deep + 1 ∧ t.num + 1 ≤ 2 ^ (deep + 1) ∧ callN fs (k + deep + 3) 40 [p, .int (deep : Int)] = some (Tl.d t, [some p', none])
  | deep, k, p, h => by
    obtain ⟨v1, p1, g1, g2, g3, g4⟩ := s_draw (k := k + deep + 1) (size := 8) h (by omega)
    have o0 := h.own
    have o1 := g1.own
    by_cases hw : deep = 0 ∨ v1 < 5
    · obtain ⟨v2, p2, r1, r2, r3, r4⟩ := s_draw (k := k + deep + 1) (size := 2000) g1 (by omega)
      obtain ⟨i, hi, p3, q1, q2⟩ := s_pick (k := k + deep) (xs := [(Tl.int (v2 - 1000)).d, Tl.tt.d, Tl.un.d, Tl.nl.d, (Tl.int 2147483647).d]) r1 (by simp)
      have o2 := r1.own
      have o3 := q1.own
      have ht : ∃ t : Tl, t.ok ∧ t.dep ≤ 1 ∧ t.num ≤ 1 ∧ [(Tl.int (v2 - 1000)).d, Tl.tt.d, Tl.un.d, Tl.nl.d, (Tl.int 2147483647).d][i] = t.d := by
        have hi' : i < 5 := hi
        match i, hi' with
        | 0, _ => exact ⟨.int (v2 - 1000), ⟨by omega, by omega⟩, by simp [Tl.dep], by simp [Tl.num], rfl⟩
        | 1, _ => exact ⟨.tt, trivial, by simp [Tl.dep], by simp [Tl.num], rfl⟩
        | 2, _ => exact ⟨.un, trivial, by simp [Tl.dep], by simp [Tl.num], rfl⟩
        | 3, _ => exact ⟨.nl, trivial, by simp [Tl.dep], by simp [Tl.num], rfl⟩
        | 4, _ => exact ⟨.int 2147483647, ⟨by omega, by omega⟩, by simp [Tl.dep], by simp [Tl.num], rfl⟩
      obtain ⟨t, t1, t2, t3, t4⟩ := ht
      rw [t4] at q2
      have h2p : 2 ≤ 2 ^ (deep + 1) := by
        have := Nat.pow_le_pow_right (n := 2) (by decide) (show 1 ≤ deep + 1 by omega)
        simpa using this
      refine ⟨t, p3, q1, t1, by omega, by omega, call_of (f := f__law_data) rfl ?_⟩
      rw [b__law_data]
      simp only [Tl.d] at q2
      have q2 : callN fs (k + deep + 2) 39 _ = _ := q2
      by_cases hd : deep = 0
      · subst hd
        simp [runD, exs, ex, retv, ev, tst, op, ops, opv, opt, conds, walk, wkOf, wkE, asgn, asgns, setv, setvs, gets, Opd.get, Opd.take, gt, lstAt, biop, bi1, bi2, isiD, isTys, isTy, tyname, finals, isOwn_non, isOwn_bl, isOwn_int, isOwn_str, isOwn_ty, isOwn_tup, isOwn_lst, isOwn_dct, isPlc, ownOnce, putBack, truth, cmpop, binop_addI, binop_addS, binop_addL, binop_addT, binop_sub, binop_mulR, binop_mod, binop_fdiv, negD, nonD, frz_non, frz_bl, frz_int, frz_str, frz_ty, frz_tup, frz_lst, frz_dct, ixD, at?, lenD, small, ownsAt, noOwn, slotNot, Wk.get, Wk.slot, tsl, tsls, clear, restore, isMut, mutAt, mtmut, mtop, sliceD, augop, pinned, big62, walkD, intF, absF, ordF, tupF, allF, maxF, minF, dvmF, findD, splitD, joinD, g4, r4, q2, o0, o1, o2, o3, pow231, eqD_int]
      · have hv := hw.resolve_left hd
        simp [runD, exs, ex, retv, ev, tst, op, ops, opv, opt, conds, walk, wkOf, wkE, asgn, asgns, setv, setvs, gets, Opd.get, Opd.take, gt, lstAt, biop, bi1, bi2, isiD, isTys, isTy, tyname, finals, isOwn_non, isOwn_bl, isOwn_int, isOwn_str, isOwn_ty, isOwn_tup, isOwn_lst, isOwn_dct, isPlc, ownOnce, putBack, truth, cmpop, binop_addI, binop_addS, binop_addL, binop_addT, binop_sub, binop_mulR, binop_mod, binop_fdiv, negD, nonD, frz_non, frz_bl, frz_int, frz_str, frz_ty, frz_tup, frz_lst, frz_dct, ixD, at?, lenD, small, ownsAt, noOwn, slotNot, Wk.get, Wk.slot, tsl, tsls, clear, restore, isMut, mutAt, mtmut, mtop, sliceD, augop, pinned, big62, walkD, intF, absF, ordF, tupF, allF, maxF, minF, dvmF, findD, splitD, joinD, g4, r4, q2, o0, o1, o2, o3, pow231, eqD_int, hv, hd]
    · have hd : deep ≠ 0 := fun e => hw (.inl e)
      have hv : ¬ v1 < 5 := fun e => hw (.inr e)
      obtain ⟨dq, rfl⟩ : ∃ dq, deep = dq + 1 := ⟨deep - 1, by omega⟩
      obtain ⟨ta, p2, a1, a2, a3, a4, a5⟩ := s_data dq k p1 g1
      obtain ⟨tb, p3, b1, b2, b3, b4, b5⟩ := s_data dq k p2 a1
      have o2 := a1.own
      have o3 := b1.own
      have hz : ¬ ((dq + 1 : Nat) : Int) = 0 := by omega
      have hz1 : ((dq + 1 : Nat) : Int) - 1 = (dq : Int) := by omega
      refine ⟨.two (decide (¬ v1 < 7)) ta tb, p3, b1, ⟨a2, b2⟩, by simp [Tl.dep]; omega, by
        rw [Nat.pow_succ]
        simp only [Tl.num]
        omega, call_of (f := f__law_data) rfl ?_⟩
      rw [b__law_data]
      have a5 : callN fs (k + (dq + 1) + 2) 40 [p1, .int (dq : Int)] = _ := a5
      have b5 : callN fs (k + (dq + 1) + 2) 40 [p2, .int (dq : Int)] = _ := b5
      have oa := ta.frz
      have ob := tb.frz
      generalize ((dq + 1 : Nat) : Int) = z at hz hz1
      by_cases h7 : v1 < 7
      · have e : (decide (¬ v1 < 7)) = false := by simp [h7]
        rw [e]
        simp [runD, exs, ex, retv, ev, tst, op, ops, opv, opt, conds, walk, wkOf, wkE, asgn, asgns, setv, setvs, gets, Opd.get, Opd.take, gt, lstAt, biop, bi1, bi2, isiD, isTys, isTy, tyname, finals, isOwn_non, isOwn_bl, isOwn_int, isOwn_str, isOwn_ty, isOwn_tup, isOwn_lst, isOwn_dct, isPlc, ownOnce, putBack, truth, cmpop, binop_addI, binop_addS, binop_addL, binop_addT, binop_sub, binop_mulR, binop_mod, binop_fdiv, negD, nonD, frz_non, frz_bl, frz_int, frz_str, frz_ty, frz_tup, frz_lst, frz_dct, ixD, at?, lenD, small, ownsAt, noOwn, slotNot, Wk.get, Wk.slot, tsl, tsls, clear, restore, isMut, mutAt, mtmut, mtop, sliceD, augop, pinned, big62, walkD, intF, absF, ordF, tupF, allF, maxF, minF, dvmF, findD, splitD, joinD, g4, a5, b5, o0, o1, o2, o3, eqD_int, hv, hz, hz1, h7, oa, ob, Tl.d]
      · have e : (decide (¬ v1 < 7)) = true := by simp [h7]
        rw [e]
        simp [runD, exs, ex, retv, ev, tst, op, ops, opv, opt, conds, walk, wkOf, wkE, asgn, asgns, setv, setvs, gets, Opd.get, Opd.take, gt, lstAt, biop, bi1, bi2, isiD, isTys, isTy, tyname, finals, isOwn_non, isOwn_bl, isOwn_int, isOwn_str, isOwn_ty, isOwn_tup, isOwn_lst, isOwn_dct, isPlc, ownOnce, putBack, truth, cmpop, binop_addI, binop_addS, binop_addL, binop_addT, binop_sub, binop_mulR, binop_mod, binop_fdiv, negD, nonD, frz_non, frz_bl, frz_int, frz_str, frz_ty, frz_tup, frz_lst, frz_dct, ixD, at?, lenD, small, ownsAt, noOwn, slotNot, Wk.get, Wk.slot, tsl, tsls, clear, restore, isMut, mutAt, mtmut, mtop, sliceD, augop, pinned, big62, walkD, intF, absF, ordF, tupF, allF, maxF, minF, dvmF, findD, splitD, joinD, g4, a5, b5, o0, o1, o2, o3, eqD_int, hv, hz, hz1, h7, oa, ob, Tl.d]
end K68

end
section
set_option Elab.async false
set_option linter.all false
set_option maxRecDepth 100000
set_option maxHeartbeats 2000000
/-! K25: the records that the law draws. -/
namespace K68
open PySem hiding Env Ctx
open Mp PySem.NumText
theorem ranged_len : ∀ (n : Nat) (i : Int), (ranged i n).length = n
  | 0, _ => rfl
  | n + 1, i => by simp [ranged, ranged_len n]
theorem good_snoc {rs : List Rec} {r : Rec} (h : Good rs) (hf : fol rs r = true) : Good (rs ++ [r]) := by
  intro i hi
  by_cases h2 : i < rs.length
  · rw [List.getElem_append_left h2, List.take_append_of_le_length (by omega)]
    exact h i h2
  · have e : i = rs.length := by simp at hi; omega
    subst e
    simp [hf]
theorem ws_snoc (rs : List Rec) (r : Rec) : ws (rs ++ [r]) = if r.w = [107, 101, 112, 116] then ws rs else ws rs ++ [r.w] := by
  unfold ws
  rw [List.filter_append, List.map_append]
  by_cases h : r.w = [107, 101, 112, 116]
  · simp [h]
  · simp [h]
structure RInv (i : Nat) (rs : List Rec) (last : Txt) : Prop where
  ok : ∀ x ∈ rs, x.ok
  len : rs.length = i + 1
  good : Good rs
  gl : (ws rs).getLast? = some last
  oklast : last = [98, 101, 103, 117, 110] ∨ last = [97, 115, 107, 101, 100] ∨ last = [97, 110, 115, 119, 101, 114, 101, 100]
theorem RInv.ne {i rs last} (h : RInv i rs last) : rs ≠ [] := fun e => by
  have := h.len
  rw [e] at this
  simp at this
theorem RInv.wne {i rs last} (h : RInv i rs last) : ws rs ≠ [] := fun e => by
  have := h.gl
  rw [e] at this
  simp at this
theorem RInv.kept {i rs last} (h : RInv i rs last) {a b : Nat} (ha : a < 1000000000000) (hb : b < 1000000000000) : RInv (i + 1) (rs ++ [.kept a b]) last := by
  have hf : fol rs (.kept a b) = true := by
    unfold fol
    rw [if_neg h.ne, if_neg (by simp [Rec.w, h.wne]), if_pos (show (Rec.kept a b).w = [107, 101, 112, 116] from rfl)]
  refine ⟨?_, by simp [h.len], good_snoc h.good hf, ?_, h.oklast⟩
  · intro x hx
    rcases List.mem_append.mp hx with hx | hx
    · exact h.ok x hx
    · rw [List.mem_singleton.mp hx]; exact ⟨ha, hb⟩
  · rw [ws_snoc, if_pos (show (Rec.kept a b).w = [107, 101, 112, 116] from rfl)]; exact h.gl
theorem RInv.answered {i rs} (h : RInv i rs [97, 115, 107, 101, 100]) {t : Tl} (ht : smallT t) : RInv (i + 1) (rs ++ [.answered t]) [97, 110, 115, 119, 101, 114, 101, 100] := by
  have hf : fol rs (.answered t) = true := by
    unfold fol
    rw [if_neg h.ne, if_neg (by simp [Rec.w, h.wne]), if_neg (by simp [Rec.w]), if_pos (show (Rec.answered t).w = [97, 110, 115, 119, 101, 114, 101, 100] from rfl), h.gl]
    simp
  refine ⟨?_, by simp [h.len], good_snoc h.good hf, ?_, .inr (.inr rfl)⟩
  · intro x hx
    rcases List.mem_append.mp hx with hx | hx
    · exact h.ok x hx
    · rw [List.mem_singleton.mp hx]; exact ht
  · rw [ws_snoc, if_neg (by simp [Rec.w])]; simp [Rec.w]
theorem RInv.asked {i rs last} (h : RInv i rs last) (hl : last ≠ [97, 115, 107, 101, 100]) {nm : Txt} {t : Tl} (hn : nm ∈ ([[71, 101, 116], [80, 117, 116, 50], [70, 97, 105, 108]] : List Txt)) (ht : smallT t) : RInv (i + 1) (rs ++ [.asked nm t]) [97, 115, 107, 101, 100] := by
  have hf : fol rs (.asked nm t) = true := by
    unfold fol
    rw [if_neg h.ne, if_neg (by simp [Rec.w, h.wne]), if_neg (by simp [Rec.w]), if_neg (by simp [Rec.w]), h.gl]
    rcases h.oklast with e | e | e
    · simp [e]
    · exact absurd e hl
    · simp [e]
  refine ⟨?_, by simp [h.len], good_snoc h.good hf, ?_, .inr (.inl rfl)⟩
  · intro x hx
    rcases List.mem_append.mp hx with hx | hx
    · exact h.ok x hx
    · rw [List.mem_singleton.mp hx]; exact ⟨hn, ht⟩
  · rw [ws_snoc, if_neg (by simp [Rec.w])]; simp [Rec.w]
def rb : MSs := match f__law_records.body with
  | .cons _ (.cons (.for _ _ b) _) => b
  | _ => .nil
theorem rec_turn {k i : Nat} {p n x : Mp.D} {o2 : Option Mp.D} {rs : List Rec} {last : Txt} (hp : Pot p) (h : RInv i rs last) (hi : i ≤ 1000) : ∃ p' rs' last', Pot p' ∧ RInv (i + 1) rs' last' ∧ forB ⟨callN fs (k + 6), [0]⟩ 2 (.nm 2) rb x [some p, some n, o2, some (.lst true (rs.map Rec.d)), some (.str last)] = some (.nx, [some p', some n, some x, some (.lst true (rs'.map Rec.d)), some (.str last')]) := by
  obtain ⟨v1, p1, g1, g2, g3, g4⟩ := s_draw (k := k + 5) (size := 4) hp (by omega)
  have o0 := hp.own
  have o1 := g1.own
  have hlen : (rs.map Rec.d).length < 16777216 := by have := h.len; simp; omega
  by_cases hv : v1 = 0
  · obtain ⟨a, p2, a1, a2, a3, a4⟩ := s_draw (k := k + 5) (size := 1000) g1 (by omega)
    obtain ⟨b, p3, b1, b2, b3, b4⟩ := s_draw (k := k + 5) (size := 1000000000) a1 (by omega)
    have o2 := a1.own
    have o3 := b1.own
    refine ⟨p3, rs ++ [.kept a.toNat b.toNat], last, b1, h.kept (by omega) (by omega), ?_⟩
    have ed : (rs ++ [Rec.kept a.toNat b.toNat]).map Rec.d = rs.map Rec.d ++ [.tup [.str [107, 101, 112, 116], .int a, .int b]] := by
      rw [List.map_append]
      simp only [List.map_cons, List.map_nil, Rec.d, Int.toNat_of_nonneg a2, Int.toNat_of_nonneg b2]
    rw [ed]
    unfold rb
    rw [b__law_records]
    generalize rs.map Rec.d = R at hlen ⊢
    simp [forB, runD, exs, ex, retv, ev, tst, op, ops, opv, opt, conds, walk, wkOf, wkE, asgn, asgns, setv, setvs, gets, Opd.get, Opd.take, gt, lstAt, biop, bi1, bi2, isiD, isTys, isTy, tyname, finals, isOwn_non, isOwn_bl, isOwn_int, isOwn_str, isOwn_ty, isOwn_tup, isOwn_lst, isOwn_dct, isPlc, ownOnce, putBack, truth, cmpop, binop_addI, binop_addS, binop_addL, binop_addT, binop_sub, binop_mulR, binop_mod, binop_fdiv, negD, nonD, frz_non, frz_bl, frz_int, frz_str, frz_ty, frz_tup, frz_lst, frz_dct, ixD, at?, lenD, small, ownsAt, noOwn, slotNot, Wk.get, Wk.slot, tsl, tsls, clear, restore, isMut, mutAt, mtmut, mtop, sliceD, augop, pinned, big62, walkD, intF, absF, ordF, tupF, allF, maxF, minF, dvmF, findD, splitD, joinD, g4, a4, b4, o0, o1, o2, o3, eqD_int, hv, pow9, hlen]
  · by_cases hl : last = [97, 115, 107, 101, 100]
    · subst hl
      obtain ⟨t, p2, t1, t2, t3, t4, t5⟩ := s_data 3 k p1 g1
      have t5 : callN fs (k + 6) 40 [p1, .int 3] = some (t.d, [some p2, none]) := t5
      have o2 := t1.own
      refine ⟨p2, rs ++ [.answered t], _, t1, h.answered ⟨t2, t3, by omega⟩, ?_⟩
      have ed : (rs ++ [Rec.answered t]).map Rec.d = rs.map Rec.d ++ [.tup [.str [97, 110, 115, 119, 101, 114, 101, 100], t.d]] := by
        rw [List.map_append]
        rfl
      rw [ed]
      have of := t.frz
      unfold rb
      rw [b__law_records]
      generalize rs.map Rec.d = R at hlen ⊢
      simp [forB, runD, exs, ex, retv, ev, tst, op, ops, opv, opt, conds, walk, wkOf, wkE, asgn, asgns, setv, setvs, gets, Opd.get, Opd.take, gt, lstAt, biop, bi1, bi2, isiD, isTys, isTy, tyname, finals, isOwn_non, isOwn_bl, isOwn_int, isOwn_str, isOwn_ty, isOwn_tup, isOwn_lst, isOwn_dct, isPlc, ownOnce, putBack, truth, cmpop, binop_addI, binop_addS, binop_addL, binop_addT, binop_sub, binop_mulR, binop_mod, binop_fdiv, negD, nonD, frz_non, frz_bl, frz_int, frz_str, frz_ty, frz_tup, frz_lst, frz_dct, ixD, at?, lenD, small, ownsAt, noOwn, slotNot, Wk.get, Wk.slot, tsl, tsls, clear, restore, isMut, mutAt, mtmut, mtop, sliceD, augop, pinned, big62, walkD, intF, absF, ordF, tupF, allF, maxF, minF, dvmF, findD, splitD, joinD, g4, t5, o0, o1, o2, eqD_int, eqD_str, okT, hv, of, hlen]
    · obtain ⟨j, hj, p2, q1, q2⟩ := s_pick (k := k + 4) (xs := [.str [71, 101, 116], .str [80, 117, 116, 50], .str [70, 97, 105, 108]]) g1 (by simp)
      obtain ⟨t, p3, t1, t2, t3, t4, t5⟩ := s_data 3 k p2 q1
      have t5 : callN fs (k + 6) 40 [p2, .int 3] = some (t.d, [some p3, none]) := t5
      have o2 := q1.own
      have o3 := t1.own
      have hn : ∃ nm : Txt, nm ∈ ([[71, 101, 116], [80, 117, 116, 50], [70, 97, 105, 108]] : List Txt) ∧ [Mp.D.str [71, 101, 116], .str [80, 117, 116, 50], .str [70, 97, 105, 108]][j] = .str nm := by
        have hj' : j < 3 := hj
        match j, hj' with
        | 0, _ => exact ⟨_, by simp, rfl⟩
        | 1, _ => exact ⟨[80, 117, 116, 50], by simp, rfl⟩
        | 2, _ => exact ⟨[70, 97, 105, 108], by simp, rfl⟩
      obtain ⟨nm, n1, n2⟩ := hn
      rw [n2] at q2
      refine ⟨p3, rs ++ [.asked nm t], _, t1, h.asked hl n1 ⟨t2, t3, by omega⟩, ?_⟩
      have ed : (rs ++ [Rec.asked nm t]).map Rec.d = rs.map Rec.d ++ [.tup [.str [97, 115, 107, 101, 100], .str nm, t.d]] := by
        rw [List.map_append]
        rfl
      rw [ed]
      have of := t.frz
      have okl : okT last = true := by rcases h.oklast with e | e | e <;> rw [e] <;> rfl
      have el := eqD_str (b := [97, 115, 107, 101, 100]) okl rfl
      rw [decide_eq_false hl] at el
      unfold rb
      rw [b__law_records]
      generalize rs.map Rec.d = R at hlen ⊢
      simp [forB, runD, exs, ex, retv, ev, tst, op, ops, opv, opt, conds, walk, wkOf, wkE, asgn, asgns, setv, setvs, gets, Opd.get, Opd.take, gt, lstAt, biop, bi1, bi2, isiD, isTys, isTy, tyname, finals, isOwn_non, isOwn_bl, isOwn_int, isOwn_str, isOwn_ty, isOwn_tup, isOwn_lst, isOwn_dct, isPlc, ownOnce, putBack, truth, cmpop, binop_addI, binop_addS, binop_addL, binop_addT, binop_sub, binop_mulR, binop_mod, binop_fdiv, negD, nonD, frz_non, frz_bl, frz_int, frz_str, frz_ty, frz_tup, frz_lst, frz_dct, ixD, at?, lenD, small, ownsAt, noOwn, slotNot, Wk.get, Wk.slot, tsl, tsls, clear, restore, isMut, mutAt, mtmut, mtop, sliceD, augop, pinned, big62, walkD, intF, absF, ordF, tupF, allF, maxF, minF, dvmF, findD, splitD, joinD, g4, q2, t5, o0, o1, o2, o3, eqD_int, el, hv, of, hlen]
end K68

end
section
set_option Elab.async false
set_option linter.all false
set_option maxRecDepth 100000
set_option maxHeartbeats 2000000
/-! K26: the records that the law draws. -/
namespace K68
open PySem hiding Env Ctx
open Mp PySem.NumText
theorem big_n {n : Nat} (hn : n ≤ 100) : big62 (n : Int) = true := by
  have e : (2 : Int) ^ 62 = 4611686018427387904 := by decide
  unfold big62
  rw [e]
  exact decide_eq_true (by omega)
theorem begun_inv {v : Int} (h : v < 100000000) : RInv 0 [.begun v.toNat] [98, 101, 103, 117, 110] := by
  refine ⟨?_, rfl, ?_, rfl, .inl rfl⟩
  · intro x hx
    rw [List.mem_singleton.mp hx]
    show v.toNat < 1000000000000
    omega
  · intro i hi
    have : i = 0 := by simp at hi; exact hi
    subst this
    rfl
theorem walk_range1 {C : Ctx} {e : ME} {env e1 : Env} {p : Opd} {j : Int} (h : op C e env = some (p, e1)) (h2 : p.get e1 = some (.int j)) (hb : big62 j = true) : walk C (.range1 e) env = some (.fix (ranged 0 j.toNat), e1) := by
  unfold walk
  rw [h]
  simp only [Option.bind_eq_bind, Option.bind_some]
  rw [h2]
  exact if_pos hb
theorem rec_walk {C : Ctx} {n : Nat} {v0 v3 v4 : Mp.D} (hn : n ≤ 100) : walk C (.range1 (.var 1)) [some v0, some (.int (n : Int)), none, some v3, some v4] = some (.fix (ranged 0 n), [some v0, some (.int (n : Int)), none, some v3, some v4]) :=
  walk_range1 (p := .plc 1) (j := (n : Int)) (by simp [op, gt]) (by simp [Opd.get, gt]) (big_n hn)
theorem rec_start {C : Ctx} {p p1 : Mp.D} {n v : Int} (o0 : isOwn p = true) (g4 : C.calls 38 [p, .int 100000000] = some (.int v, [some p1, none])) (hp : C.pins = [0]) : ex C 2 (.par [3, 4] (.cons (.lst (.cons (.tup (.cons (.k (.str [98, 101, 103, 117, 110])) (.cons (.call 38 (.cons (.var 0) (.cons (.bin .pow (.k (.int 10)) (.k (.int 8))) .nil))) .nil))) .nil)) (.cons (.k (.str [98, 101, 103, 117, 110])) .nil))) [some p, some (.int n), none, none, none] = some (.nx, [some p1, some (.int n), none, some (.lst true [.tup [.str [98, 101, 103, 117, 110], .int v]]), some (.str [98, 101, 103, 117, 110])]) := by
  simp [runD, exs, ex, retv, ev, tst, op, ops, opv, opt, conds, walk, wkOf, wkE, asgn, asgns, setv, setvs, gets, Opd.get, Opd.take, gt, lstAt, biop, bi1, bi2, isiD, isTys, isTy, tyname, finals, isOwn_non, isOwn_bl, isOwn_int, isOwn_str, isOwn_ty, isOwn_tup, isOwn_lst, isOwn_dct, isPlc, ownOnce, putBack, truth, cmpop, binop_addI, binop_addS, binop_addL, binop_addT, binop_sub, binop_mulR, binop_mod, binop_fdiv, negD, nonD, frz_non, frz_bl, frz_int, frz_str, frz_ty, frz_tup, frz_lst, frz_dct, ixD, at?, lenD, small, ownsAt, noOwn, slotNot, Wk.get, Wk.slot, tsl, tsls, clear, restore, isMut, mutAt, mtmut, mtop, sliceD, augop, pinned, big62, walkD, intF, absF, ordF, tupF, allF, maxF, minF, dvmF, findD, splitD, joinD, pow8, g4, o0, hp]
theorem s_records {k n : Nat} {p : Mp.D} (hp : Pot p) (hn : n ≤ 100) : ∃ rs p', Pot p' ∧ (∀ x ∈ rs, x.ok) ∧ rs.length = n + 1 ∧ Good rs ∧ callN fs (k + 7) 41 [p, .int (n : Int)] = some (.lst true (rs.map Rec.d), [some p', none]) := by
  obtain ⟨v, p1, g1, g2, g3, g4⟩ := s_draw (k := k + 5) (size := 100000000) hp (by omega)
  have o0 := hp.own
  have o1 := g1.own
  have r0 := begun_inv g3
  have ed : ([Rec.begun v.toNat]).map Rec.d = [.tup [.str [98, 101, 103, 117, 110], .int v]] := by
    simp only [List.map_cons, List.map_nil, Rec.d, Int.toNat_of_nonneg g2]
  obtain ⟨e, h1, p', rs, last, o2, h2, h3, rfl⟩ := ex_for_ind (C := ⟨callN fs (k + 6), [0]⟩) (np := 2) (t := .nm 2) (it := .range1 (.var 1)) (b := rb) (env := [some p1, some (.int (n : Int)), none, some (.lst true ([Rec.begun v.toNat].map Rec.d)), some (.str [98, 101, 103, 117, 110])]) (e1 := [some p1, some (.int (n : Int)), none, some (.lst true ([Rec.begun v.toNat].map Rec.d)), some (.str [98, 101, 103, 117, 110])]) (wk := .fix (ranged 0 n)) (fun i e => ∃ p' rs last o2, Pot p' ∧ RInv i rs last ∧ e = [some p', some (.int (n : Int)), o2, some (.lst true (rs.map Rec.d)), some (.str last)]) (ranged 0 n) (rec_walk hn) (fun _ _ _ => rfl) ⟨p1, _, _, none, g1, r0, rfl⟩ (by
      intro i hi env ⟨p', rs, last, o2, h2, h3, he⟩
      subst he
      rw [ranged_len] at hi
      obtain ⟨p'', rs', last', q1, q2, q3⟩ := rec_turn (k := k) (x := (ranged 0 n)[i]'(by rw [ranged_len]; exact hi)) (n := .int (n : Int)) (o2 := o2) h2 h3 (by omega)
      exact ⟨_, q3, p'', rs', last', _, q1, q2, rfl⟩)
  rw [ranged_len] at h3
  refine ⟨rs, p', h2, h3.ok, h3.len, h3.good, call_of (f := f__law_records) rfl ?_⟩
  have hb : f__law_records.body = .cons (.par [3, 4] (.cons (.lst (.cons (.tup (.cons (.k (.str [98, 101, 103, 117, 110])) (.cons (.call 38 (.cons (.var 0) (.cons (.bin .pow (.k (.int 10)) (.k (.int 8))) .nil))) .nil))) .nil)) (.cons (.k (.str [98, 101, 103, 117, 110])) .nil))) (.cons (.for (.nm 2) (.range1 (.var 1)) rb) (.cons (.ret (.var 3)) .nil)) := by
    unfold rb
    rw [b__law_records]
  have hnp : f__law_records.np = 2 ∧ f__law_records.ns = 5 := by rw [b__law_records]; exact ⟨rfl, rfl⟩
  have how : ownsAt 0 [p, .int (n : Int)] = [0] := by simp [ownsAt, o0, isOwn_int]
  refine run_nx (e := [some p', some (.int (n : Int)), o2, none, some (.str last)]) ⟨hnp.1.symm, by rw [hnp.1, hnp.2]; decide⟩ ?_ (by simp [finals, gt, o0, isOwn_int])
  rw [how, hnp.1, hnp.2, hb]
  refine exs_nx (e1 := [some p1, some (.int (n : Int)), none, some (.lst true ([Rec.begun v.toNat].map Rec.d)), some (.str [98, 101, 103, 117, 110])]) ?_ (exs_nx h1 ?_)
  · rw [ed]
    exact rec_start o0 g4 rfl
  · generalize rs.map Rec.d = R
    simp [runD, exs, ex, retv, ev, tst, op, ops, opv, opt, conds, walk, wkOf, wkE, asgn, asgns, setv, setvs, gets, Opd.get, Opd.take, gt, lstAt, biop, bi1, bi2, isiD, isTys, isTy, tyname, finals, isOwn_non, isOwn_bl, isOwn_int, isOwn_str, isOwn_ty, isOwn_tup, isOwn_lst, isOwn_dct, isPlc, ownOnce, putBack, truth, cmpop, binop_addI, binop_addS, binop_addL, binop_addT, binop_sub, binop_mulR, binop_mod, binop_fdiv, negD, nonD, frz_non, frz_bl, frz_int, frz_str, frz_ty, frz_tup, frz_lst, frz_dct, ixD, at?, lenD, small, ownsAt, noOwn, slotNot, Wk.get, Wk.slot, tsl, tsls, clear, restore, isMut, mutAt, mtmut, mtop, sliceD, augop, pinned, big62, walkD, intF, absF, ordF, tupF, allF, maxF, minF, dvmF, findD, splitD, joinD]
end K68

end
section
set_option Elab.async false
set_option linter.all false
set_option maxRecDepth 100000
set_option maxHeartbeats 2000000
/-! K27: the texts that the law makes, in plain Lean. -/
namespace K68
open PySem hiding Env Ctx
open Mp PySem.NumText
/-- where the lines end -/
def endsOf (a : Nat) : List Txt → List Nat
  | [] => []
  | l :: ls => (a + l.length) :: endsOf (a + l.length) ls
def cnt (p a : Nat) (ls : List Txt) : Nat := ((endsOf a ls).filter fun e => decide (e ≤ p)).length
theorem ends_ge : ∀ (ls : List Txt) (a : Nat), ∀ e ∈ endsOf a ls, a ≤ e
  | [], a, e, h => by cases h
  | l :: ls, a, e, h => by
    rcases List.mem_cons.mp h with rfl | h
    · omega
    · have := ends_ge ls (a + l.length) e h; omega
theorem cnt_zero {p a : Nat} {ls : List Txt} (h : p < a) : cnt p a ls = 0 := by
  unfold cnt
  rw [List.length_eq_zero_iff, List.filter_eq_nil_iff]
  intro e he
  have := ends_ge ls a e he
  simp
  omega
theorem cnt_cons (p a : Nat) (l : Txt) (ls : List Txt) : cnt p a (l :: ls) = if a + l.length ≤ p then cnt p (a + l.length) ls + 1 else 0 := by
  by_cases h : a + l.length ≤ p
  · rw [if_pos h]
    unfold cnt
    rw [show endsOf a (l :: ls) = (a + l.length) :: endsOf (a + l.length) ls from rfl, List.filter_cons_of_pos (by simpa using h)]
    rfl
  · rw [if_neg h]
    have := cnt_zero (ls := ls) (p := p) (a := a + l.length) (by omega)
    unfold cnt at this ⊢
    rw [show endsOf a (l :: ls) = (a + l.length) :: endsOf (a + l.length) ls from rfl, List.filter_cons_of_neg (by simpa using h)]
    exact this
theorem ends_snoc : ∀ (ls : List Txt) (a : Nat) (l : Txt), endsOf a (ls ++ [l]) = endsOf a ls ++ [a + ls.flatten.length + l.length]
  | [], a, l => by simp [endsOf]
  | x :: ls, a, l => by
    have ih := ends_snoc ls (a + x.length) l
    simp only [List.cons_append, endsOf, ih, List.flatten_cons, List.length_append, List.cons.injEq, true_and, List.append_cancel_left_eq, and_true]
    omega
theorem split_at {n : Nat} {l : Txt} {p : Nat} (h : p < l.length) : ∃ x c y, l = x ++ c :: y ∧ x.length = p := by
  refine ⟨l.take p, l[p], l.drop (p + 1), ?_, by simp; omega⟩
  rw [← List.drop_eq_getElem_cons h, List.take_append_drop]
/-- the line in which a place lies -/
theorem locate : ∀ (rs : List Rec) (n a p : Nat), a ≤ p → p < a + (jour n rs).length → ∃ (hm : cnt p a (lines n rs) < rs.length) (x : Txt) (c : Nat) (y : Txt),
    line (n + cnt p a (lines n rs)) rs[cnt p a (lines n rs)] = x ++ c :: y ∧
    jour n rs = jour n (rs.take (cnt p a (lines n rs))) ++ ((x ++ c :: y) ++ jour (n + cnt p a (lines n rs) + 1) (rs.drop (cnt p a (lines n rs) + 1))) ∧ a + (jour n (rs.take (cnt p a (lines n rs))) ++ x).length = p
  | [], n, a, p, h1, h2 => by simp [jour_nil] at h2; omega
  | r :: rs, n, a, p, h1, h2 => by
    rw [jour_cons] at h2
    have hc := cnt_cons p a (line n r) (lines (n + 1) rs)
    have e0 : lines n (r :: rs) = line n r :: lines (n + 1) rs := rfl
    rw [e0]
    by_cases h : a + (line n r).length ≤ p
    · rw [if_pos h] at hc
      simp at h2
      obtain ⟨hm, x, c, y, e1, e2, e3⟩ := locate rs (n + 1) (a + (line n r).length) p h (by omega)
      rw [hc]
      generalize cnt p (a + (line n r).length) (lines (n + 1) rs) = m at *
      refine ⟨by simp; omega, x, c, y, ?_, ?_, ?_⟩
      · rw [List.getElem_cons_succ, ← e1, show n + (m + 1) = n + 1 + m by omega]
      · rw [List.take_succ_cons, List.drop_succ_cons, jour_cons, jour_cons, List.append_assoc, show n + (m + 1) + 1 = n + 1 + m + 1 by omega, ← e2]
      · rw [List.take_succ_cons, jour_cons]
        simp at e3 ⊢
        omega
    · rw [if_neg h] at hc
      rw [hc]
      obtain ⟨x, c, y, e1, e2⟩ := split_at (n := n) (l := line n r) (p := p - a) (by omega)
      refine ⟨by simp, x, c, y, e1, ?_, ?_⟩
      · rw [← e1]; rfl
      · rw [List.take_zero, jour_nil]
        simp
        omega
theorem cnt_all : ∀ (rs : List Rec) (n a p : Nat), a + (jour n rs).length ≤ p → cnt p a (lines n rs) = rs.length
  | [], n, a, p, h => rfl
  | r :: rs, n, a, p, h => by
    rw [jour_cons] at h
    simp at h
    have e0 : lines n (r :: rs) = line n r :: lines (n + 1) rs := rfl
    rw [e0, cnt_cons, if_pos (by omega), cnt_all rs (n + 1) _ p (by omega)]
    rfl
/-- what lies in a line -/
theorem in_line {n : Nat} {r : Rec} {x y : Txt} {c : Nat} (h : line n r = x ++ c :: y) : (c = 10 ∧ y = [] ∧ x = body n r) ∨ (∃ y', y = y' ++ [10] ∧ body n r = x ++ c :: y') := by
  unfold line at h
  rcases List.eq_nil_or_concat y with e | ⟨y', d, e⟩
  · subst e
    have h2 := List.append_inj' h rfl
    simp at h2
    exact .inl ⟨h2.2.symm, rfl, h2.1.symm⟩
  · rw [List.concat_eq_append] at e
    subst e
    have e2 : x ++ c :: (y' ++ [d]) = (x ++ c :: y') ++ [d] := by simp
    rw [e2] at h
    have h2 := List.append_inj' h rfl
    simp at h2
    refine .inr ⟨y', by rw [← h2.2], h2.1⟩
theorem pre_no10 {n : Nat} {r : Rec} (ho : r.ok) {x y : Txt} {c : Nat} (h : line n r = x ++ c :: y) : 10 ∉ x := by
  rcases in_line h with ⟨_, _, e⟩ | ⟨y', _, e⟩
  · rw [e]; exact body_no10 ho
  · intro m
    exact body_no10 ho (by rw [e]; simp [m])
/-- a text whose line is spoilt -/
theorem stop_bad {n : Nat} {rs : List Rec} {L more : Txt} (h10 : 10 ∉ L) (h : BadLine n L) : Stop n rs (L ++ 10 :: more) := .inr ⟨L, more, rfl, h10, .inl h⟩
theorem exch_stop {n : Nat} {r : Rec} {rs : List Rec} (ho : r.ok) {x y more : Txt} {c s : Nat} (h : line n r = x ++ c :: y) (hc : c ≠ 10) (hs : s ≠ c) (hr : 32 ≤ s ∧ s ≤ 126) : Stop n rs (x ++ s :: (y ++ more)) := by
  rcases in_line h with ⟨e, _, _⟩ | ⟨y', e1, e2⟩
  · exact absurd e hc
  · have hb := spoil (n := n) ho (x := x) (o := [c]) (e := [s]) (y := y') (by rw [e2]; rfl) (by simp) (by simp) (by simpa using hs) (by intro d hd; rw [List.mem_singleton.mp hd]; exact hr)
    have e : x ++ s :: (y ++ more) = (x ++ ([s] ++ y')) ++ 10 :: more := by rw [e1]; simp
    rw [e]
    refine stop_bad ?_ hb
    have hn := body_no10 (n := n) ho
    rw [e2] at hn
    simp at hn ⊢
    refine ⟨hn.1, ?_, hn.2.2⟩
    omega
theorem del_stop {n : Nat} {r : Rec} {rs : List Rec} {later : List Rec} (ho : r.ok) (hl : ∀ q ∈ later, q.ok) {x y : Txt} {c : Nat} (h : line n r = x ++ c :: y) : Stop n rs (x ++ (y ++ jour (n + 1) later)) := by
  rcases in_line h with ⟨_, e1, e2⟩ | ⟨y', e1, e2⟩
  · subst e1 e2
    cases later with
    | nil => exact .inl (by simpa [jour_nil] using body_no10 ho)
    | cons q later =>
      have hq := hl q List.mem_cons_self
      have e : body n r ++ ([] ++ jour (n + 1) (q :: later)) = (body n r ++ body (n + 1) q) ++ 10 :: jour (n + 1 + 1) later := by
        rw [jour_cons]; simp [line]
      rw [e]
      refine stop_bad ?_ (merged ho hq)
      have h1 := body_no10 (n := n) ho
      have h2 := body_no10 (n := n + 1) hq
      simp [h1, h2]
  · have hb := spoil (n := n) ho (x := x) (o := [c]) (e := []) (y := y') (by rw [e2]; rfl) (by simp) (by simp) (by simp) (by simp)
    have e : x ++ (y ++ jour (n + 1) later) = (x ++ ([] ++ y')) ++ 10 :: jour (n + 1) later := by rw [e1]; simp
    rw [e]
    refine stop_bad ?_ hb
    have hn := body_no10 (n := n) ho
    rw [e2] at hn
    simp at hn ⊢
    exact ⟨hn.1, hn.2.2⟩
theorem ins_stop {n : Nat} {r : Rec} {rs : List Rec} (ho : r.ok) {x y more : Txt} {c s : Nat} (h : line n r = x ++ c :: y) (hr : 32 ≤ s ∧ s ≤ 126) : Stop n rs (x ++ s :: c :: (y ++ more)) := by
  have hd : ∀ d ∈ [s], 32 ≤ d ∧ d ≤ 126 := fun d hd => by rw [List.mem_singleton.mp hd]; exact hr
  have hn := body_no10 (n := n) ho
  rcases in_line h with ⟨e0, e1, e2⟩ | ⟨y', e1, e2⟩
  · subst e0 e1 e2
    have hb := spoil (n := n) ho (x := body n r) (o := []) (e := [s]) (y := []) (by simp) (by simp) (by simp) (by simp) hd
    have e : body n r ++ s :: 10 :: ([] ++ more) = (body n r ++ ([s] ++ [])) ++ 10 :: more := by simp
    rw [e]
    refine stop_bad ?_ hb
    simp [hn]
    omega
  · have hb := spoil (n := n) ho (x := x) (o := []) (e := [s]) (y := c :: y') (by rw [e2]; rfl) (by simp) (by simp) (by simp) hd
    have e : x ++ s :: c :: (y ++ more) = (x ++ ([s] ++ c :: y')) ++ 10 :: more := by rw [e1]; simp
    rw [e]
    refine stop_bad ?_ hb
    rw [e2] at hn
    simp at hn ⊢
    refine ⟨hn.1, by omega, hn.2⟩
/-- a line whose number is another -/
theorem num_stop {n m : Nat} {r : Rec} {rs : List Rec} (ho : r.ok) (h : m ≠ n) (more : Txt) : Stop n rs (line m r ++ more) := by
  have e : line m r ++ more = body m r ++ 10 :: more := by simp [line]
  rw [e]
  exact stop_bad (body_no10 ho) (other_number ho h)
theorem late_stop {rs : List Rec} (h : rs ≠ []) {r : Rec} (ho : r.ok) (hw : r.w = [98, 101, 103, 117, 110]) : Stop rs.length rs (line rs.length r) := by
  refine .inr ⟨body rs.length r, [], rfl, body_no10 ho, .inr ⟨r, ho, rfl, ?_⟩⟩
  unfold fol
  rw [if_neg h, if_pos (.inl hw)]
theorem empty_stop (n : Nat) (rs : List Rec) (more : Txt) : Stop n rs (10 :: more) := stop_bad (L := []) (by simp) (empty_bad n)
end K68

end
section
set_option Elab.async false
set_option linter.all false
set_option maxRecDepth 100000
set_option maxHeartbeats 2000000
/-! K28: the law's parts. -/
namespace K68
open PySem hiding Env Ctx
open Mp PySem.NumText
theorem pot_core {C : Ctx} {ns : List Int} {c0 c00 m1 c1 c2 c3 m2 : Int} (hm1 : 0 < m1) (hc1 : 0 ≤ c1 ∧ c1 < 4611686018427387904) (hm2 : 0 < m2 ∧ m2 < 2147483600) (hp : 2 ∉ C.pins) : ∃ p e, Pot p ∧ exs C 2 (.cons (.asg (.nm 2) (.ite (.cmp .lt (.var 1) (.bi .len (.cons (.var 0) .nil))) (.bi .abs (.cons (.ix (.var 0) (.var 1)) .nil)) (.bin .add (.bin .mul (.k (.int c0)) (.var 1)) (.k (.int c00))))) (.cons (.ret (.lst (.cons (.bi .max (.cons (.k (.int 0)) (.cons (.bin .sub (.var 2) (.bin .pow (.k (.int 10)) (.k (.int 18)))) .nil))) (.cons (.bin .add (.bin .mod (.bi .int (.cons (.bin .add (.bin .add (.bin .mul (.bin .mod (.bi .int (.cons (.var 2) .nil)) (.k (.int m1))) (.k (.int c1))) (.bin .mul (.k (.int c2)) (.var 1))) (.k (.int c3))) .nil)) (.k (.int m2))) (.k (.int 1))) .nil)))) .nil)) [some (.lst false (ns.map .int)), some (.int 0), none] = some (.ret p, [some (.lst false (ns.map .int)), some (.int 0), e]) := by
  have key : ∀ cell : Int, ∃ p, Pot p ∧ ∀ v0, exs C 2 (.cons (.ret (.lst (.cons (.bi .max (.cons (.k (.int 0)) (.cons (.bin .sub (.var 2) (.bin .pow (.k (.int 10)) (.k (.int 18)))) .nil))) (.cons (.bin .add (.bin .mod (.bi .int (.cons (.bin .add (.bin .add (.bin .mul (.bin .mod (.bi .int (.cons (.var 2) .nil)) (.k (.int m1))) (.k (.int c1))) (.bin .mul (.k (.int c2)) (.var 1))) (.k (.int c3))) .nil)) (.k (.int m2))) (.k (.int 1))) .nil)))) .nil) [some v0, some (.int 0), some (.int cell)] = some (.ret p, [some v0, some (.int 0), some (.int cell)]) := by
    intro cell
    have e1 := binop_mod (i := cell) hm1
    have e2 := binop_mulR (i := cell % m1) hc1
    have e3 : binop .mul (.int c2) (.int 0) = some (.int (c2 * 0)) := binop_mulR ⟨by omega, by omega⟩
    have e4 := binop_mod (i := cell % m1 * c1 + c2 * 0 + c3) hm2.1
    have b1 : 0 ≤ (cell % m1 * c1 + c2 * 0 + c3) % m2 := Int.emod_nonneg _ (by omega)
    have b2 : (cell % m1 * c1 + c2 * 0 + c3) % m2 < m2 := Int.emod_lt_of_pos _ hm2.1
    refine ⟨_, ⟨if cell - 1000000000000000000 > 0 then cell - 1000000000000000000 else 0, (cell % m1 * c1 + c2 * 0 + c3) % m2 + 1, rfl, by omega, by omega⟩, ?_⟩
    intro v0
    generalize (cell % m1 * c1 + c2 * 0 + c3) % m2 = z at e4 ⊢
    generalize cell % m1 * c1 = y at e2 e4 ⊢
    generalize cell % m1 = x at e1 e2
    generalize c2 * 0 = w at e3 e4 ⊢
    have e5 := pow18
    generalize (1000000000000000000 : Int) = big at e5 ⊢
    simp only [exs, ex, retv, ev, op, ops, opv, gets, Opd.get, Opd.take, gt, biop, bi1, bi2, maxF, intF, e1, e2, e3, e4, e5, binop_sub, binop_addI, Option.bind_eq_bind, Option.bind_some, Option.map_some, List.getElem?_cons_zero, List.getElem?_cons_succ, small, List.length_cons, List.length_nil, List.map_cons, List.map_nil, frz_int]
    rfl
  by_cases h : 0 < ns.length
  · obtain ⟨x, xs, rfl⟩ := List.exists_cons_of_ne_nil (List.length_pos_iff.mp h)
    obtain ⟨p, h1, h2⟩ := key (if x < 0 then -x else x)
    refine ⟨p, _, h1, exs_nx (e1 := [some (.lst false ((x :: xs).map .int)), some (.int 0), some (.int (if x < 0 then -x else x))]) ?_ (h2 _)⟩
    simp [runD, exs, ex, retv, ev, tst, op, ops, opv, opt, conds, walk, wkOf, wkE, asgn, asgns, setv, setvs, gets, Opd.get, Opd.take, gt, lstAt, biop, bi1, bi2, isiD, isTys, isTy, tyname, finals, isOwn_non, isOwn_bl, isOwn_int, isOwn_str, isOwn_ty, isOwn_tup, isOwn_lst, isOwn_dct, isPlc, ownOnce, putBack, truth, cmpop, binop_addI, binop_addS, binop_addL, binop_addT, binop_sub, binop_mulR, binop_mod, binop_fdiv, negD, nonD, frz_non, frz_bl, frz_int, frz_str, frz_ty, frz_tup, frz_lst, frz_dct, ixD, at?, lenD, small, ownsAt, noOwn, slotNot, Wk.get, Wk.slot, tsl, tsls, clear, restore, isMut, mutAt, mtmut, mtop, sliceD, augop, pinned, big62, walkD, intF, absF, ordF, tupF, allF, maxF, minF, dvmF, findD, splitD, joinD, hp]
  · have e : ns = [] := List.length_eq_zero_iff.mp (by omega)
    subst e
    obtain ⟨p, h1, h2⟩ := key (c0 * 0 + c00)
    refine ⟨p, _, h1, exs_nx (e1 := [some (.lst false (List.map .int [])), some (.int 0), some (.int (c0 * 0 + c00))]) ?_ (h2 _)⟩
    have e3 : binop .mul (.int c0) (.int 0) = some (.int (c0 * 0)) := binop_mulR ⟨by omega, by omega⟩
    generalize c0 * 0 = w at e3
    simp [runD, exs, ex, retv, ev, tst, op, ops, opv, opt, conds, walk, wkOf, wkE, asgn, asgns, setv, setvs, gets, Opd.get, Opd.take, gt, lstAt, biop, bi1, bi2, isiD, isTys, isTy, tyname, finals, isOwn_non, isOwn_bl, isOwn_int, isOwn_str, isOwn_ty, isOwn_tup, isOwn_lst, isOwn_dct, isPlc, ownOnce, putBack, truth, cmpop, binop_addI, binop_addS, binop_addL, binop_addT, binop_sub, binop_mod, binop_fdiv, negD, nonD, frz_non, frz_bl, frz_int, frz_str, frz_ty, frz_tup, frz_lst, frz_dct, ixD, at?, lenD, small, ownsAt, noOwn, slotNot, Wk.get, Wk.slot, tsl, tsls, clear, restore, isMut, mutAt, mtmut, mtop, sliceD, augop, pinned, big62, walkD, intF, absF, ordF, tupF, allF, maxF, minF, dvmF, findD, splitD, joinD, hp, e3]
theorem s_pot {k : Nat} {ns : List Int} : ∃ p, Pot p ∧ callN fs (k + 1) 37 [.lst false (ns.map .int), .int 0] = some (p, [none, none]) := by
  obtain ⟨p, e, h1, h2⟩ := pot_core (C := ⟨callN fs k, []⟩) (ns := ns) (c0 := 19709) (c00 := 21101) (m1 := 2147483549) (c1 := 17957) (c2 := 18181) (c3 := 907) (m2 := 2147483563) (by omega) (by omega) (by omega) (by simp)
  refine ⟨p, h1, call_of (f := f__law_pot) rfl ?_⟩
  rw [b__law_pot]
  refine run_nx (e := [some (.lst false (ns.map .int)), some (.int 0), e]) ⟨rfl, by decide⟩ ?_ (by simp [finals, isOwn_lst, isOwn_int])
  exact h2
end K68

end
section
set_option Elab.async false
set_option linter.all false
set_option maxRecDepth 100000
set_option maxHeartbeats 2000000
/-! K29: the law's turns (the statements by split.py). -/
namespace K68
open PySem hiding Env Ctx
open Mp PySem.NumText
def L_1 : MS := MS.asg (MT.nm 1) (ME.call 37 (MEs.cons (ME.var 0) (MEs.cons (ME.k (D.int (0))) MEs.nil)))
def L_2 : MS := MS.asg (MT.nm 2) (ME.call 41 (MEs.cons (ME.var 1) (MEs.cons (ME.call 39 (MEs.cons (ME.var 1) (MEs.cons (ME.lst (MEs.cons (ME.k (D.int (2))) (MEs.cons (ME.k (D.int (8))) (MEs.cons (ME.k (D.int (30))) MEs.nil)))) MEs.nil))) MEs.nil)))
def L_3 : MS := MS.asg (MT.nm 3) (ME.lc (MT.tup (MTs.cons (MT.nm 18) (MTs.cons (MT.nm 19) MTs.nil))) (MI2.enum (ME.var 2)) MEs.nil (ME.call 34 (MEs.cons (ME.var 18) (MEs.cons (ME.var 19) MEs.nil))))
def L_4 : MS := MS.parT (MTs.cons (MT.nm 7) (MTs.cons (MT.nm 8) (MTs.cons (MT.nm 9) MTs.nil))) (MEs.cons (ME.call 35 (MEs.cons (ME.var 2) MEs.nil)) (MEs.cons (ME.lst MEs.nil) (MEs.cons (ME.k (D.int (0))) MEs.nil)))
def L_5t1 : MS := MS.asg (MT.nm 9) (ME.bin BOp.add (ME.var 9) (ME.bi BI.len (MEs.cons (ME.var 4) MEs.nil)))
def L_5t2 : MS := MS.exp (ME.meth MI.append (ME.var 8) (MEs.cons (ME.var 9) MEs.nil))
def L_5b : MSs := .cons L_5t1 (.cons L_5t2 .nil)
def L_5 : MS := .for (MT.nm 4) (MI2.seq (ME.var 3)) L_5b
def L_6 : MS := MS.ite (ME.cmp COp.ne (ME.var 7) (ME.meth MI.join (ME.k (D.str [])) (MEs.cons (ME.var 3) MEs.nil))) (MSs.cons (MS.ret (ME.k (D.bl false))) MSs.nil) MSs.nil
def L_7t1 : MS := MS.asg (MT.nm 10) (ME.call 38 (MEs.cons (ME.var 1) (MEs.cons (ME.bin BOp.add (ME.bi BI.len (MEs.cons (ME.var 7) MEs.nil)) (ME.k (D.int (1)))) MEs.nil)))
def L_7t2 : MS := MS.ite (ME.not (ME.call 42 (MEs.cons (ME.var 2) (MEs.cons (ME.bi BI.len (MEs.cons (ME.lc (MT.nm 20) (MI2.seq (ME.var 8)) (MEs.cons (ME.cmp COp.le (ME.var 20) (ME.var 10)) MEs.nil) (ME.var 20)) MEs.nil)) (MEs.cons (ME.slice (ME.var 7) ME.no (ME.var 10)) MEs.nil))))) (MSs.cons (MS.ret (ME.k (D.bl false))) MSs.nil) MSs.nil
def L_7t3 : MS := MS.asg (MT.nm 11) (ME.call 38 (MEs.cons (ME.var 1) (MEs.cons (ME.bi BI.len (MEs.cons (ME.var 7) MEs.nil)) MEs.nil)))
def L_7t4 : MS := MS.asg (MT.nm 12) (ME.call 39 (MEs.cons (ME.var 1) (MEs.cons (ME.lc (MT.nm 14) (MI2.seq (ME.k (D.str [48, 49, 50, 51, 52, 53, 54, 55, 56, 57, 32, 97, 98, 116, 102, 117, 110, 70, 105, 112, 99, 59, 45, 88, 126]))) (MEs.cons (ME.cmp COp.ne (ME.var 14) (ME.ix (ME.var 7) (ME.var 11))) MEs.nil) (ME.var 14)) MEs.nil)))
def L_7t5 : MS := MS.asg (MT.nm 13) (ME.bi BI.len (MEs.cons (ME.lc (MT.nm 20) (MI2.seq (ME.var 8)) (MEs.cons (ME.cmp COp.le (ME.var 20) (ME.var 11)) MEs.nil) (ME.var 20)) MEs.nil))
def L_7t6 : MS := MS.ite (ME.and (ME.cmp COp.ne (ME.ix (ME.var 7) (ME.var 11)) (ME.k (D.str [10]))) (ME.not (ME.call 42 (MEs.cons (ME.var 2) (MEs.cons (ME.var 13) (MEs.cons (ME.bin BOp.add (ME.bin BOp.add (ME.slice (ME.var 7) ME.no (ME.var 11)) (ME.var 12)) (ME.slice (ME.var 7) (ME.bin BOp.add (ME.var 11) (ME.k (D.int (1)))) ME.no)) MEs.nil)))))) (MSs.cons (MS.ret (ME.k (D.bl false))) MSs.nil) MSs.nil
def L_7t7 : MS := MS.asg (MT.tup (MTs.cons (MT.nm 16) (MTs.cons (MT.nm 17) MTs.nil))) (ME.call 36 (MEs.cons (ME.bin BOp.add (ME.slice (ME.var 7) ME.no (ME.var 11)) (ME.slice (ME.var 7) (ME.bin BOp.add (ME.var 11) (ME.k (D.int (1)))) ME.no)) MEs.nil))
def L_7t8 : MS := MS.ite (ME.or (ME.cmp COp.ne (ME.slice (ME.var 16) ME.no (ME.var 13)) (ME.slice (ME.var 2) ME.no (ME.var 13))) (ME.cmp COp.gt (ME.bi BI.len (MEs.cons (ME.var 16) MEs.nil)) (ME.var 13))) (MSs.cons (MS.ret (ME.k (D.bl false))) MSs.nil) MSs.nil
def L_7t9 : MS := MS.asg (MT.tup (MTs.cons (MT.nm 16) (MTs.cons (MT.nm 17) MTs.nil))) (ME.call 36 (MEs.cons (ME.bin BOp.add (ME.bin BOp.add (ME.slice (ME.var 7) ME.no (ME.var 11)) (ME.var 12)) (ME.slice (ME.var 7) (ME.var 11) ME.no)) MEs.nil))
def L_7t10 : MS := MS.ite (ME.cmp COp.ne (ME.slice (ME.var 16) ME.no (ME.var 13)) (ME.slice (ME.var 2) ME.no (ME.var 13))) (MSs.cons (MS.ret (ME.k (D.bl false))) MSs.nil) MSs.nil
def L_7b : MSs := .cons L_7t1 (.cons L_7t2 (.cons L_7t3 (.cons L_7t4 (.cons L_7t5 (.cons L_7t6 (.cons L_7t7 (.cons L_7t8 (.cons L_7t9 (.cons L_7t10 .nil)))))))))
def L_7 : MS := .for (MT.nm 5) (MI2.range1 (ME.k (D.int (12)))) L_7b
def L_8 : MS := MS.parT (MTs.cons (MT.nm 14) (MTs.cons (MT.nm 15) MTs.nil)) (MEs.cons (ME.call 38 (MEs.cons (ME.var 1) (MEs.cons (ME.bi BI.len (MEs.cons (ME.var 3) MEs.nil)) MEs.nil))) (MEs.cons (ME.call 38 (MEs.cons (ME.var 1) (MEs.cons (ME.bi BI.len (MEs.cons (ME.var 3) MEs.nil)) MEs.nil))) MEs.nil))
def L_9 : MS := MS.ite (ME.and (ME.cmp COp.ne (ME.var 14) (ME.var 15)) (ME.not (ME.call 42 (MEs.cons (ME.var 2) (MEs.cons (ME.bi BI.min (MEs.cons (ME.var 14) (MEs.cons (ME.var 15) MEs.nil))) (MEs.cons (ME.meth MI.join (ME.k (D.str [])) (MEs.cons (ME.lc (MT.tup (MTs.cons (MT.nm 18) (MTs.cons (MT.nm 4) MTs.nil))) (MI2.enum (ME.var 3)) MEs.nil (ME.ite (ME.cmp COp.eq (ME.var 18) (ME.var 14)) (ME.ix (ME.var 3) (ME.var 15)) (ME.ite (ME.cmp COp.eq (ME.var 18) (ME.var 15)) (ME.ix (ME.var 3) (ME.var 14)) (ME.var 4)))) MEs.nil)) MEs.nil)))))) (MSs.cons (MS.ret (ME.k (D.bl false))) MSs.nil) MSs.nil
def L_10 : MS := MS.ite (ME.or (ME.not (ME.call 42 (MEs.cons (ME.var 2) (MEs.cons (ME.bin BOp.add (ME.var 14) (ME.k (D.int (1)))) (MEs.cons (ME.meth MI.join (ME.k (D.str [])) (MEs.cons (ME.bin BOp.add (ME.slice (ME.var 3) ME.no (ME.bin BOp.add (ME.var 14) (ME.k (D.int (1))))) (ME.slice (ME.var 3) (ME.var 14) ME.no)) MEs.nil)) MEs.nil))))) (ME.not (ME.call 42 (MEs.cons (ME.var 2) (MEs.cons (ME.var 14) (MEs.cons (ME.meth MI.join (ME.k (D.str [])) (MEs.cons (ME.bin BOp.add (ME.slice (ME.var 3) ME.no (ME.var 14)) (ME.slice (ME.var 3) (ME.bin BOp.add (ME.var 14) (ME.k (D.int (1)))) ME.no)) MEs.nil)) MEs.nil)))))) (MSs.cons (MS.ret (ME.k (D.bl false))) MSs.nil) MSs.nil
def L_11 : MS := MS.asg (MT.nm 6) (ME.call 34 (MEs.cons (ME.bi BI.len (MEs.cons (ME.var 2) MEs.nil)) (MEs.cons (ME.tup (MEs.cons (ME.k (D.str [98, 101, 103, 117, 110])) (MEs.cons (ME.k (D.int (5))) MEs.nil))) MEs.nil)))
def L_12 : MS := MS.ite (ME.or (ME.not (ME.call 42 (MEs.cons (ME.var 2) (MEs.cons (ME.bi BI.len (MEs.cons (ME.var 2) MEs.nil)) (MEs.cons (ME.bin BOp.add (ME.var 7) (ME.var 6)) MEs.nil))))) (ME.not (ME.call 42 (MEs.cons (ME.var 2) (MEs.cons (ME.bi BI.len (MEs.cons (ME.var 2) MEs.nil)) (MEs.cons (ME.bin BOp.add (ME.bin BOp.add (ME.var 7) (ME.k (D.str [10]))) (ME.var 6)) MEs.nil)))))) (MSs.cons (MS.ret (ME.k (D.bl false))) MSs.nil) MSs.nil
def L_13 : MS := MS.ret (ME.and (ME.cmp COp.eq (ME.call 33 (MEs.cons (ME.k (D.str [])) MEs.nil)) (ME.k (D.int (1)))) (ME.cmp COp.eq (ME.call 36 (MEs.cons (ME.k (D.str [10])) MEs.nil)) (ME.tup (MEs.cons (ME.lst MEs.nil) (MEs.cons (ME.k (D.int (0))) MEs.nil)))))
theorem L_body : f_law = ⟨1, 21, .cons L_1 (.cons L_2 (.cons L_3 (.cons L_4 (.cons L_5 (.cons L_6 (.cons L_7 (.cons L_8 (.cons L_9 (.cons L_10 (.cons L_11 (.cons L_12 (.cons L_13 .nil))))))))))))⟩ := by rw [b_law]; rfl
def SIG : Txt := [48, 49, 50, 51, 52, 53, 54, 55, 56, 57, 32, 97, 98, 116, 102, 117, 110, 70, 105, 112, 99, 59, 45, 88, 126]
def intsL (l : List Nat) : List Mp.D := l.map fun (n : Nat) => Mp.D.int (n : Int)
def leOpt (v : Int) : Mp.D → Option Mp.D
  | .int i => if i ≤ v then some (.int i) else none
  | _ => none
theorem filter_le (p : Nat) : ∀ (l : List Nat), (intsL l).filterMap (leOpt (p : Int)) = intsL (l.filter fun e => decide (e ≤ p))
  | [] => rfl
  | x :: l => by
    have ih := filter_le p l
    unfold intsL at ih ⊢
    by_cases h : x ≤ p
    · have h2 : (x : Int) ≤ (p : Int) := by omega
      rw [List.map_cons, List.filterMap_cons_some (f := leOpt (p : Int)) (a := Mp.D.int (x : Int)) (b := .int (x : Int)) (if_pos h2), ih, List.filter_cons_of_pos (by simpa using h)]
      rfl
    · have h2 : ¬ (x : Int) ≤ (p : Int) := by omega
      rw [List.map_cons, List.filterMap_cons_none (f := leOpt (p : Int)) (a := Mp.D.int (x : Int)) (if_neg h2), ih, List.filter_cons_of_neg (by simpa using h)]
theorem op_count {C : Ctx} {v p : Nat} {l : List Nat} {env : Env} (hv : gt env v = some (.int (p : Int))) (hvn : v ≠ 20) (h8 : gt env 8 = some (.lst true (intsL l))) (hl : 20 < env.length) (h20 : env.set 20 none = env) (hp : 20 ∉ C.pins) (hll : l.length ≤ 16777216) :
    op C (.lc (.nm 20) (.seq (.var 8)) (.cons (.cmp .le (.var 20) (.var v)) .nil) (.var 20)) env = some (.val (.lst true (intsL (l.filter fun e => decide (e ≤ p)))), env) := by
  have g20 : gt env 20 = none := by rw [← h20]; simp [gt, hl]
  have ge : env[20]?.getD none = none := by
    simp only [gt] at g20
    rw [List.getElem?_eq_getElem hl] at g20 ⊢
    cases h : env[20] with
    | none => rfl
    | some d => rw [h] at g20; simp at g20
  have := op_lc (C := C) (t := .nm 20) (it := .seq (.var 8)) (cs := .cons (.cmp .le (.var 20) (.var v)) .nil) (e := .var 20) (env := env) (e1 := env) (e0 := env) (wk := .live 8) (ys := intsL l)
    (leOpt (p : Int)) (by simp [walk, op, h8, wkOf]) (by simp [noOwn, tsl, g20, slotNot, Wk.slot]) (by simpa [tsl, clear] using h20) (by simp [Wk.get, lstAt, h8]) (by simp [Wk.get, lstAt, h8]) (by
      intro x hx
      obtain ⟨n, hn, rfl⟩ := List.mem_map.mp hx
      have h1 : gt (env.set 20 (some (.int (n : Int)))) 20 = some (.int (n : Int)) := gt_set hl
      have h2 : gt (env.set 20 (some (.int (n : Int)))) v = some (.int (p : Int)) := by
        rw [← hv]
        simp [gt, List.getElem?_set_ne (Ne.symm hvn)]
      have h3 : (env.set 20 (some (.int (n : Int)))).set 20 none = env := by rw [List.set_set, h20]
      by_cases hle : (n : Int) ≤ (p : Int)
      · have hd : decide ((n : Int) ≤ (p : Int)) = true := decide_eq_true hle
        have hlo : leOpt (p : Int) (.int (n : Int)) = some (.int (n : Int)) := if_pos hle
        rw [hlo]
        simp only [lcB, asgn, setv, if_pos (And.intro hl hp), Option.bind_eq_bind, Option.bind_some, conds, op, h1, h2, Opd.get, cmpop, hd, truth, Opd.take, frz_int, List.set_set, tsl, clear, h20, if_true]
      · have hd : decide ((n : Int) ≤ (p : Int)) = false := decide_eq_false hle
        have hlo : leOpt (p : Int) (.int (n : Int)) = none := if_neg hle
        rw [hlo]
        simp only [lcB, asgn, setv, if_pos (And.intro hl hp), Option.bind_eq_bind, Option.bind_some, conds, op, h1, h2, Opd.get, cmpop, hd, truth, Opd.take, frz_int, List.set_set, tsl, clear, h20, if_true, Bool.false_eq_true, if_false]) (by
      rw [filter_le]
      unfold intsL
      rw [List.length_map]
      have := List.length_filter_le (fun e => decide (e ≤ p)) l
      omega)
  rw [filter_le] at this
  rw [this]
  have : restore env (tsl (.nm 20)) (clear (tsl (.nm 20)) env) = env := by simp only [tsl, clear, restore, ge, h20]
  rw [this]
def neOpt (c : Nat) : Mp.D → Option Mp.D
  | .str [d] => if d = c then none else some (.str [d])
  | _ => none
def chrs (l : Txt) : List Mp.D := l.map fun c => Mp.D.str [c]
theorem filter_ne (c : Nat) : ∀ (l : Txt), (chrs l).filterMap (neOpt c) = chrs (l.filter fun d => decide (d ≠ c))
  | [] => rfl
  | x :: l => by
    have ih := filter_ne c l
    unfold chrs at ih ⊢
    by_cases h : x = c
    · rw [List.map_cons, List.filterMap_cons_none (f := neOpt c) (a := Mp.D.str [x]) (if_pos h), ih, List.filter_cons_of_neg (by simpa using h)]
    · rw [List.map_cons, List.filterMap_cons_some (f := neOpt c) (a := Mp.D.str [x]) (b := .str [x]) (if_neg h), ih, List.filter_cons_of_pos (by simpa using h)]
      rfl
theorem op_signs {C : Ctx} {c : Nat} {sg : Txt} {env : Env} {T : Mp.D} {sp : Int} (h7 : gt env 7 = some T) (h11 : gt env 11 = some (.int sp)) (hix : ixD T (.int sp) = some (.str [c])) (hc : okT [c] = true) (hsg : ∀ d ∈ sg, okT [d] = true) (hl : 20 < env.length) (h14 : env.set 14 none = env) (hp : 14 ∉ C.pins) (hll : sg.length ≤ 16777216) :
    op C (.lc (.nm 14) (.seq (.k (.str sg))) (.cons (.cmp .ne (.var 14) (.ix (.var 7) (.var 11))) .nil) (.var 14)) env = some (.val (.lst true (chrs (sg.filter fun d => decide (d ≠ c)))), env) := by
  have hl' : 14 < env.length := by omega
  have g14 : gt env 14 = none := by rw [← h14]; simp [gt, hl']
  have ge : env[14]?.getD none = none := by
    simp only [gt] at g14
    rw [List.getElem?_eq_getElem hl'] at g14 ⊢
    cases h : env[14] with
    | none => rfl
    | some d => rw [h] at g14; simp at g14
  have := op_lc (C := C) (t := .nm 14) (it := .seq (.k (.str sg))) (cs := .cons (.cmp .ne (.var 14) (.ix (.var 7) (.var 11))) .nil) (e := .var 14) (env := env) (e1 := env) (e0 := env) (wk := .fix (chrs sg)) (ys := chrs sg)
    (neOpt c) (by simp [walk, op, wkOf, walkD, chrs]) (by simp [noOwn, tsl, g14, slotNot, Wk.slot]) (by simpa [tsl, clear] using h14) rfl rfl (by
      intro x hx
      obtain ⟨n, hn, rfl⟩ := List.mem_map.mp hx
      have h1 : gt (env.set 14 (some (.str [n]))) 14 = some (.str [n]) := gt_set hl'
      have h2 : gt (env.set 14 (some (.str [n]))) 7 = some T := by
        rw [← h7]
        simp [gt]
      have h3 : gt (env.set 14 (some (.str [n]))) 11 = some (.int sp) := by
        rw [← h11]
        simp [gt]
      have q := eqD_str (hsg n hn) hc
      by_cases hle : n = c
      · subst hle
        have hlo : neOpt n (.str [n]) = none := if_pos rfl
        simp at q
        rw [hlo]
        simp only [lcB, asgn, setv, if_pos (And.intro hl' hp), Option.bind_eq_bind, Option.bind_some, conds, op, h1, h2, h3, hix, Opd.get, cmpop, q, truth, Opd.take, frz_str, List.set_set, tsl, clear, h14, if_true, Bool.false_eq_true, if_false, Option.map_some, Bool.not_true]
      · have hlo : neOpt c (.str [n]) = some (.str [n]) := if_neg hle
        have hd : decide ([n] = [c]) = false := decide_eq_false (by simpa using hle)
        rw [hd] at q
        rw [hlo]
        simp only [lcB, asgn, setv, if_pos (And.intro hl' hp), Option.bind_eq_bind, Option.bind_some, conds, op, h1, h2, h3, hix, Opd.get, cmpop, q, truth, Opd.take, frz_str, List.set_set, tsl, clear, h14, if_true, Option.map_some, Bool.not_false]) (by
      rw [filter_ne]
      unfold chrs
      rw [List.length_map]
      have := List.length_filter_le (fun d => decide (d ≠ c)) sg
      omega)
  rw [filter_ne] at this
  rw [this]
  have : restore env (tsl (.nm 14)) (clear (tsl (.nm 14)) env) = env := by simp only [tsl, clear, restore, ge, h14]
  rw [this]
section
variable {cs : Calls} {S p R Lw T E : Mp.D} {o4 o5 o9 o10 o11 o12 o13 o16 o17 : Option Mp.D}
theorem t1 {l : Txt} {v : Int} {p' : Mp.D} (hl : l.length ≤ 200000) (ho : isOwn p = true) (h : cs 38 [p, .int ((l.length : Int) + 1)] = some (.int v, [some p', none])) : ex ⟨cs, []⟩ 1 L_7t1 [some S, some p, some R, some Lw, o4, o5, none, some (.str l), some E, o9, o10, o11, o12, o13, none, none, o16, o17, none, none, none] = some (.nx, [some S, some p', some R, some Lw, o4, o5, none, some (.str l), some E, o9, some (.int v), o11, o12, o13, none, none, o16, o17, none, none, none]) := by
  have h2 : l.length ≤ 16777216 := by omega
  simp [L_7t1, runD, exs, ex, retv, ev, tst, op, ops, opv, opt, conds, walk, wkOf, wkE, asgn, asgns, setv, setvs, gets, Opd.get, Opd.take, gt, lstAt, biop, bi1, bi2, isiD, isTys, isTy, tyname, finals, isOwn_non, isOwn_bl, isOwn_int, isOwn_str, isOwn_ty, isOwn_tup, isOwn_lst, isOwn_dct, isPlc, ownOnce, putBack, truth, cmpop, binop_addI, binop_addS, binop_addL, binop_addT, binop_sub, binop_mulR, binop_mod, binop_fdiv, negD, nonD, frz_non, frz_bl, frz_int, frz_str, frz_ty, frz_tup, frz_lst, frz_dct, ixD, at?, lenD, small, ownsAt, noOwn, slotNot, Wk.get, Wk.slot, tsl, tsls, clear, restore, isMut, mutAt, mtmut, mtop, sliceD, augop, pinned, big62, walkD, intF, absF, ordF, tupF, allF, maxF, minF, dvmF, findD, splitD, joinD, ho, h, h2]
theorem t2 {l : List Nat} {a n : Nat} {X : Txt} {rs : List Mp.D} (hll : l.length ≤ 100000) (hn : (l.filter fun e => decide (e ≤ a)).length = n) (hs : sliceD none (some (a : Int)) T = some (.str X)) (h : cs 42 [.lst true rs, .int (n : Int), .str X] = some (.bl true, [some (.lst true rs), none, none])) : ex ⟨cs, []⟩ 1 L_7t2 [some S, some p, some (.lst true rs), some Lw, o4, o5, none, some T, some (.lst true (intsL l)), o9, some (.int (a : Int)), o11, o12, o13, none, none, o16, o17, none, none, none] = some (.nx, [some S, some p, some (.lst true rs), some Lw, o4, o5, none, some T, some (.lst true (intsL l)), o9, some (.int (a : Int)), o11, o12, o13, none, none, o16, o17, none, none, none]) := by
  have lc := op_count (C := ⟨cs, []⟩) (v := 10) (p := a) (l := l) (env := [some S, some p, some (.lst true rs), some Lw, o4, o5, none, some T, some (.lst true (intsL l)), o9, some (.int (a : Int)), o11, o12, o13, none, none, o16, o17, none, none, none]) rfl (by decide) rfl (by simp) rfl (by simp) (by omega)
  have hlen : (intsL (l.filter fun e => decide (e ≤ a))).length = n := by unfold intsL; rw [List.length_map, hn]
  generalize intsL (l.filter fun e => decide (e ≤ a)) = W at lc hlen
  unfold L_7t2
  generalize (ME.lc (MT.nm 20) (MI2.seq (ME.var 8)) (MEs.cons (ME.cmp COp.le (ME.var 20) (ME.var 10)) MEs.nil) (ME.var 20)) = q at lc ⊢
  simp [runD, exs, ex, retv, ev, tst, op, ops, opv, opt, conds, walk, wkOf, wkE, asgn, asgns, setv, setvs, gets, Opd.get, Opd.take, gt, lstAt, biop, bi1, bi2, isiD, isTys, isTy, tyname, finals, isOwn_non, isOwn_bl, isOwn_int, isOwn_str, isOwn_ty, isOwn_tup, isOwn_lst, isOwn_dct, isPlc, ownOnce, putBack, truth, cmpop, binop_addI, binop_addS, binop_addL, binop_addT, binop_sub, binop_mulR, binop_mod, binop_fdiv, negD, nonD, frz_non, frz_bl, frz_int, frz_str, frz_ty, frz_tup, frz_lst, frz_dct, ixD, at?, lenD, small, ownsAt, noOwn, slotNot, Wk.get, Wk.slot, tsl, tsls, clear, restore, isMut, mutAt, mtmut, mtop, augop, pinned, big62, walkD, intF, absF, ordF, tupF, allF, maxF, minF, dvmF, findD, splitD, joinD, lc, hlen, hs, h]
theorem t3 {l : Txt} {v : Int} {p' : Mp.D} (hl : l.length ≤ 200000) (ho : isOwn p = true) (h : cs 38 [p, .int (l.length : Int)] = some (.int v, [some p', none])) : ex ⟨cs, []⟩ 1 L_7t3 [some S, some p, some R, some Lw, o4, o5, none, some (.str l), some E, o9, o10, o11, o12, o13, none, none, o16, o17, none, none, none] = some (.nx, [some S, some p', some R, some Lw, o4, o5, none, some (.str l), some E, o9, o10, some (.int v), o12, o13, none, none, o16, o17, none, none, none]) := by
  have h2 : l.length ≤ 16777216 := by omega
  simp [L_7t3, runD, exs, ex, retv, ev, tst, op, ops, opv, opt, conds, walk, wkOf, wkE, asgn, asgns, setv, setvs, gets, Opd.get, Opd.take, gt, lstAt, biop, bi1, bi2, isiD, isTys, isTy, tyname, finals, isOwn_non, isOwn_bl, isOwn_int, isOwn_str, isOwn_ty, isOwn_tup, isOwn_lst, isOwn_dct, isPlc, ownOnce, putBack, truth, cmpop, binop_addI, binop_addS, binop_addL, binop_addT, binop_sub, binop_mulR, binop_mod, binop_fdiv, negD, nonD, frz_non, frz_bl, frz_int, frz_str, frz_ty, frz_tup, frz_lst, frz_dct, ixD, at?, lenD, small, ownsAt, noOwn, slotNot, Wk.get, Wk.slot, tsl, tsls, clear, restore, isMut, mutAt, mtmut, mtop, sliceD, augop, pinned, big62, walkD, intF, absF, ordF, tupF, allF, maxF, minF, dvmF, findD, splitD, joinD, ho, h, h2]
theorem t4 {c s : Nat} {sp : Int} {p' : Mp.D} (ho : isOwn p = true) (hix : ixD T (.int sp) = some (.str [c])) (hc : okT [c] = true) (h : cs 39 [p, .lst true (chrs (SIG.filter fun d => decide (d ≠ c)))] = some (.str [s], [some p', some (.lst true (chrs (SIG.filter fun d => decide (d ≠ c))))])) : ex ⟨cs, []⟩ 1 L_7t4 [some S, some p, some R, some Lw, o4, o5, none, some T, some E, o9, o10, some (.int sp), o12, o13, none, none, o16, o17, none, none, none] = some (.nx, [some S, some p', some R, some Lw, o4, o5, none, some T, some E, o9, o10, some (.int sp), some (.str [s]), o13, none, none, o16, o17, none, none, none]) := by
  have lc := op_signs (C := ⟨cs, []⟩) (c := c) (sg := SIG) (env := [some S, some p, some R, some Lw, o4, o5, none, some T, some E, o9, o10, some (.int sp), o12, o13, none, none, o16, o17, none, none, none]) (T := T) (sp := sp) rfl rfl hix hc (by decide) (by simp) rfl (by simp) (by decide)
  generalize chrs (SIG.filter fun d => decide (d ≠ c)) = W at lc h
  have hL : L_7t4 = MS.asg (MT.nm 12) (ME.call 39 (MEs.cons (ME.var 1) (MEs.cons (.lc (.nm 14) (.seq (.k (.str SIG))) (.cons (.cmp .ne (.var 14) (.ix (.var 7) (.var 11))) .nil) (.var 14)) MEs.nil))) := rfl
  rw [hL]
  generalize (ME.lc (.nm 14) (.seq (.k (.str SIG))) (.cons (.cmp .ne (.var 14) (.ix (.var 7) (.var 11))) .nil) (.var 14)) = q at lc ⊢
  simp [runD, exs, ex, retv, ev, tst, op, ops, opv, opt, conds, walk, wkOf, wkE, asgn, asgns, setv, setvs, gets, Opd.get, Opd.take, gt, lstAt, biop, bi1, bi2, isiD, isTys, isTy, tyname, finals, isOwn_non, isOwn_bl, isOwn_int, isOwn_str, isOwn_ty, isOwn_tup, isOwn_lst, isOwn_dct, isPlc, ownOnce, putBack, truth, cmpop, binop_addI, binop_addS, binop_addL, binop_addT, binop_sub, binop_mulR, binop_mod, binop_fdiv, negD, nonD, frz_non, frz_bl, frz_int, frz_str, frz_ty, frz_tup, frz_lst, frz_dct, ixD, at?, lenD, small, ownsAt, noOwn, slotNot, Wk.get, Wk.slot, tsl, tsls, clear, restore, isMut, mutAt, mtmut, mtop, sliceD, augop, pinned, big62, walkD, intF, absF, ordF, tupF, allF, maxF, minF, dvmF, findD, splitD, joinD, lc, ho, h]
theorem t5 {l : List Nat} {a n : Nat} (hll : l.length ≤ 100000) (hn : (l.filter fun e => decide (e ≤ a)).length = n) : ex ⟨cs, []⟩ 1 L_7t5 [some S, some p, some R, some Lw, o4, o5, none, some T, some (.lst true (intsL l)), o9, o10, some (.int (a : Int)), o12, o13, none, none, o16, o17, none, none, none] = some (.nx, [some S, some p, some R, some Lw, o4, o5, none, some T, some (.lst true (intsL l)), o9, o10, some (.int (a : Int)), o12, some (.int (n : Int)), none, none, o16, o17, none, none, none]) := by
  have lc := op_count (C := ⟨cs, []⟩) (v := 11) (p := a) (l := l) (env := [some S, some p, some R, some Lw, o4, o5, none, some T, some (.lst true (intsL l)), o9, o10, some (.int (a : Int)), o12, o13, none, none, o16, o17, none, none, none]) rfl (by decide) rfl (by simp) rfl (by simp) (by omega)
  have hlen : (intsL (l.filter fun e => decide (e ≤ a))).length = n := by unfold intsL; rw [List.length_map, hn]
  generalize intsL (l.filter fun e => decide (e ≤ a)) = W at lc hlen
  unfold L_7t5
  generalize (ME.lc (MT.nm 20) (MI2.seq (ME.var 8)) (MEs.cons (ME.cmp COp.le (ME.var 20) (ME.var 11)) MEs.nil) (ME.var 20)) = q at lc ⊢
  simp [runD, exs, ex, retv, ev, tst, op, ops, opv, opt, conds, walk, wkOf, wkE, asgn, asgns, setv, setvs, gets, Opd.get, Opd.take, gt, lstAt, biop, bi1, bi2, isiD, isTys, isTy, tyname, finals, isOwn_non, isOwn_bl, isOwn_int, isOwn_str, isOwn_ty, isOwn_tup, isOwn_lst, isOwn_dct, isPlc, ownOnce, putBack, truth, cmpop, binop_addI, binop_addS, binop_addL, binop_addT, binop_sub, binop_mulR, binop_mod, binop_fdiv, negD, nonD, frz_non, frz_bl, frz_int, frz_str, frz_ty, frz_tup, frz_lst, frz_dct, ixD, at?, lenD, small, ownsAt, noOwn, slotNot, Wk.get, Wk.slot, tsl, tsls, clear, restore, isMut, mutAt, mtmut, mtop, sliceD, augop, pinned, big62, walkD, intF, absF, ordF, tupF, allF, maxF, minF, dvmF, findD, splitD, joinD, lc, hlen]
theorem t6 {c : Nat} {s : Txt} {sp n : Int} {AX YB U1 U2 : Txt} {rs : List Mp.D} (hix : ixD T (.int sp) = some (.str [c])) (hc : okT [c] = true) (s1 : sliceD none (some sp) T = some (.str AX)) (s2 : sliceD (some (sp + 1)) none T = some (.str YB)) (a1 : binop .add (.str AX) (.str s) = some (.str U1)) (a2 : binop .add (.str U1) (.str YB) = some (.str U2)) (h : c ≠ 10 → cs 42 [.lst true rs, .int n, .str U2] = some (.bl true, [some (.lst true rs), none, none])) : ex ⟨cs, []⟩ 1 L_7t6 [some S, some p, some (.lst true rs), some Lw, o4, o5, none, some T, some E, o9, o10, some (.int sp), some (.str s), some (.int n), none, none, o16, o17, none, none, none] = some (.nx, [some S, some p, some (.lst true rs), some Lw, o4, o5, none, some T, some E, o9, o10, some (.int sp), some (.str s), some (.int n), none, none, o16, o17, none, none, none]) := by
  have q := eqD_str (b := [10]) hc rfl
  by_cases h10 : c = 10
  · subst h10
    simp at q
    simp [L_7t6, runD, exs, ex, retv, ev, tst, op, ops, opv, opt, conds, walk, wkOf, wkE, asgn, asgns, setv, setvs, gets, Opd.get, Opd.take, gt, lstAt, biop, bi1, bi2, isiD, isTys, isTy, tyname, finals, isOwn_non, isOwn_bl, isOwn_int, isOwn_str, isOwn_ty, isOwn_tup, isOwn_lst, isOwn_dct, isPlc, ownOnce, putBack, truth, cmpop, binop_addI, binop_addL, binop_addT, binop_sub, binop_mulR, binop_mod, binop_fdiv, negD, nonD, frz_non, frz_bl, frz_int, frz_str, frz_ty, frz_tup, frz_lst, frz_dct, at?, lenD, small, ownsAt, noOwn, slotNot, Wk.get, Wk.slot, tsl, tsls, clear, restore, isMut, mutAt, mtmut, mtop, augop, pinned, big62, walkD, intF, absF, ordF, tupF, allF, maxF, minF, dvmF, findD, splitD, joinD, hix, q]
  · have h := h h10
    have hd : decide ([c] = [10]) = false := decide_eq_false (by simpa using h10)
    rw [hd] at q
    simp [L_7t6, runD, exs, ex, retv, ev, tst, op, ops, opv, opt, conds, walk, wkOf, wkE, asgn, asgns, setv, setvs, gets, Opd.get, Opd.take, gt, lstAt, biop, bi1, bi2, isiD, isTys, isTy, tyname, finals, isOwn_non, isOwn_bl, isOwn_int, isOwn_str, isOwn_ty, isOwn_tup, isOwn_lst, isOwn_dct, isPlc, ownOnce, putBack, truth, cmpop, binop_addI, binop_addL, binop_addT, binop_sub, binop_mulR, binop_mod, binop_fdiv, negD, nonD, frz_non, frz_bl, frz_int, frz_str, frz_ty, frz_tup, frz_lst, frz_dct, at?, lenD, small, ownsAt, noOwn, slotNot, Wk.get, Wk.slot, tsl, tsls, clear, restore, isMut, mutAt, mtmut, mtop, augop, pinned, big62, walkD, intF, absF, ordF, tupF, allF, maxF, minF, dvmF, findD, splitD, joinD, hix, q, s1, s2, a1, a2, h]
theorem t7 {sp a : Int} {AX YB U3 : Txt} {rs : List Mp.D} {o16 o17 : Option Mp.D} (s1 : sliceD none (some sp) T = some (.str AX)) (s2 : sliceD (some (sp + 1)) none T = some (.str YB)) (a3 : binop .add (.str AX) (.str YB) = some (.str U3)) (h : cs 36 [.str U3] = some (.tup [.lst false rs, .int a], [none])) : ex ⟨cs, []⟩ 1 L_7t7 [some S, some p, some R, some Lw, o4, o5, none, some T, some E, o9, o10, some (.int sp), o12, o13, none, none, o16, o17, none, none, none] = some (.nx, [some S, some p, some R, some Lw, o4, o5, none, some T, some E, o9, o10, some (.int sp), o12, o13, none, none, some (.lst false rs), some (.int a), none, none, none]) := by
  simp [L_7t7, runD, exs, ex, retv, ev, tst, op, ops, opv, opt, conds, walk, wkOf, wkE, asgn, asgns, setv, setvs, gets, Opd.get, Opd.take, gt, lstAt, biop, bi1, bi2, isiD, isTys, isTy, tyname, finals, isOwn_non, isOwn_bl, isOwn_int, isOwn_str, isOwn_ty, isOwn_tup, isOwn_lst, isOwn_dct, isPlc, ownOnce, putBack, truth, cmpop, binop_addI, binop_addL, binop_addT, binop_sub, binop_mulR, binop_mod, binop_fdiv, negD, nonD, frz_non, frz_bl, frz_int, frz_str, frz_ty, frz_tup, frz_lst, frz_dct, at?, lenD, small, ownsAt, noOwn, slotNot, Wk.get, Wk.slot, tsl, tsls, clear, restore, isMut, mutAt, mtmut, mtop, augop, pinned, big62, walkD, intF, absF, ordF, tupF, allF, maxF, minF, dvmF, findD, splitD, joinD, s1, s2, a3, h]
theorem t8 {n : Int} {rs qs us : List Mp.D} (s1 : sliceD none (some n) (.lst false qs) = some (.lst true us)) (s2 : sliceD none (some n) (.lst true rs) = some (.lst true us)) (he : eqD (.lst true us) (.lst true us) = some true) (hn : (qs.length : Int) = n) : ex ⟨cs, []⟩ 1 L_7t8 [some S, some p, some (.lst true rs), some Lw, o4, o5, none, some T, some E, o9, o10, o11, o12, some (.int n), none, none, some (.lst false qs), o17, none, none, none] = some (.nx, [some S, some p, some (.lst true rs), some Lw, o4, o5, none, some T, some E, o9, o10, o11, o12, some (.int n), none, none, some (.lst false qs), o17, none, none, none]) := by
  simp [L_7t8, runD, exs, ex, retv, ev, tst, op, ops, opv, opt, conds, walk, wkOf, wkE, asgn, asgns, setv, setvs, gets, Opd.get, Opd.take, gt, lstAt, biop, bi1, bi2, isiD, isTys, isTy, tyname, finals, isOwn_non, isOwn_bl, isOwn_int, isOwn_str, isOwn_ty, isOwn_tup, isOwn_lst, isOwn_dct, isPlc, ownOnce, putBack, truth, cmpop, binop_addI, binop_addS, binop_addL, binop_addT, binop_sub, binop_mulR, binop_mod, binop_fdiv, negD, nonD, frz_non, frz_bl, frz_int, frz_str, frz_ty, frz_tup, frz_lst, frz_dct, ixD, at?, lenD, small, ownsAt, noOwn, slotNot, Wk.get, Wk.slot, tsl, tsls, clear, restore, isMut, mutAt, mtmut, mtop, augop, pinned, big62, walkD, intF, absF, ordF, tupF, allF, maxF, minF, dvmF, findD, splitD, joinD, s1, s2, he, hn]
theorem t9 {s : Txt} {sp a : Int} {AX YB U1 U4 : Txt} {rs : List Mp.D} {o16 o17 : Option Mp.D} (s1 : sliceD none (some sp) T = some (.str AX)) (s2 : sliceD (some sp) none T = some (.str YB)) (a1 : binop .add (.str AX) (.str s) = some (.str U1)) (a2 : binop .add (.str U1) (.str YB) = some (.str U4)) (h : cs 36 [.str U4] = some (.tup [.lst false rs, .int a], [none])) : ex ⟨cs, []⟩ 1 L_7t9 [some S, some p, some R, some Lw, o4, o5, none, some T, some E, o9, o10, some (.int sp), some (.str s), o13, none, none, o16, o17, none, none, none] = some (.nx, [some S, some p, some R, some Lw, o4, o5, none, some T, some E, o9, o10, some (.int sp), some (.str s), o13, none, none, some (.lst false rs), some (.int a), none, none, none]) := by
  simp [L_7t9, runD, exs, ex, retv, ev, tst, op, ops, opv, opt, conds, walk, wkOf, wkE, asgn, asgns, setv, setvs, gets, Opd.get, Opd.take, gt, lstAt, biop, bi1, bi2, isiD, isTys, isTy, tyname, finals, isOwn_non, isOwn_bl, isOwn_int, isOwn_str, isOwn_ty, isOwn_tup, isOwn_lst, isOwn_dct, isPlc, ownOnce, putBack, truth, cmpop, binop_addI, binop_addL, binop_addT, binop_sub, binop_mulR, binop_mod, binop_fdiv, negD, nonD, frz_non, frz_bl, frz_int, frz_str, frz_ty, frz_tup, frz_lst, frz_dct, at?, lenD, small, ownsAt, noOwn, slotNot, Wk.get, Wk.slot, tsl, tsls, clear, restore, isMut, mutAt, mtmut, mtop, augop, pinned, big62, walkD, intF, absF, ordF, tupF, allF, maxF, minF, dvmF, findD, splitD, joinD, s1, s2, a1, a2, h]
theorem t10 {n : Int} {rs qs us : List Mp.D} (s1 : sliceD none (some n) (.lst false qs) = some (.lst true us)) (s2 : sliceD none (some n) (.lst true rs) = some (.lst true us)) (he : eqD (.lst true us) (.lst true us) = some true) : ex ⟨cs, []⟩ 1 L_7t10 [some S, some p, some (.lst true rs), some Lw, o4, o5, none, some T, some E, o9, o10, o11, o12, some (.int n), none, none, some (.lst false qs), o17, none, none, none] = some (.nx, [some S, some p, some (.lst true rs), some Lw, o4, o5, none, some T, some E, o9, o10, o11, o12, some (.int n), none, none, some (.lst false qs), o17, none, none, none]) := by
  simp [L_7t10, runD, exs, ex, retv, ev, tst, op, ops, opv, opt, conds, walk, wkOf, wkE, asgn, asgns, setv, setvs, gets, Opd.get, Opd.take, gt, lstAt, biop, bi1, bi2, isiD, isTys, isTy, tyname, finals, isOwn_non, isOwn_bl, isOwn_int, isOwn_str, isOwn_ty, isOwn_tup, isOwn_lst, isOwn_dct, isPlc, ownOnce, putBack, truth, cmpop, binop_addI, binop_addS, binop_addL, binop_addT, binop_sub, binop_mulR, binop_mod, binop_fdiv, negD, nonD, frz_non, frz_bl, frz_int, frz_str, frz_ty, frz_tup, frz_lst, frz_dct, ixD, at?, lenD, small, ownsAt, noOwn, slotNot, Wk.get, Wk.slot, tsl, tsls, clear, restore, isMut, mutAt, mtmut, mtop, augop, pinned, big62, walkD, intF, absF, ordF, tupF, allF, maxF, minF, dvmF, findD, splitD, joinD, s1, s2, he]
end
end K68

end
section
set_option Elab.async false
set_option linter.all false
set_option maxRecDepth 100000
set_option maxHeartbeats 2000000
/-! K30: a turn of the law. -/
namespace K68
open PySem hiding Env Ctx
open Mp PySem.NumText
theorem ends_len : ∀ (ls : List Txt) (a : Nat), (endsOf a ls).length = ls.length
  | [], _ => rfl
  | l :: ls, a => by simp [endsOf, ends_len ls]
theorem right_of {k m : Nat} {rs : List Rec} {X rest : Txt} (hrs : ∀ x ∈ rs, x.ok) (hl : rs.length ≤ 10000) (hg : Good rs) (hm : m ≤ rs.length) (hX : X = jour 0 (rs.take m) ++ rest) (hs : Stop m (rs.take m) rest) (hc : ∀ c ∈ X, c ≤ 126) (ht : X.length ≤ 200000) : callN fs (k + 13) 42 [.lst true (rs.map Rec.d), .int (m : Int), .str X] = some (.bl true, [some (.lst true (rs.map Rec.d)), none, none]) := by
  subst hX
  exact s_law_is_right hrs hl hg hm hs (fun c h => hc c (List.mem_append.mpr (.inr h))) ht
theorem read_as {k m : Nat} {rs : List Rec} {X rest : Txt} (hrs : ∀ x ∈ rs, x.ok) (hl : rs.length ≤ 10000) (hg : Good rs) (hm : m ≤ rs.length) (hX : X = jour 0 (rs.take m) ++ rest) (hs : Stop m (rs.take m) rest) (hc : ∀ c ∈ X, c ≤ 126) (ht : X.length ≤ 200000) : callN fs (k + 13) 36 [.str X] = some (.tup [.lst false ((rs.take m).map Rec.d), .int ((jour 0 (rs.take m)).length : Int)], [none]) := by
  subst hX
  have hlq : (rs.take m).length = m := by simp; omega
  exact s_read_journal (k := k + 1) (fun x hx => hrs x (List.mem_of_mem_take hx)) (by omega) (good_take hg) (by rw [hlq]; exact hs) (fun c h => hc c (List.mem_append.mpr (.inr h))) ht
theorem stop_none {n : Nat} {rs : List Rec} {rest : Txt} (h : 10 ∉ rest) : Stop n rs rest := .inl h
theorem cut_right {k a : Nat} {rs : List Rec} (hrs : ∀ x ∈ rs, x.ok) (hl : rs.length ≤ 100) (hg : Good rs) (ha : a ≤ (jour 0 rs).length) : callN fs (k + 13) 42 [.lst true (rs.map Rec.d), .int (cnt a 0 (lines 0 rs) : Int), .str ((jour 0 rs).take a)] = some (.bl true, [some (.lst true (rs.map Rec.d)), none, none]) := by
  have hJ := jour_len (n := 0) hrs (by omega)
  have hcJ := jour_chr (n := 0) hrs
  have hc : ∀ c ∈ (jour 0 rs).take a, c ≤ 126 := fun c h => hcJ c (List.mem_of_mem_take h)
  have ht : ((jour 0 rs).take a).length ≤ 200000 := by rw [List.length_take]; omega
  by_cases h : a < (jour 0 rs).length
  · obtain ⟨hm, x, c, y, e1, e2, e3⟩ := locate rs 0 0 a (by omega) (by omega)
    refine right_of (rest := x) hrs (by omega) hg (by omega) ?_ (stop_none (pre_no10 (hrs _ (List.getElem_mem hm)) e1)) hc ht
    generalize cnt a 0 (lines 0 rs) = m at *
    have e4 : jour 0 rs = (jour 0 (rs.take m) ++ x) ++ (c :: y ++ jour (0 + m + 1) (rs.drop (m + 1))) := by
      rw [e2]; simp
    rw [e4, List.take_left' (by omega)]
  · have hall := cnt_all rs 0 0 a (by omega)
    rw [hall]
    refine right_of (rest := []) hrs (by omega) hg (by omega) ?_ (stop_none (by simp)) hc ht
    rw [List.take_length, List.take_of_length_le (by omega), List.append_nil]
theorem sig_ok : ∀ s ∈ SIG, 32 ≤ s ∧ s ≤ 126 := by decide
theorem pick_sign {k c : Nat} {p : Mp.D} (h : Pot p) : ∃ s p', Pot p' ∧ 32 ≤ s ∧ s ≤ 126 ∧ s ≠ c ∧ callN fs (k + 2) 39 [p, .lst true (chrs (SIG.filter fun d => decide (d ≠ c)))] = some (.str [s], [some p', some (.lst true (chrs (SIG.filter fun d => decide (d ≠ c))))]) := by
  have hlen : (chrs (SIG.filter fun d => decide (d ≠ c))).length = (SIG.filter fun d => decide (d ≠ c)).length := by unfold chrs; rw [List.length_map]
  have hpos : 0 < (SIG.filter fun d => decide (d ≠ c)).length := by
    by_cases h48 : 48 = c
    · exact List.length_pos_of_mem (a := 49) (List.mem_filter.mpr ⟨by decide, by rw [← h48]; decide⟩)
    · exact List.length_pos_of_mem (a := 48) (List.mem_filter.mpr ⟨by decide, by simpa using h48⟩)
  have hle : (SIG.filter fun d => decide (d ≠ c)).length ≤ 25 := List.length_filter_le _ SIG
  obtain ⟨i, hi, p', h1, h2⟩ := s_pick (k := k) (xs := chrs (SIG.filter fun d => decide (d ≠ c))) h (by omega)
  have hi' : i < (SIG.filter fun d => decide (d ≠ c)).length := by omega
  have hm := List.getElem_mem hi'
  obtain ⟨m1, m2⟩ := List.mem_filter.mp hm
  have e : (chrs (SIG.filter fun d => decide (d ≠ c)))[i] = .str [(SIG.filter fun d => decide (d ≠ c))[i]] := List.getElem_map (fun c => Mp.D.str [c])
  rw [e] at h2
  obtain ⟨r1, r2⟩ := sig_ok _ m1
  exact ⟨_, p', h1, r1, r2, by simpa using m2, h2⟩
theorem add_str {a b : Txt} (h : a.length + b.length ≤ 16777216) : binop .add (.str a) (.str b) = some (.str (a ++ b)) := by
  rw [binop_addS, if_pos h]
theorem turn {k : Nat} {rs : List Rec} {S p x : Mp.D} {o4 o5 o9 o10 o11 o12 o13 o16 o17 : Option Mp.D} {Lw : Mp.D} (hp : Pot p) (hrs : ∀ x ∈ rs, x.ok) (hl : rs.length ≤ 100) (hg : Good rs) (hne : rs ≠ []) :
    ∃ p' o10' o11' o12' o13' o16' o17', Pot p' ∧ forB ⟨callN fs (k + 13), []⟩ 1 (.nm 5) L_7b x [some S, some p, some (.lst true (rs.map Rec.d)), some Lw, o4, o5, none, some (.str (jour 0 rs)), some (.lst true (intsL (endsOf 0 (lines 0 rs)))), o9, o10, o11, o12, o13, none, none, o16, o17, none, none, none] = some (.nx, [some S, some p', some (.lst true (rs.map Rec.d)), some Lw, o4, some x, none, some (.str (jour 0 rs)), some (.lst true (intsL (endsOf 0 (lines 0 rs)))), o9, o10', o11', o12', o13', none, none, o16', o17', none, none, none]) := by
  have hJ := jour_len (n := 0) hrs (by omega)
  have hcJ := jour_chr (n := 0) hrs
  have hpos : 0 < (jour 0 rs).length := by
    obtain ⟨r, q, e⟩ := List.exists_cons_of_ne_nil hne
    rw [e, jour_cons]
    simp [line]
    omega
  have hE : (endsOf 0 (lines 0 rs)).length ≤ 100000 := by rw [ends_len, lines_len]; omega
  obtain ⟨v1, p1, g1, g2, g3, g4⟩ := s_draw (k := k + 12) (size := ((jour 0 rs).length : Int) + 1) hp (by omega)
  obtain ⟨a, rfl⟩ : ∃ a : Nat, v1 = (a : Int) := ⟨v1.toNat, by omega⟩
  have hR1 := cut_right (k := k) (a := a) hrs hl hg (by omega)
  have sl1 : sliceD none (some (a : Int)) (.str (jour 0 rs)) = some (.str ((jour 0 rs).take a)) := by
    have hs : small (jour 0 rs).length = true := by simp [small]; omega
    rw [sliceD_str, if_pos hs, cut_take]
  obtain ⟨v2, p2, h1, h2, h3, h4⟩ := s_draw (k := k + 12) (size := ((jour 0 rs).length : Int)) g1 (by omega)
  obtain ⟨b, rfl⟩ : ∃ b : Nat, v2 = (b : Int) := ⟨v2.toNat, by omega⟩
  obtain ⟨hm, x1, c, y, e1, e2, e3⟩ := locate rs 0 0 b (by omega) (by omega)
  have hcnt : ((endsOf 0 (lines 0 rs)).filter fun e => decide (e ≤ b)).length = cnt b 0 (lines 0 rs) := rfl
  have hcnt1 : ((endsOf 0 (lines 0 rs)).filter fun e => decide (e ≤ a)).length = cnt a 0 (lines 0 rs) := rfl
  generalize cnt b 0 (lines 0 rs) = m at *
  generalize cnt a 0 (lines 0 rs) = m1 at *
  have hmo := hrs _ (List.getElem_mem hm)
  have hlater : ∀ q ∈ rs.drop (m + 1), q.ok := fun q hq => hrs q (List.mem_of_mem_drop hq)
  simp only [Nat.zero_add] at e1 e2 e3
  generalize hA : jour 0 (rs.take m) = A at *
  generalize hB : jour (m + 1) (rs.drop (m + 1)) = B at *
  have eT : jour 0 rs = (A ++ x1) ++ (c :: (y ++ B)) := by rw [e2]; simp
  have eT2 : jour 0 rs = ((A ++ x1) ++ [c]) ++ (y ++ B) := by rw [e2]; simp
  have hlenT : (jour 0 rs).length = (A ++ x1).length + 1 + (y ++ B).length := by rw [eT]; simp; omega
  have hcm : ∀ d, d ∈ A ∨ d ∈ x1 ∨ d = c ∨ d ∈ y ∨ d ∈ B → d ≤ 126 := fun d hd => hcJ d (by
    rw [e2]; simp; rcases hd with h | h | h | h | h <;> simp [h])
  have hc126 : c ≤ 126 := hcm c (by simp)
  have okc : okT [c] = true := okT_of fun d hd => by rw [List.mem_singleton.mp hd]; exact hc126
  have hix : ixD (.str (jour 0 rs)) (.int (b : Int)) = some (.str [c]) := by
    have hs : small (jour 0 rs).length = true := by simp [small]; omega
    show (if small (jour 0 rs).length = true then (at? (jour 0 rs) (b : Int)).map fun c => Mp.D.str [c] else none) = _
    rw [if_pos hs]
    have : at? (jour 0 rs) (b : Int) = some c := by
      unfold at?
      rw [if_pos (by omega), Int.toNat_natCast, eT, List.getElem?_append_right (by omega), e3, Nat.sub_self]
      rfl
    rw [this]
    rfl
  have s1 : sliceD none (some (b : Int)) (.str (jour 0 rs)) = some (.str (A ++ x1)) := by
    rw [eT]; exact slice_pre (by omega) (by rw [← eT]; omega)
  have s2 : sliceD (some ((b : Int) + 1)) none (.str (jour 0 rs)) = some (.str (y ++ B)) := by
    rw [eT2]; exact slice_from (by simp at e3 ⊢; omega) (by rw [← eT2]; omega)
  have s3 : sliceD (some (b : Int)) none (.str (jour 0 rs)) = some (.str (c :: (y ++ B))) := by
    rw [eT]; exact slice_from (by omega) (by rw [← eT]; omega)
  obtain ⟨s, p3, q1, q2, q3, q4, q5⟩ := pick_sign (k := k + 11) (c := c) h1
  have hsr : 32 ≤ s ∧ s ≤ 126 := ⟨q2, q3⟩
  have a1 := add_str (a := A ++ x1) (b := [s]) (by simp at hlenT ⊢; omega)
  have a2 := add_str (a := (A ++ x1) ++ [s]) (b := y ++ B) (by simp at hlenT ⊢; omega)
  have a3 := add_str (a := A ++ x1) (b := y ++ B) (by simp at hlenT ⊢; omega)
  have a4 := add_str (a := (A ++ x1) ++ [s]) (b := c :: (y ++ B)) (by simp at hlenT ⊢; omega)
  have hmle : m ≤ rs.length := by omega
  have hR2 : c ≠ 10 → callN fs (k + 13) 42 [.lst true (rs.map Rec.d), .int (m : Int), .str (((A ++ x1) ++ [s]) ++ (y ++ B))] = some (.bl true, [some (.lst true (rs.map Rec.d)), none, none]) := fun hc10 => right_of (rest := x1 ++ s :: (y ++ B)) hrs (by omega) hg hmle (by rw [hA]; simp) (exch_stop hmo e1 hc10 q4 hsr) (by
    intro d hd
    simp at hd
    rcases hd with h | h | h | h | h
    · exact hcm d (by simp [h])
    · exact hcm d (by simp [h])
    · omega
    · exact hcm d (by simp [h])
    · exact hcm d (by simp [h])) (by simp at hlenT ⊢; omega)
  have hJ3 := read_as (k := k) (m := m) (X := (A ++ x1) ++ (y ++ B)) (rest := x1 ++ (y ++ B)) hrs (by omega) hg hmle (by rw [hA]; simp) (by rw [← hB]; exact del_stop hmo hlater e1) (by
    intro d hd
    simp at hd
    rcases hd with h | h | h | h
    · exact hcm d (by simp [h])
    · exact hcm d (by simp [h])
    · exact hcm d (by simp [h])
    · exact hcm d (by simp [h])) (by simp at hlenT ⊢; omega)
  have hJ4 := read_as (k := k) (m := m) (X := ((A ++ x1) ++ [s]) ++ (c :: (y ++ B))) (rest := x1 ++ s :: c :: (y ++ B)) hrs (by omega) hg hmle (by rw [hA]; simp) (ins_stop hmo e1 hsr) (by
    intro d hd
    simp at hd
    rcases hd with h | h | h | h | h | h
    · exact hcm d (by simp [h])
    · exact hcm d (by simp [h])
    · omega
    · exact hcm d (by simp [h])
    · exact hcm d (by simp [h])
    · exact hcm d (by simp [h])) (by simp at hlenT ⊢; omega)
  have hlq : (rs.take m).length = m := by simp; omega
  have u1 : sliceD none (some (m : Int)) (.lst false ((rs.take m).map Rec.d)) = some (.lst true ((rs.take m).map Rec.d)) := by
    rw [slice_take rfl, ← List.map_take, List.take_take, Nat.min_self]
  have u2 : sliceD none (some (m : Int)) (.lst true (rs.map Rec.d)) = some (.lst true ((rs.take m).map Rec.d)) := by
    rw [slice_take rfl, ← List.map_take]
  have u3 := eqD_lst (o := true) (o' := true) (okDs_mono (m := 63) (by decide) (recs_ok fun x hx => hrs x (List.mem_of_mem_take (i := m) hx)))
  have u4 : (((rs.take m).map Rec.d).length : Int) = (m : Int) := by rw [List.length_map, hlq]
  have hJle : (jour 0 rs).length ≤ 200000 := by omega
  generalize jour 0 rs = J at *
  generalize rs.map Rec.d = R at *
  generalize (rs.take m).map Rec.d = Q at *
  generalize endsOf 0 (lines 0 rs) = E at *
  refine ⟨p3, some (.int (a : Int)), some (.int (b : Int)), some (.str [s]), some (.int (m : Int)), some (.lst false Q), some (.int ((jour 0 (rs.take m)).length : Int)), q1, ?_⟩
  unfold forB
  have ha : asgn ⟨callN fs (k + 13), []⟩ (.nm 5) x [some S, some p, some (.lst true R), some Lw, o4, o5, none, some (.str J), some (.lst true (intsL E)), o9, o10, o11, o12, o13, none, none, o16, o17, none, none, none] = some [some S, some p, some (.lst true R), some Lw, o4, some x, none, some (.str J), some (.lst true (intsL E)), o9, o10, o11, o12, o13, none, none, o16, o17, none, none, none] := by simp [asgn, setv]
  rw [ha]
  simp only [Option.bind_eq_bind, Option.bind_some]
  unfold L_7b
  refine exs_nx (t1 hJle hp.own g4) ?_
  refine exs_nx (t2 hE hcnt1 sl1 hR1) ?_
  refine exs_nx (t3 hJle g1.own h4) ?_
  refine exs_nx (t4 h1.own hix okc q5) ?_
  refine exs_nx (t5 hE hcnt) ?_
  refine exs_nx (t6 hix okc s1 s2 a1 a2 hR2) ?_
  refine exs_nx (t7 s1 s2 a3 hJ3) ?_
  refine exs_nx (t8 u1 u2 u3 u4) ?_
  refine exs_nx (t9 s1 s3 a1 a4 hJ4) ?_
  exact exs_nx (t10 u1 u2 u3) rfl
end K68

end
section
set_option Elab.async false
set_option linter.all false
set_option maxRecDepth 100000
set_option maxHeartbeats 2000000
/-! K31: the law's other statements. -/
namespace K68
open PySem hiding Env Ctx
open Mp PySem.NumText
theorem cut_drop {α : Type} (xs : List α) (i : Nat) : cut xs (some (i : Int)) none = xs.drop i := by
  unfold cut
  have h1 : sIx xs.length xs.length none = xs.length := rfl
  rw [h1, sIx_nat]
  by_cases h : i ≤ xs.length
  · rw [Nat.min_eq_left h, List.take_of_length_le (by simp)]
  · rw [Nat.min_eq_right (by omega), List.drop_eq_nil_of_le (by omega), List.drop_eq_nil_of_le (by omega)]
    simp
theorem slice_drop {xs : List Mp.D} {o : Bool} {i : Nat} {a : Int} (ha : a = (i : Int)) : sliceD (some a) none (.lst o xs) = some (.lst true (xs.drop i)) := by
  subst ha
  show some (Mp.D.lst true (cut _ _ _)) = _
  rw [cut_drop]
theorem flat_bound : ∀ {zs : List Txt}, (∀ z ∈ zs, z.length ≤ 612 ∧ ∀ c ∈ z, c ≤ 126) → zs.flatten.length ≤ 612 * zs.length ∧ ∀ c ∈ zs.flatten, c ≤ 126
  | [], _ => ⟨by simp, by simp⟩
  | z :: zs, h => by
    obtain ⟨h1, h2⟩ := h z List.mem_cons_self
    obtain ⟨h3, h4⟩ := flat_bound (zs := zs) fun y hy => h y (List.mem_cons_of_mem _ hy)
    refine ⟨?_, ?_⟩
    · rw [List.flatten_cons, List.length_append, List.length_cons]; omega
    · intro c hc
      rw [List.flatten_cons] at hc
      rcases List.mem_append.mp hc with hc | hc
      · exact h2 c hc
      · exact h4 c hc
theorem lines_each {rs : List Rec} (hrs : ∀ x ∈ rs, x.ok) (hl : rs.length ≤ 100) : ∀ z ∈ lines 0 rs, z.length ≤ 612 ∧ ∀ c ∈ z, c ≤ 126 := by
  intro z hz
  obtain ⟨i, hi, rfl⟩ := List.getElem_of_mem hz
  have hi' : i < rs.length := by rw [lines_len] at hi; exact hi
  rw [lines_get 0 rs i hi']
  exact ⟨line_len (hrs _ (List.getElem_mem hi')) (by omega), line_chr (hrs _ (List.getElem_mem hi'))⟩
theorem lines_take : ∀ (n : Nat) (rs : List Rec) (i : Nat), lines n (rs.take i) = (lines n rs).take i
  | n, [], i => by simp [lines]
  | n, r :: rs, 0 => rfl
  | n, r :: rs, i + 1 => by simp [lines, lines_take (n + 1) rs i]
def swapL (a b : Nat) (ls : List Txt) : List Txt := (ls.set a (ls.getD b [])).set b (ls.getD a [])
theorem swap_len {a b : Nat} {ls : List Txt} : (swapL a b ls).length = ls.length := by simp [swapL]
theorem swap_get {a b i : Nat} {ls : List Txt} (hi : i < ls.length) (ha : a < ls.length) (hb : b < ls.length) : (swapL a b ls)[i]'(by rw [swap_len]; exact hi) = if i = b then ls[a] else if i = a then ls[b] else ls[i] := by
  have ga : ls.getD a [] = ls[a] := by simp [List.getD, ha]
  have gb : ls.getD b [] = ls[b] := by simp [List.getD, hb]
  unfold swapL
  simp only [List.getElem_set, ga, gb]
  by_cases h1 : i = b
  · subst h1; simp
  · by_cases h2 : i = a
    · subst h2; simp [h1, Ne.symm h1]
    · simp [h1, h2, Ne.symm h1, Ne.symm h2]
theorem swap_text {rs : List Rec} {a b : Nat} (ha : a < rs.length) (hb : b < rs.length) (hab : a ≠ b) (hrs : ∀ x ∈ rs, x.ok) : ∃ rest, (swapL a b (lines 0 rs)).flatten = jour 0 (rs.take (min a b)) ++ rest ∧ Stop (min a b) (rs.take (min a b)) rest := by
  have hla : a < (lines 0 rs).length := by rw [lines_len]; exact ha
  have hlb : b < (lines 0 rs).length := by rw [lines_len]; exact hb
  have hmin : min a b < (lines 0 rs).length := by omega
  have hmin' : min a b < (swapL a b (lines 0 rs)).length := by rw [swap_len]; exact hmin
  have htk : (swapL a b (lines 0 rs)).take (min a b) = (lines 0 rs).take (min a b) := by
    apply List.ext_getElem
    · simp [swap_len]
    · intro i h1 h2
      simp [swap_len] at h1
      rw [List.getElem_take, List.getElem_take, swap_get (by omega) hla hlb, if_neg (by omega), if_neg (by omega)]
  have hget : (swapL a b (lines 0 rs))[min a b] = line (max a b) (rs[max a b]'(by omega)) := by
    rw [swap_get hmin hla hlb]
    by_cases h : a < b
    · have e1 : min a b = a := by omega
      have e2 : max a b = b := by omega
      simp only [e1, e2, if_neg hab, if_true]
      rw [lines_get 0 rs b hb, Nat.zero_add]
    · have e1 : min a b = b := by omega
      have e2 : max a b = a := by omega
      simp only [e1, e2, if_true]
      rw [lines_get 0 rs a ha, Nat.zero_add]
  refine ⟨line (max a b) (rs[max a b]'(by omega)) ++ ((swapL a b (lines 0 rs)).drop (min a b + 1)).flatten, ?_, ?_⟩
  · have e := List.take_append_drop (min a b) (swapL a b (lines 0 rs))
    rw [List.drop_eq_getElem_cons hmin', htk, hget] at e
    refine (congrArg List.flatten e).symm.trans ?_
    rw [List.flatten_append, List.flatten_cons]
    unfold jour
    rw [lines_take]
  · exact num_stop (hrs _ (List.getElem_mem (by omega))) (by omega) _
theorem twice_text {rs : List Rec} {a : Nat} (ha : a < rs.length) (hrs : ∀ x ∈ rs, x.ok) : ∃ rest, ((lines 0 rs).take (a + 1) ++ (lines 0 rs).drop a).flatten = jour 0 (rs.take (a + 1)) ++ rest ∧ Stop (a + 1) (rs.take (a + 1)) rest := by
  have hla : a < (lines 0 rs).length := by rw [lines_len]; exact ha
  refine ⟨line a rs[a] ++ ((lines 0 rs).drop (a + 1)).flatten, ?_, num_stop (hrs _ (List.getElem_mem ha)) (by omega) _⟩
  rw [List.flatten_append, List.drop_eq_getElem_cons hla, List.flatten_cons, lines_get 0 rs a ha, Nat.zero_add]
  unfold jour
  rw [lines_take]
theorem left_text {rs : List Rec} {a : Nat} (ha : a < rs.length) (hrs : ∀ x ∈ rs, x.ok) : ∃ rest, ((lines 0 rs).take a ++ (lines 0 rs).drop (a + 1)).flatten = jour 0 (rs.take a) ++ rest ∧ Stop a (rs.take a) rest := by
  refine ⟨((lines 0 rs).drop (a + 1)).flatten, ?_, ?_⟩
  · rw [List.flatten_append]
    unfold jour
    rw [lines_take]
  · by_cases h : a + 1 < rs.length
    · have hla : a + 1 < (lines 0 rs).length := by rw [lines_len]; exact h
      rw [List.drop_eq_getElem_cons hla, List.flatten_cons, lines_get 0 rs (a + 1) h, Nat.zero_add]
      exact num_stop (hrs _ (List.getElem_mem h)) (by omega) _
    · rw [List.drop_eq_nil_of_le (by rw [lines_len]; omega)]
      exact stop_none (by simp)
/-- the text of a list of lines -/
theorem list_right {k m : Nat} {rs : List Rec} {zs : List Txt} (hrs : ∀ x ∈ rs, x.ok) (hl : rs.length ≤ 100) (hg : Good rs) (hm : m ≤ rs.length) (hz : ∀ z ∈ zs, z ∈ lines 0 rs) (hzl : zs.length ≤ 250) (h : ∃ rest, zs.flatten = jour 0 (rs.take m) ++ rest ∧ Stop m (rs.take m) rest) :
    joinD (.str []) (.lst true (zs.map Mp.D.str)) = some zs.flatten ∧ callN fs (k + 13) 42 [.lst true (rs.map Rec.d), .int (m : Int), .str zs.flatten] = some (.bl true, [some (.lst true (rs.map Rec.d)), none, none]) := by
  obtain ⟨rest, e, hs⟩ := h
  obtain ⟨b1, b2⟩ := flat_bound fun z h => lines_each hrs hl z (hz z h)
  refine ⟨?_, right_of hrs (by omega) hg hm e hs b2 (by omega)⟩
  have hj := joinD_str (s := []) (o := true) (ps := zs) (by
    rw [flat_sum, List.length_nil]
    omega)
  rw [joinT_nil] at hj
  exact hj
end K68

end
section
set_option Elab.async false
set_option linter.all false
set_option maxRecDepth 100000
set_option maxHeartbeats 2000000
/-! K32: the law is true. -/
namespace K68
open PySem hiding Env Ctx
open Mp PySem.NumText
section
variable {cs : Calls} {S p R Lw T E : Mp.D} {o4 o5 o9 o10 o11 o12 o13 o16 o17 : Option Mp.D}
theorem l1 {ns : List Int} (h : cs 37 [.lst false (ns.map .int), .int 0] = some (p, [none, none])) : ex ⟨cs, []⟩ 1 L_1 [some (.lst false (ns.map .int)), none, none, none, none, none, none, none, none, none, none, none, none, none, none, none, none, none, none, none, none] = some (.nx, [some (.lst false (ns.map .int)), some p, none, none, none, none, none, none, none, none, none, none, none, none, none, none, none, none, none, none, none]) := by
  generalize ns.map Mp.D.int = N at h ⊢
  simp [L_1, runD, exs, ex, retv, ev, tst, op, ops, opv, opt, conds, walk, wkOf, wkE, asgn, asgns, setv, setvs, gets, Opd.get, Opd.take, gt, lstAt, biop, bi1, bi2, isiD, isTys, isTy, tyname, finals, isOwn_non, isOwn_bl, isOwn_int, isOwn_str, isOwn_ty, isOwn_tup, isOwn_lst, isOwn_dct, isPlc, ownOnce, putBack, truth, cmpop, binop_addI, binop_addS, binop_addL, binop_addT, binop_sub, binop_mulR, binop_mod, binop_fdiv, negD, nonD, frz_non, frz_bl, frz_int, frz_str, frz_ty, frz_tup, frz_lst, frz_dct, ixD, at?, lenD, small, ownsAt, noOwn, slotNot, Wk.get, Wk.slot, tsl, tsls, clear, restore, isMut, mutAt, mtmut, mtop, sliceD, augop, pinned, big62, walkD, intF, absF, ordF, tupF, allF, maxF, minF, dvmF, findD, splitD, joinD, h]
theorem l2 {v : Int} {rs : List Mp.D} {p1 p2 : Mp.D} {o : Option Mp.D} (o0 : isOwn p = true) (o1 : isOwn p1 = true) (h1 : cs 39 [p, .lst true [.int 2, .int 8, .int 30]] = some (.int v, [some p1, o])) (h2 : cs 41 [p1, .int v] = some (.lst true rs, [some p2, none])) : ex ⟨cs, []⟩ 1 L_2 [some S, some p, none, none, none, none, none, none, none, none, none, none, none, none, none, none, none, none, none, none, none] = some (.nx, [some S, some p2, some (.lst true rs), none, none, none, none, none, none, none, none, none, none, none, none, none, none, none, none, none, none]) := by
  simp [L_2, runD, exs, ex, retv, ev, tst, op, ops, opv, opt, conds, walk, wkOf, wkE, asgn, asgns, setv, setvs, gets, Opd.get, Opd.take, gt, lstAt, biop, bi1, bi2, isiD, isTys, isTy, tyname, finals, isOwn_non, isOwn_bl, isOwn_int, isOwn_str, isOwn_ty, isOwn_tup, isOwn_lst, isOwn_dct, isPlc, ownOnce, putBack, truth, cmpop, binop_addI, binop_addS, binop_addL, binop_addT, binop_sub, binop_mulR, binop_mod, binop_fdiv, negD, nonD, frz_non, frz_bl, frz_int, frz_str, frz_ty, frz_tup, frz_lst, frz_dct, ixD, at?, lenD, small, ownsAt, noOwn, slotNot, Wk.get, Wk.slot, tsl, tsls, clear, restore, isMut, mutAt, mtmut, mtop, sliceD, augop, pinned, big62, walkD, intF, absF, ordF, tupF, allF, maxF, minF, dvmF, findD, splitD, joinD, o0, o1, h1, h2]
theorem l3 {k : Nat} {rs : List Rec} (hrs : ∀ x ∈ rs, x.ok) (hl : rs.length ≤ 10000) : ex ⟨callN fs (k + 7), []⟩ 1 L_3 [some S, some p, some (.lst true (rs.map Rec.d)), none, none, none, none, none, none, none, none, none, none, none, none, none, none, none, none, none, none] = some (.nx, [some S, some p, some (.lst true (rs.map Rec.d)), some (.lst true ((lines 0 rs).map Mp.D.str)), none, none, none, none, none, none, none, none, none, none, none, none, none, none, none, none, none]) := by
  have lc := op_lines (k := k) (C := ⟨callN fs (k + 7), []⟩) (it := .enum (.var 2)) (a := 18) (b := 19) (wk := .liveE 2) (env := [some S, some p, some (.lst true (rs.map Rec.d)), none, none, none, none, none, none, none, none, none, none, none, none, none, none, none, none, none, none]) rfl hrs hl (by simp [walk, op, gt, wkE]) (by decide) (by simp) rfl rfl (by simp) (by simp) rfl (by simp [Wk.get, lstAt, gt])
  unfold L_3
  generalize (ME.lc (MT.tup (MTs.cons (MT.nm 18) (MTs.cons (MT.nm 19) MTs.nil))) (MI2.enum (ME.var 2)) MEs.nil (ME.call 34 (MEs.cons (ME.var 18) (MEs.cons (ME.var 19) MEs.nil)))) = q at lc ⊢
  simp [runD, exs, ex, retv, ev, tst, op, ops, opv, opt, conds, walk, wkOf, wkE, asgn, asgns, setv, setvs, gets, Opd.get, Opd.take, gt, lstAt, biop, bi1, bi2, isiD, isTys, isTy, tyname, finals, isOwn_non, isOwn_bl, isOwn_int, isOwn_str, isOwn_ty, isOwn_tup, isOwn_lst, isOwn_dct, isPlc, ownOnce, putBack, truth, cmpop, binop_addI, binop_addS, binop_addL, binop_addT, binop_sub, binop_mulR, binop_mod, binop_fdiv, negD, nonD, frz_non, frz_bl, frz_int, frz_str, frz_ty, frz_tup, frz_lst, frz_dct, ixD, at?, lenD, small, ownsAt, noOwn, slotNot, Wk.get, Wk.slot, tsl, tsls, clear, restore, isMut, mutAt, mtmut, mtop, sliceD, augop, pinned, big62, walkD, intF, absF, ordF, tupF, allF, maxF, minF, dvmF, findD, splitD, joinD, lc]
theorem l4 {rs : List Mp.D} {J : Txt} (h : cs 35 [.lst true rs] = some (.str J, [some (.lst true rs)])) : ex ⟨cs, []⟩ 1 L_4 [some S, some p, some (.lst true rs), some Lw, none, none, none, none, none, none, none, none, none, none, none, none, none, none, none, none, none] = some (.nx, [some S, some p, some (.lst true rs), some Lw, none, none, none, some (.str J), some (.lst true []), some (.int 0), none, none, none, none, none, none, none, none, none, none, none]) := by
  simp [L_4, runD, exs, ex, retv, ev, tst, op, ops, opv, opt, conds, walk, wkOf, wkE, asgn, asgns, setv, setvs, gets, Opd.get, Opd.take, gt, lstAt, biop, bi1, bi2, isiD, isTys, isTy, tyname, finals, isOwn_non, isOwn_bl, isOwn_int, isOwn_str, isOwn_ty, isOwn_tup, isOwn_lst, isOwn_dct, isPlc, ownOnce, putBack, truth, cmpop, binop_addI, binop_addS, binop_addL, binop_addT, binop_sub, binop_mulR, binop_mod, binop_fdiv, negD, nonD, frz_non, frz_bl, frz_int, frz_str, frz_ty, frz_tup, frz_lst, frz_dct, ixD, at?, lenD, small, ownsAt, noOwn, slotNot, Wk.get, Wk.slot, tsl, tsls, clear, restore, isMut, mutAt, mtmut, mtop, sliceD, augop, pinned, big62, walkD, intF, absF, ordF, tupF, allF, maxF, minF, dvmF, findD, splitD, joinD, h]
theorem l5t {l : Txt} {E : List Mp.D} {a : Int} {ls : List Mp.D} (hl : l.length ≤ 16777216) (hE : E.length < 16777216) : forB ⟨cs, [3]⟩ 1 (.nm 4) L_5b (.str l) [some S, some p, some R, some (.lst true ls), o4, none, none, some T, some (.lst true E), some (.int a), none, none, none, none, none, none, none, none, none, none, none] = some (.nx, [some S, some p, some R, some (.lst true ls), some (.str l), none, none, some T, some (.lst true (E ++ [.int (a + l.length)])), some (.int (a + l.length)), none, none, none, none, none, none, none, none, none, none, none]) := by
  simp [forB, L_5b, L_5t1, L_5t2, runD, exs, ex, retv, ev, tst, op, ops, opv, opt, conds, walk, wkOf, wkE, asgn, asgns, setv, setvs, gets, Opd.get, Opd.take, gt, lstAt, biop, bi1, bi2, isiD, isTys, isTy, tyname, finals, isOwn_non, isOwn_bl, isOwn_int, isOwn_str, isOwn_ty, isOwn_tup, isOwn_lst, isOwn_dct, isPlc, ownOnce, putBack, truth, cmpop, binop_addI, binop_addS, binop_addL, binop_addT, binop_sub, binop_mulR, binop_mod, binop_fdiv, negD, nonD, frz_non, frz_bl, frz_int, frz_str, frz_ty, frz_tup, frz_lst, frz_dct, ixD, at?, lenD, small, ownsAt, noOwn, slotNot, Wk.get, Wk.slot, tsl, tsls, clear, restore, isMut, mutAt, mtmut, mtop, sliceD, augop, pinned, big62, walkD, intF, absF, ordF, tupF, allF, maxF, minF, dvmF, findD, splitD, joinD, hl, hE]
theorem l5 {ls : List Txt} (hlen : ls.length ≤ 1000) (hz : ∀ z ∈ ls, z.length ≤ 612) : ∃ o4 o9, ex ⟨cs, []⟩ 1 L_5 [some S, some p, some R, some (.lst true (ls.map Mp.D.str)), none, none, none, some T, some (.lst true []), some (.int 0), none, none, none, none, none, none, none, none, none, none, none] = some (.nx, [some S, some p, some R, some (.lst true (ls.map Mp.D.str)), o4, none, none, some T, some (.lst true (intsL (endsOf 0 ls))), o9, none, none, none, none, none, none, none, none, none, none, none]) ∧ (∀ d, o4 = some d → isOwn d = false) := by
  obtain ⟨e, h1, o4, h2, rfl⟩ := ex_for_ind (C := ⟨cs, []⟩) (np := 1) (t := .nm 4) (it := .seq (.var 3)) (b := L_5b) (env := [some S, some p, some R, some (.lst true (ls.map Mp.D.str)), none, none, none, some T, some (.lst true []), some (.int 0), none, none, none, none, none, none, none, none, none, none, none]) (e1 := [some S, some p, some R, some (.lst true (ls.map Mp.D.str)), none, none, none, some T, some (.lst true []), some (.int 0), none, none, none, none, none, none, none, none, none, none, none]) (wk := .live 3)
    (fun i e => ∃ o4, (∀ d, o4 = some d → isOwn d = false) ∧ e = [some S, some p, some R, some (.lst true (ls.map Mp.D.str)), o4, none, none, some T, some (.lst true (intsL (endsOf 0 (ls.take i)))), some (.int ((ls.take i).flatten.length : Int)), none, none, none, none, none, none, none, none, none, none, none]) (ls.map Mp.D.str)
    (by simp [walk, op, gt, wkOf]) (by
      intro t env ⟨o4, _, he⟩
      subst he
      rfl) ⟨none, by simp, by simp [endsOf, intsL]⟩ (by
      intro i hi env ⟨o4, _, he⟩
      subst he
      have hi' : i < ls.length := by simpa using hi
      have hzi := hz ls[i] (List.getElem_mem hi')
      have ht := l5t (cs := cs) (S := S) (p := p) (R := R) (T := T) (o4 := o4) (l := ls[i]) (E := intsL (endsOf 0 (ls.take i))) (a := ((ls.take i).flatten.length : Int)) (ls := ls.map Mp.D.str) (by omega) (by unfold intsL; rw [List.length_map, ends_len]; simp; omega)
      have e1 : (ls.map Mp.D.str)[i] = .str ls[i] := List.getElem_map ..
      rw [e1]
      refine ⟨_, ht, some (.str ls[i]), by intro d hd; cases hd; rfl, ?_⟩
      have e2 : ls.take (i + 1) = ls.take i ++ [ls[i]] := by rw [List.take_succ_eq_append_getElem hi']
      have e3 : (ls.take (i + 1)).flatten.length = (ls.take i).flatten.length + ls[i].length := by
        rw [e2, List.flatten_append]; simp
      have e4 : intsL (endsOf 0 (ls.take (i + 1))) = intsL (endsOf 0 (ls.take i)) ++ [.int (((ls.take i).flatten.length : Int) + (ls[i].length : Int))] := by
        rw [e2, ends_snoc]
        unfold intsL
        rw [List.map_append, Nat.zero_add]
        simp
      rw [e4, e3]
      have e5 : (((ls.take i).flatten.length + ls[i].length : Nat) : Int) = ((ls.take i).flatten.length : Int) + (ls[i].length : Int) := by omega
      rw [e5])
  rw [List.length_map, List.take_length] at h1
  exact ⟨o4, _, h1, h2⟩
theorem l6 {J : Txt} {ls : List Mp.D} (hj : joinD (.str []) (.lst true ls) = some J) (he : eqD (.str J) (.str J) = some true) : ex ⟨cs, []⟩ 1 L_6 [some S, some p, some R, some (.lst true ls), o4, o5, none, some (.str J), some E, o9, none, none, none, none, none, none, none, none, none, none, none] = some (.nx, [some S, some p, some R, some (.lst true ls), o4, o5, none, some (.str J), some E, o9, none, none, none, none, none, none, none, none, none, none, none]) := by
  simp [L_6, runD, exs, ex, retv, ev, tst, op, ops, opv, opt, conds, walk, wkOf, wkE, asgn, asgns, setv, setvs, gets, Opd.get, Opd.take, gt, lstAt, biop, bi1, bi2, isiD, isTys, isTy, tyname, finals, isOwn_non, isOwn_bl, isOwn_int, isOwn_str, isOwn_ty, isOwn_tup, isOwn_lst, isOwn_dct, isPlc, ownOnce, putBack, truth, cmpop, binop_addI, binop_addS, binop_addL, binop_addT, binop_sub, binop_mulR, binop_mod, binop_fdiv, negD, nonD, frz_non, frz_bl, frz_int, frz_str, frz_ty, frz_tup, frz_lst, frz_dct, ixD, at?, lenD, small, ownsAt, noOwn, slotNot, Wk.get, Wk.slot, tsl, tsls, clear, restore, isMut, mutAt, mtmut, mtop, sliceD, augop, pinned, big62, walkD, intF, absF, ordF, tupF, allF, maxF, minF, dvmF, findD, splitD, hj, he]
theorem l8 {ls : List Mp.D} {v w : Int} {p1 p2 : Mp.D} (o0 : isOwn p = true) (o1 : isOwn p1 = true) (h1 : cs 38 [p, .int (ls.length : Int)] = some (.int v, [some p1, none])) (h2 : cs 38 [p1, .int (ls.length : Int)] = some (.int w, [some p2, none])) : ex ⟨cs, []⟩ 1 L_8 [some S, some p, some R, some (.lst true ls), o4, o5, none, some T, some E, o9, o10, o11, o12, o13, none, none, o16, o17, none, none, none] = some (.nx, [some S, some p2, some R, some (.lst true ls), o4, o5, none, some T, some E, o9, o10, o11, o12, o13, some (.int v), some (.int w), o16, o17, none, none, none]) := by
  simp [L_8, runD, exs, ex, retv, ev, tst, op, ops, opv, opt, conds, walk, wkOf, wkE, asgn, asgns, setv, setvs, gets, Opd.get, Opd.take, gt, lstAt, biop, bi1, bi2, isiD, isTys, isTy, tyname, finals, isOwn_non, isOwn_bl, isOwn_int, isOwn_str, isOwn_ty, isOwn_tup, isOwn_lst, isOwn_dct, isPlc, ownOnce, putBack, truth, cmpop, binop_addI, binop_addS, binop_addL, binop_addT, binop_sub, binop_mulR, binop_mod, binop_fdiv, negD, nonD, frz_non, frz_bl, frz_int, frz_str, frz_ty, frz_tup, frz_lst, frz_dct, ixD, at?, lenD, small, ownsAt, noOwn, slotNot, Wk.get, Wk.slot, tsl, tsls, clear, restore, isMut, mutAt, mtmut, mtop, sliceD, augop, pinned, big62, walkD, intF, absF, ordF, tupF, allF, maxF, minF, dvmF, findD, splitD, joinD, o0, o1, h1, h2]
theorem l11 {rs : List Mp.D} {W : Txt} {oa ob : Option Mp.D} (h : cs 34 [.int (rs.length : Int), .tup [.str [98, 101, 103, 117, 110], .int 5]] = some (.str W, [none, none])) : ex ⟨cs, []⟩ 1 L_11 [some S, some p, some (.lst true rs), some Lw, o4, o5, none, some T, some E, o9, o10, o11, o12, o13, oa, ob, o16, o17, none, none, none] = some (.nx, [some S, some p, some (.lst true rs), some Lw, o4, o5, some (.str W), some T, some E, o9, o10, o11, o12, o13, oa, ob, o16, o17, none, none, none]) := by
  simp [L_11, runD, exs, ex, retv, ev, tst, op, ops, opv, opt, conds, walk, wkOf, wkE, asgn, asgns, setv, setvs, gets, Opd.get, Opd.take, gt, lstAt, biop, bi1, bi2, isiD, isTys, isTy, tyname, finals, isOwn_non, isOwn_bl, isOwn_int, isOwn_str, isOwn_ty, isOwn_tup, isOwn_lst, isOwn_dct, isPlc, ownOnce, putBack, truth, cmpop, binop_addI, binop_addS, binop_addL, binop_addT, binop_sub, binop_mulR, binop_mod, binop_fdiv, negD, nonD, frz_non, frz_bl, frz_int, frz_str, frz_ty, frz_tup, frz_lst, frz_dct, ixD, at?, lenD, small, ownsAt, noOwn, slotNot, Wk.get, Wk.slot, tsl, tsls, clear, restore, isMut, mutAt, mtmut, mtop, sliceD, augop, pinned, big62, walkD, intF, absF, ordF, tupF, allF, maxF, minF, dvmF, findD, splitD, joinD, h]
theorem l12 {rs : List Mp.D} {W J U1 U2 U3 : Txt} {oa ob : Option Mp.D} (a1 : binop .add (.str J) (.str W) = some (.str U1)) (a2 : binop .add (.str J) (.str [10]) = some (.str U2)) (a3 : binop .add (.str U2) (.str W) = some (.str U3)) (h1 : cs 42 [.lst true rs, .int (rs.length : Int), .str U1] = some (.bl true, [some (.lst true rs), none, none])) (h2 : cs 42 [.lst true rs, .int (rs.length : Int), .str U3] = some (.bl true, [some (.lst true rs), none, none])) : ex ⟨cs, []⟩ 1 L_12 [some S, some p, some (.lst true rs), some Lw, o4, o5, some (.str W), some (.str J), some E, o9, o10, o11, o12, o13, oa, ob, o16, o17, none, none, none] = some (.nx, [some S, some p, some (.lst true rs), some Lw, o4, o5, some (.str W), some (.str J), some E, o9, o10, o11, o12, o13, oa, ob, o16, o17, none, none, none]) := by
  simp [L_12, runD, exs, ex, retv, ev, tst, op, ops, opv, opt, conds, walk, wkOf, wkE, asgn, asgns, setv, setvs, gets, Opd.get, Opd.take, gt, lstAt, biop, bi1, bi2, isiD, isTys, isTy, tyname, finals, isOwn_non, isOwn_bl, isOwn_int, isOwn_str, isOwn_ty, isOwn_tup, isOwn_lst, isOwn_dct, isPlc, ownOnce, putBack, truth, cmpop, binop_addI, binop_addL, binop_addT, binop_sub, binop_mulR, binop_mod, binop_fdiv, negD, nonD, frz_non, frz_bl, frz_int, frz_str, frz_ty, frz_tup, frz_lst, frz_dct, ixD, at?, lenD, small, ownsAt, noOwn, slotNot, Wk.get, Wk.slot, tsl, tsls, clear, restore, isMut, mutAt, mtmut, mtop, sliceD, augop, pinned, big62, walkD, intF, absF, ordF, tupF, allF, maxF, minF, dvmF, findD, splitD, joinD, a1, a2, a3, h1, h2]
theorem l13 {env : Env} (h1 : cs 33 [.str []] = some (.int 1, [none])) (h2 : cs 36 [.str [10]] = some (.tup [.lst false [], .int 0], [none])) (he : eqD (.tup [.lst false [], .int 0]) (.tup [.lst false [], .int 0]) = some true) : ex ⟨cs, []⟩ 1 L_13 env = some (.ret (.bl true), env) := by
  simp [L_13, runD, exs, ex, retv, ev, tst, op, ops, opv, opt, conds, walk, wkOf, wkE, asgn, asgns, setv, setvs, gets, Opd.get, Opd.take, gt, lstAt, biop, bi1, bi2, isiD, isTys, isTy, tyname, finals, isOwn_non, isOwn_bl, isOwn_int, isOwn_str, isOwn_ty, isOwn_tup, isOwn_lst, isOwn_dct, isPlc, ownOnce, putBack, truth, cmpop, binop_addI, binop_addS, binop_addL, binop_addT, binop_sub, binop_mulR, binop_mod, binop_fdiv, negD, nonD, frz_non, frz_bl, frz_int, frz_str, frz_ty, frz_tup, frz_lst, frz_dct, ixD, at?, lenD, small, ownsAt, noOwn, slotNot, Wk.get, Wk.slot, tsl, tsls, clear, restore, isMut, mutAt, mtmut, mtop, sliceD, augop, pinned, big62, walkD, intF, absF, ordF, tupF, allF, maxF, minF, dvmF, findD, splitD, joinD, h1, h2, he, eqD_int]
theorem l10 {ls : List Mp.D} {rs A1 A2 B1 B2 C1 C2 : List Mp.D} {U1 U2 : Txt} {v : Int} {ob o6 : Option Mp.D} (s1 : sliceD none (some (v + 1)) (.lst true ls) = some (.lst true A1)) (s2 : sliceD (some v) none (.lst true ls) = some (.lst true A2)) (s3 : sliceD none (some v) (.lst true ls) = some (.lst true B1)) (s4 : sliceD (some (v + 1)) none (.lst true ls) = some (.lst true B2)) (a1 : binop .add (.lst true A1) (.lst true A2) = some (.lst true C1)) (a2 : binop .add (.lst true B1) (.lst true B2) = some (.lst true C2)) (j1 : joinD (.str []) (.lst true C1) = some U1) (j2 : joinD (.str []) (.lst true C2) = some U2) (h1 : cs 42 [.lst true rs, .int (v + 1), .str U1] = some (.bl true, [some (.lst true rs), none, none])) (h2 : cs 42 [.lst true rs, .int v, .str U2] = some (.bl true, [some (.lst true rs), none, none])) : ex ⟨cs, []⟩ 1 L_10 [some S, some p, some (.lst true rs), some (.lst true ls), o4, o5, o6, some T, some E, o9, o10, o11, o12, o13, some (.int v), ob, o16, o17, none, none, none] = some (.nx, [some S, some p, some (.lst true rs), some (.lst true ls), o4, o5, o6, some T, some E, o9, o10, o11, o12, o13, some (.int v), ob, o16, o17, none, none, none]) := by
  simp [L_10, runD, exs, ex, retv, ev, tst, op, ops, opv, opt, conds, walk, wkOf, wkE, asgn, asgns, setv, setvs, gets, Opd.get, Opd.take, gt, lstAt, biop, bi1, bi2, isiD, isTys, isTy, tyname, finals, isOwn_non, isOwn_bl, isOwn_int, isOwn_str, isOwn_ty, isOwn_tup, isOwn_lst, isOwn_dct, isPlc, ownOnce, putBack, truth, cmpop, binop_addI, binop_addS, binop_addT, binop_sub, binop_mulR, binop_mod, binop_fdiv, negD, nonD, frz_non, frz_bl, frz_int, frz_str, frz_ty, frz_tup, frz_lst, frz_dct, ixD, at?, lenD, small, ownsAt, noOwn, slotNot, Wk.get, Wk.slot, tsl, tsls, clear, restore, isMut, mutAt, mtmut, mtop, augop, pinned, big62, walkD, intF, absF, ordF, tupF, allF, maxF, minF, dvmF, findD, splitD, s1, s2, s3, s4, a1, a2, j1, j2, h1, h2]
end
end K68

end
section
set_option Elab.async false
set_option linter.all false
set_option maxRecDepth 100000
set_option maxHeartbeats 2000000
/-! K33: the law is true: all of it. -/
namespace K68
open PySem hiding Env Ctx
open Mp PySem.NumText
def LC9 : ME := .lc (.tup (.cons (.nm 18) (.cons (.nm 4) .nil))) (.enum (.var 3)) .nil (.ite (.cmp .eq (.var 18) (.var 14)) (.ix (.var 3) (.var 15)) (.ite (.cmp .eq (.var 18) (.var 15)) (.ix (.var 3) (.var 14)) (.var 4)))
section
variable {cs : Calls} {S p R Lw T E : Mp.D} {o4 o5 o9 o10 o11 o12 o13 o16 o17 : Option Mp.D}
theorem l9_lc {ls : List Txt} {a b : Nat} (ha : a < ls.length) (hb : b < ls.length) (hab : a ≠ b) (hl : ls.length ≤ 1000) (h4 : ∀ d, o4 = some d → isOwn d = false) : op ⟨cs, []⟩ LC9 [some S, some p, some R, some (.lst true (ls.map Mp.D.str)), o4, o5, none, some T, some E, o9, o10, o11, o12, o13, some (.int (a : Int)), some (.int (b : Int)), o16, o17, none, none, none] = some (.val (.lst true ((swapL a b ls).map Mp.D.str)), [some S, some p, some R, some (.lst true (ls.map Mp.D.str)), o4, o5, none, some T, some E, o9, o10, o11, o12, o13, some (.int (a : Int)), some (.int (b : Int)), o16, o17, none, none, none]) := by
  have xa : ixD (.lst true (ls.map Mp.D.str)) (.int (a : Int)) = some (.str ls[a]) := by
    show at? (ls.map Mp.D.str) (a : Int) = _
    unfold at?
    rw [if_pos (by omega), Int.toNat_natCast, List.getElem?_map, List.getElem?_eq_getElem ha]
    rfl
  have xb : ixD (.lst true (ls.map Mp.D.str)) (.int (b : Int)) = some (.str ls[b]) := by
    show at? (ls.map Mp.D.str) (b : Int) = _
    unfold at?
    rw [if_pos (by omega), Int.toNat_natCast, List.getElem?_map, List.getElem?_eq_getElem hb]
    rfl
  have hno : noOwn [some S, some p, some R, some (.lst true (ls.map Mp.D.str)), o4, o5, none, some T, some E, o9, o10, o11, o12, o13, some (.int (a : Int)), some (.int (b : Int)), o16, o17, none, none, none] [18, 4] = true := by
    cases o4 with
    | none => rfl
    | some d =>
      show (true && ((!isOwn d) && true)) = true
      rw [h4 d rfl]
      rfl
  have := op_lcI (C := ⟨cs, []⟩) (t := .tup (.cons (.nm 18) (.cons (.nm 4) .nil))) (it := .enum (.var 3)) (e := .ite (.cmp .eq (.var 18) (.var 14)) (.ix (.var 3) (.var 15)) (.ite (.cmp .eq (.var 18) (.var 15)) (.ix (.var 3) (.var 14)) (.var 4))) (wk := .liveE 3) (ys := enumd 0 (ls.map Mp.D.str)) (env := [some S, some p, some R, some (.lst true (ls.map Mp.D.str)), o4, o5, none, some T, some E, o9, o10, o11, o12, o13, some (.int (a : Int)), some (.int (b : Int)), o16, o17, none, none, none]) (e1 := [some S, some p, some R, some (.lst true (ls.map Mp.D.str)), o4, o5, none, some T, some E, o9, o10, o11, o12, o13, some (.int (a : Int)), some (.int (b : Int)), o16, o17, none, none, none]) (e0 := [some S, some p, some R, some (.lst true (ls.map Mp.D.str)), none, o5, none, some T, some E, o9, o10, o11, o12, o13, some (.int (a : Int)), some (.int (b : Int)), o16, o17, none, none, none])
    ((swapL a b ls).map Mp.D.str) (by simp [enumd_len, swap_len]) (by simp [walk, op, gt, wkE]) (by
      show (noOwn _ [18, 4] && slotNot (.liveE 3) [18, 4]) = true
      rw [hno]
      rfl) rfl (by simp [Wk.get, lstAt, gt]) (by simp [Wk.get, lstAt, gt]) (by
      intro i h
      rw [enumd_len, List.length_map] at h
      rw [enumd_get _ _ _ (by rw [List.length_map]; exact h)]
      have e1 : (ls.map Mp.D.str)[i]'(by rw [List.length_map]; exact h) = .str ls[i] := List.getElem_map ..
      have hz : (0 + (i : Int)) = (i : Int) := by omega
      rw [e1, hz, List.getElem_map, swap_get h ha hb]
      generalize ls.map Mp.D.str = Q at xa xb
      by_cases h1 : i = a
      · have h2 : i ≠ b := by omega
        rw [if_neg h2, if_pos h1]
        have d1 : eqD (.int (i : Int)) (.int (a : Int)) = some true := by rw [eqD_int, decide_eq_true (by omega)]
        simp [lcB, runD, exs, ex, retv, ev, tst, op, ops, opv, opt, conds, walk, wkOf, wkE, asgn, asgns, setv, setvs, gets, Opd.get, Opd.take, gt, lstAt, biop, bi1, bi2, isiD, isTys, isTy, tyname, finals, isOwn_non, isOwn_bl, isOwn_int, isOwn_str, isOwn_ty, isOwn_tup, isOwn_lst, isOwn_dct, isPlc, ownOnce, putBack, truth, cmpop, binop_addI, binop_addS, binop_addL, binop_addT, binop_sub, binop_mulR, binop_mod, binop_fdiv, negD, nonD, frz_non, frz_bl, frz_int, frz_str, frz_ty, frz_tup, frz_lst, frz_dct, at?, lenD, small, ownsAt, noOwn, slotNot, Wk.get, Wk.slot, tsl, tsls, clear, restore, isMut, mutAt, mtmut, mtop, sliceD, augop, pinned, big62, walkD, intF, absF, ordF, tupF, allF, maxF, minF, dvmF, findD, splitD, joinD, d1, xb]
      · have d1 : eqD (.int (i : Int)) (.int (a : Int)) = some false := by rw [eqD_int, decide_eq_false (by omega)]
        by_cases h2 : i = b
        · rw [if_pos h2]
          have d2 : eqD (.int (i : Int)) (.int (b : Int)) = some true := by rw [eqD_int, decide_eq_true (by omega)]
          simp [lcB, runD, exs, ex, retv, ev, tst, op, ops, opv, opt, conds, walk, wkOf, wkE, asgn, asgns, setv, setvs, gets, Opd.get, Opd.take, gt, lstAt, biop, bi1, bi2, isiD, isTys, isTy, tyname, finals, isOwn_non, isOwn_bl, isOwn_int, isOwn_str, isOwn_ty, isOwn_tup, isOwn_lst, isOwn_dct, isPlc, ownOnce, putBack, truth, cmpop, binop_addI, binop_addS, binop_addL, binop_addT, binop_sub, binop_mulR, binop_mod, binop_fdiv, negD, nonD, frz_non, frz_bl, frz_int, frz_str, frz_ty, frz_tup, frz_lst, frz_dct, at?, lenD, small, ownsAt, noOwn, slotNot, Wk.get, Wk.slot, tsl, tsls, clear, restore, isMut, mutAt, mtmut, mtop, sliceD, augop, pinned, big62, walkD, intF, absF, ordF, tupF, allF, maxF, minF, dvmF, findD, splitD, joinD, d1, d2, xa]
        · rw [if_neg h2, if_neg h1]
          have d2 : eqD (.int (i : Int)) (.int (b : Int)) = some false := by rw [eqD_int, decide_eq_false (by omega)]
          simp [lcB, runD, exs, ex, retv, ev, tst, op, ops, opv, opt, conds, walk, wkOf, wkE, asgn, asgns, setv, setvs, gets, Opd.get, Opd.take, gt, lstAt, biop, bi1, bi2, isiD, isTys, isTy, tyname, finals, isOwn_non, isOwn_bl, isOwn_int, isOwn_str, isOwn_ty, isOwn_tup, isOwn_lst, isOwn_dct, isPlc, ownOnce, putBack, truth, cmpop, binop_addI, binop_addS, binop_addL, binop_addT, binop_sub, binop_mulR, binop_mod, binop_fdiv, negD, nonD, frz_non, frz_bl, frz_int, frz_str, frz_ty, frz_tup, frz_lst, frz_dct, at?, lenD, small, ownsAt, noOwn, slotNot, Wk.get, Wk.slot, tsl, tsls, clear, restore, isMut, mutAt, mtmut, mtop, sliceD, augop, pinned, big62, walkD, intF, absF, ordF, tupF, allF, maxF, minF, dvmF, findD, splitD, joinD, d1, d2]) (by rw [enumd_len, List.length_map]; omega)
  exact this
theorem l9 {ls : List Txt} {rs : List Mp.D} {a b : Nat} {o6 : Option Mp.D} (ho6 : o6 = none) (ha : a < ls.length) (hb : b < ls.length) (hl : ls.length ≤ 1000) (h4 : ∀ d, o4 = some d → isOwn d = false) (h : a ≠ b → ∃ U, joinD (.str []) (.lst true ((swapL a b ls).map Mp.D.str)) = some U ∧ cs 42 [.lst true rs, .int ((min a b : Nat) : Int), .str U] = some (.bl true, [some (.lst true rs), none, none])) : ex ⟨cs, []⟩ 1 L_9 [some S, some p, some (.lst true rs), some (.lst true (ls.map Mp.D.str)), o4, o5, o6, some T, some E, o9, o10, o11, o12, o13, some (.int (a : Int)), some (.int (b : Int)), o16, o17, none, none, none] = some (.nx, [some S, some p, some (.lst true rs), some (.lst true (ls.map Mp.D.str)), o4, o5, o6, some T, some E, o9, o10, o11, o12, o13, some (.int (a : Int)), some (.int (b : Int)), o16, o17, none, none, none]) := by
  subst ho6
  have e : L_9 = MS.ite (ME.and (ME.cmp COp.ne (ME.var 14) (ME.var 15)) (ME.not (ME.call 42 (MEs.cons (ME.var 2) (MEs.cons (ME.bi BI.min (MEs.cons (ME.var 14) (MEs.cons (ME.var 15) MEs.nil))) (MEs.cons (ME.meth MI.join (ME.k (D.str [])) (MEs.cons LC9 MEs.nil)) MEs.nil)))))) (MSs.cons (MS.ret (ME.k (D.bl false))) MSs.nil) MSs.nil := rfl
  rw [e]
  by_cases hab : a = b
  · have d1 : eqD (.int (a : Int)) (.int (b : Int)) = some true := by rw [eqD_int, decide_eq_true (by omega)]
    generalize ls.map Mp.D.str = Q
    simp [runD, exs, ex, retv, ev, tst, op, ops, opv, opt, conds, walk, wkOf, wkE, asgn, asgns, setv, setvs, gets, Opd.get, Opd.take, gt, lstAt, biop, bi1, bi2, isiD, isTys, isTy, tyname, finals, isOwn_non, isOwn_bl, isOwn_int, isOwn_str, isOwn_ty, isOwn_tup, isOwn_lst, isOwn_dct, isPlc, ownOnce, putBack, truth, cmpop, binop_addI, binop_addS, binop_addL, binop_addT, binop_sub, binop_mulR, binop_mod, binop_fdiv, negD, nonD, frz_non, frz_bl, frz_int, frz_str, frz_ty, frz_tup, frz_lst, frz_dct, ixD, at?, lenD, small, ownsAt, noOwn, slotNot, Wk.get, Wk.slot, tsl, tsls, clear, restore, isMut, mutAt, mtmut, mtop, sliceD, augop, pinned, big62, walkD, intF, absF, ordF, tupF, allF, maxF, minF, dvmF, findD, splitD, joinD, d1]
  · have d1 : eqD (.int (a : Int)) (.int (b : Int)) = some false := by rw [eqD_int, decide_eq_false (by omega)]
    have lc := l9_lc (cs := cs) (S := S) (p := p) (R := .lst true rs) (T := T) (E := E) (o4 := o4) (o5 := o5) (o9 := o9) (o10 := o10) (o11 := o11) (o12 := o12) (o13 := o13) (o16 := o16) (o17 := o17) ha hb hab hl h4
    obtain ⟨U, h1, h2⟩ := h hab
    have mn : (if (b : Int) < (a : Int) then (b : Int) else (a : Int)) = ((min a b : Nat) : Int) := by
      by_cases hh : b < a
      · rw [if_pos (by omega)]; omega
      · rw [if_neg (by omega)]; omega
    have mnD : minF (.int (a : Int)) (.int (b : Int)) = some ((min a b : Nat) : Int) := by
      show some (if (b : Int) < (a : Int) then (b : Int) else (a : Int)) = _
      rw [mn]
    generalize LC9 = q at lc ⊢
    generalize (swapL a b ls).map Mp.D.str = W at lc h1
    generalize ls.map Mp.D.str = Q at lc
    generalize ((min a b : Nat) : Int) = mm at mnD h2
    simp [runD, exs, ex, retv, ev, tst, op, ops, opv, opt, conds, walk, wkOf, wkE, asgn, asgns, setv, setvs, gets, Opd.get, Opd.take, gt, lstAt, biop, bi1, bi2, isiD, isTys, isTy, tyname, finals, isOwn_non, isOwn_bl, isOwn_int, isOwn_str, isOwn_ty, isOwn_tup, isOwn_lst, isOwn_dct, isPlc, ownOnce, putBack, truth, cmpop, binop_addI, binop_addS, binop_addL, binop_addT, binop_sub, binop_mulR, binop_mod, binop_fdiv, negD, nonD, frz_non, frz_bl, frz_int, frz_str, frz_ty, frz_tup, frz_lst, frz_dct, ixD, at?, lenD, small, ownsAt, noOwn, slotNot, Wk.get, Wk.slot, tsl, tsls, clear, restore, isMut, mutAt, mtmut, mtop, sliceD, augop, pinned, big62, walkD, intF, absF, ordF, tupF, allF, maxF, dvmF, findD, splitD, d1, lc, mnD, h1, h2]
end
theorem lstr_small {A B : List Mp.D} (h : A.length + B.length ≤ 16777216) : binop .add (.lst true A) (.lst true B) = some (.lst true (A ++ B)) := by
  rw [binop_addL, if_pos h]
theorem law_true {k : Nat} (ns : List Int) : ∃ fin, callN fs (k + 14) 43 [.lst false (ns.map .int)] = some (.bl true, fin) := by
  obtain ⟨p0, g0, c37⟩ := s_pot (k := k + 12) (ns := ns)
  obtain ⟨i, hi, p1, g1, c39⟩ := s_pick (k := k + 11) (xs := [.int 2, .int 8, .int 30]) g0 (by simp)
  have hv : ∃ n : Nat, n ≤ 30 ∧ [Mp.D.int 2, .int 8, .int 30][i] = .int (n : Int) := by
    have hi' : i < 3 := hi
    match i, hi' with
    | 0, _ => exact ⟨2, by omega, rfl⟩
    | 1, _ => exact ⟨8, by omega, rfl⟩
    | 2, _ => exact ⟨30, by omega, rfl⟩
  obtain ⟨n, hn, ev⟩ := hv
  rw [ev] at c39
  obtain ⟨rs, p2, g2, hrs, hlen, hg, c41⟩ := s_records (k := k + 6) (n := n) g1 (by omega)
  have hl : rs.length ≤ 100 := by omega
  have hne : rs ≠ [] := fun e => by rw [e] at hlen; simp at hlen
  have c35 := s_journal_text (k := k + 4) (rs := rs) (o := true) hrs hg (by omega)
  simp only [fin1, if_true] at c35
  have hJ := jour_len (n := 0) hrs (by omega)
  have hcJ := jour_chr (n := 0) hrs
  have hle : ∀ z ∈ lines 0 rs, z.length ≤ 612 := fun z hz => (lines_each hrs hl z hz).1
  have hll : (lines 0 rs).length = rs.length := lines_len 0 rs
  obtain ⟨o4, o9, x5, h4⟩ := l5 (cs := callN fs (k + 13)) (S := .lst false (ns.map .int)) (p := p2) (R := .lst true (rs.map Rec.d)) (T := .str (jour 0 rs)) (ls := lines 0 rs) (by omega) hle
  have hj := joinD_str (s := []) (o := true) (ps := lines 0 rs) (by
    have e : ((lines 0 rs).map List.length).sum = (jour 0 rs).length := flat_sum _
    rw [e, List.length_nil]
    omega)
  rw [joinT_nil] at hj
  have hj : joinD (.str []) (.lst true ((lines 0 rs).map Mp.D.str)) = some (jour 0 rs) := hj
  have okJ : okT (jour 0 rs) = true := okT_of hcJ
  have eJ : eqD (.str (jour 0 rs)) (.str (jour 0 rs)) = some true := by rw [eqD_str okJ okJ]; simp
  have x6 := l6 (cs := callN fs (k + 13)) (S := .lst false (ns.map .int)) (p := p2) (R := .lst true (rs.map Rec.d)) (E := .lst true (intsL (endsOf 0 (lines 0 rs)))) (o4 := o4) (o5 := none) (o9 := o9) hj eJ
  obtain ⟨e7, x7, p3, o5, o10, o11, o12, o13, o16, o17, g3, rfl⟩ := ex_for_ind (C := ⟨callN fs (k + 13), []⟩) (np := 1) (t := .nm 5) (it := .range1 (.k (.int 12))) (b := L_7b) (env := [some (.lst false (ns.map .int)), some p2, some (.lst true (rs.map Rec.d)), some (.lst true ((lines 0 rs).map Mp.D.str)), o4, none, none, some (.str (jour 0 rs)), some (.lst true (intsL (endsOf 0 (lines 0 rs)))), o9, none, none, none, none, none, none, none, none, none, none, none]) (e1 := [some (.lst false (ns.map .int)), some p2, some (.lst true (rs.map Rec.d)), some (.lst true ((lines 0 rs).map Mp.D.str)), o4, none, none, some (.str (jour 0 rs)), some (.lst true (intsL (endsOf 0 (lines 0 rs)))), o9, none, none, none, none, none, none, none, none, none, none, none]) (wk := .fix (ranged 0 12))
    (fun i e => ∃ p o5 o10 o11 o12 o13 o16 o17, Pot p ∧ e = [some (.lst false (ns.map .int)), some p, some (.lst true (rs.map Rec.d)), some (.lst true ((lines 0 rs).map Mp.D.str)), o4, o5, none, some (.str (jour 0 rs)), some (.lst true (intsL (endsOf 0 (lines 0 rs)))), o9, o10, o11, o12, o13, none, none, o16, o17, none, none, none]) (ranged 0 12)
    (walk_range1 (p := .val (.int 12)) (j := 12) (by simp [op]) (by simp [Opd.get]) (by decide)) (fun _ _ _ => rfl) ⟨p2, none, none, none, none, none, none, none, g2, rfl⟩ (by
      intro i hi env ⟨p, o5, o10, o11, o12, o13, o16, o17, gp, he⟩
      subst he
      obtain ⟨p', q10, q11, q12, q13, q16, q17, gp', ht⟩ := turn (k := k) (rs := rs) (S := .lst false (ns.map .int)) (x := (ranged 0 12)[i]) (o4 := o4) (o5 := o5) (o9 := o9) (o10 := o10) (o11 := o11) (o12 := o12) (o13 := o13) (o16 := o16) (o17 := o17) (Lw := .lst true ((lines 0 rs).map Mp.D.str)) gp hrs hl hg hne
      exact ⟨_, ht, p', _, q10, q11, q12, q13, q16, q17, gp', rfl⟩)
  have hpos : 0 < rs.length := List.length_pos_iff.mpr hne
  have hlm : ((lines 0 rs).map Mp.D.str).length = rs.length := by rw [List.length_map, hll]
  obtain ⟨v, p4, g4, v1, v2, c38⟩ := s_draw (k := k + 12) (size := (((lines 0 rs).map Mp.D.str).length : Int)) g3 (by omega)
  obtain ⟨w, p5, g5, w1, w2, c38'⟩ := s_draw (k := k + 12) (size := (((lines 0 rs).map Mp.D.str).length : Int)) g4 (by omega)
  obtain ⟨a, rfl⟩ : ∃ a : Nat, v = (a : Int) := ⟨v.toNat, by omega⟩
  obtain ⟨b, rfl⟩ : ∃ b : Nat, w = (b : Int) := ⟨w.toNat, by omega⟩
  have ha : a < rs.length := by omega
  have hb : b < rs.length := by omega
  have hx9 : a ≠ b → ∃ U, joinD (.str []) (.lst true ((swapL a b (lines 0 rs)).map Mp.D.str)) = some U ∧ callN fs (k + 13) 42 [.lst true (rs.map Rec.d), .int ((min a b : Nat) : Int), .str U] = some (.bl true, [some (.lst true (rs.map Rec.d)), none, none]) := fun hab =>
    ⟨_, list_right (k := k) (m := min a b) hrs hl hg (by omega) (by
      intro z hz
      obtain ⟨i, hi, rfl⟩ := List.getElem_of_mem hz
      have hi' : i < (lines 0 rs).length := by rw [swap_len] at hi; exact hi
      rw [swap_get hi' (by omega) (by omega)]
      split
      · exact List.getElem_mem _
      · split
        · exact List.getElem_mem _
        · exact List.getElem_mem _) (by rw [swap_len]; omega) (swap_text ha hb hab hrs)⟩
  have x9 := l9 (cs := callN fs (k + 13)) (S := .lst false (ns.map .int)) (p := p5) (T := .str (jour 0 rs)) (E := .lst true (intsL (endsOf 0 (lines 0 rs)))) (o5 := o5) (o9 := o9) (o10 := o10) (o11 := o11) (o12 := o12) (o13 := o13) (o16 := o16) (o17 := o17) (o6 := none) (ls := lines 0 rs) (rs := rs.map Rec.d) rfl (by omega) (by omega) (by omega) h4 hx9
  have tw := list_right (k := k) (m := a + 1) (zs := (lines 0 rs).take (a + 1) ++ (lines 0 rs).drop a) hrs hl hg (by omega) (by
    intro z hz
    rcases List.mem_append.mp hz with h | h
    · exact List.mem_of_mem_take h
    · exact List.mem_of_mem_drop h) (by simp; omega) (twice_text ha hrs)
  have lf := list_right (k := k) (m := a) (zs := (lines 0 rs).take a ++ (lines 0 rs).drop (a + 1)) hrs hl hg (by omega) (by
    intro z hz
    rcases List.mem_append.mp hz with h | h
    · exact List.mem_of_mem_take h
    · exact List.mem_of_mem_drop h) (by simp; omega) (left_text ha hrs)
  rw [List.map_append, List.map_take, List.map_drop] at tw lf
  have e1 : ((a + 1 : Nat) : Int) = (a : Int) + 1 := by omega
  rw [e1] at tw
  have x10 := l10 (cs := callN fs (k + 13)) (S := .lst false (ns.map .int)) (p := p5) (T := .str (jour 0 rs)) (E := .lst true (intsL (endsOf 0 (lines 0 rs)))) (o4 := o4) (o5 := o5) (o9 := o9) (o10 := o10) (o11 := o11) (o12 := o12) (o13 := o13) (o16 := o16) (o17 := o17) (ob := some (.int (b : Int))) (o6 := none) (v := (a : Int)) (ls := (lines 0 rs).map Mp.D.str) (rs := rs.map Rec.d) (slice_take (i := a + 1) (by omega)) (slice_drop (i := a) rfl) (slice_take (i := a) rfl) (slice_drop (i := a + 1) (by omega)) (lstr_small (by simp; omega)) (lstr_small (by simp; omega)) tw.1 lf.1 tw.2 lf.2
  have hlr : (Rec.begun 5).ok := by show 5 < 1000000000000; omega
  have c34 := s_record_line (k := k + 6) (n := rs.length) (r := .begun 5) hlr (by omega)
  have hlm2 : (rs.map Rec.d).length = rs.length := List.length_map ..
  have c34' : callN fs (k + 13) 34 [.int ((rs.map Rec.d).length : Int), .tup [.str [98, 101, 103, 117, 110], .int 5]] = some (.str (line rs.length (.begun 5)), [none, none]) := by rw [hlm2]; exact c34
  have x11 := l11 (cs := callN fs (k + 13)) (S := .lst false (ns.map .int)) (p := p5) (Lw := .lst true ((lines 0 rs).map Mp.D.str)) (T := .str (jour 0 rs)) (E := .lst true (intsL (endsOf 0 (lines 0 rs)))) (o4 := o4) (o5 := o5) (o9 := o9) (o10 := o10) (o11 := o11) (o12 := o12) (o13 := o13) (o16 := o16) (o17 := o17) (oa := some (.int (a : Int))) (ob := some (.int (b : Int))) c34'
  have hW := line_len (n := rs.length) hlr (by omega)
  have hcW := line_chr (n := rs.length) hlr
  have htk : rs.take rs.length = rs := List.take_length
  have r1 := right_of (k := k) (m := rs.length) (X := jour 0 rs ++ line rs.length (.begun 5)) (rest := line rs.length (.begun 5)) hrs (by omega) hg (by omega) (by rw [htk]) (by rw [htk]; exact late_stop hne hlr rfl) (by
    intro c hc
    rcases List.mem_append.mp hc with h | h
    · exact hcJ c h
    · exact hcW c h) (by rw [List.length_append]; omega)
  have r2 := right_of (k := k) (m := rs.length) (X := (jour 0 rs ++ [10]) ++ line rs.length (.begun 5)) (rest := 10 :: line rs.length (.begun 5)) hrs (by omega) hg (by omega) (by rw [htk]; simp) (by rw [htk]; exact empty_stop _ _ _) (by
    intro c hc
    rcases List.mem_append.mp hc with h | h
    · rcases List.mem_append.mp h with h | h
      · exact hcJ c h
      · rw [List.mem_singleton.mp h]; omega
    · exact hcW c h) (by simp; omega)
  have r1' : callN fs (k + 13) 42 [.lst true (rs.map Rec.d), .int ((rs.map Rec.d).length : Int), .str (jour 0 rs ++ line rs.length (.begun 5))] = some (.bl true, [some (.lst true (rs.map Rec.d)), none, none]) := by rw [hlm2]; exact r1
  have r2' : callN fs (k + 13) 42 [.lst true (rs.map Rec.d), .int ((rs.map Rec.d).length : Int), .str ((jour 0 rs ++ [10]) ++ line rs.length (.begun 5))] = some (.bl true, [some (.lst true (rs.map Rec.d)), none, none]) := by rw [hlm2]; exact r2
  have x12 := l12 (cs := callN fs (k + 13)) (S := .lst false (ns.map .int)) (p := p5) (Lw := .lst true ((lines 0 rs).map Mp.D.str)) (E := .lst true (intsL (endsOf 0 (lines 0 rs)))) (o4 := o4) (o5 := o5) (o9 := o9) (o10 := o10) (o11 := o11) (o12 := o12) (o13 := o13) (o16 := o16) (o17 := o17) (oa := some (.int (a : Int))) (ob := some (.int (b : Int))) (add_str (by omega)) (add_str (a := jour 0 rs) (b := [10]) (by simp; omega)) (add_str (by simp; omega)) r1' r2'
  have c33 : callN fs (k + 13) 33 [.str []] = some (.int 1, [none]) := by
    have h := s_sum_of (k := k + 11) (t := []) (by simp)
    have e : sumV [] = 1 := by simp [sumV, sums]
    rw [e] at h
    exact h
  have c36 : callN fs (k + 13) 36 [.str [10]] = some (.tup [.lst false [], .int 0], [none]) :=
    s_read_journal (k := k + 1) (rs := []) (rest := [10]) (by simp) (by simp) (fun i hi => by simp at hi) (empty_stop 0 [] []) (by simp) (by simp [jour_nil])
  have e13 : eqD (.tup [.lst false [], .int 0]) (.tup [.lst false [], .int 0]) = some true := eqD_self (n := 5) (by decide) (by simp [K68.okD, okDs])
  refine ⟨[none], call_of (f := f_law) rfl ?_⟩
  rw [L_body]
  have how : ownsAt 0 [.lst false (ns.map .int)] = [] := by simp [ownsAt, isOwn_lst]
  refine run_nx (e := [some (.lst false (ns.map .int)), some p5, some (.lst true (rs.map Rec.d)), some (.lst true ((lines 0 rs).map Mp.D.str)), o4, o5, some (.str (line rs.length (.begun 5))), some (.str (jour 0 rs)), some (.lst true (intsL (endsOf 0 (lines 0 rs)))), o9, o10, o11, o12, o13, some (.int (a : Int)), some (.int (b : Int)), o16, o17, none, none, none]) ⟨rfl, by decide⟩ ?_ (by simp [finals, isOwn_lst])
  rw [how]
  refine exs_nx (l1 c37) ?_
  refine exs_nx (l2 g0.own g1.own c39 c41) ?_
  refine exs_nx (l3 (k := k + 6) hrs (by omega)) ?_
  refine exs_nx (l4 c35) ?_
  refine exs_nx x5 ?_
  refine exs_nx x6 ?_
  refine exs_nx x7 ?_
  refine exs_nx (l8 g3.own g4.own c38 c38') ?_
  refine exs_nx x9 ?_
  refine exs_nx x10 ?_
  refine exs_nx x11 ?_
  refine exs_nx x12 ?_
  exact exs_ret (l13 c33 c36 e13)
end K68

end
section
set_option Elab.async false
set_option linter.all false
/-! K34: the row. -/
namespace K68
open PySem hiding Env Ctx
open Mp
theorem main : Main := fun ns _ => law_true (k := 216) ns
end K68

end
theorem PySem.Challenge.cw_asktongue_k68_whole_journals_cut_and_spo_holds : PySem.Challenge.rw_asktongue_k68_whole_journals_cut_and_spo.Holds := by
  exact K68.holds K68.main
