import PyProof.Rows.All
import Wide.All
import OpenK.AllK
import Wide.FinOn
import HandS.ForMost
import HandS.Flow
import HandS.DictComp
import HandS.SetKeys
import HandS.Conv
import HandS.CallSlots
import HandS.Zip
import HandS.TupAny
import HandS.TupMul
import HandS.Wide
import HandS.Exc
import HandS.TryOnly
import HandS.WordsExc
import HandS.IsInst
import HandS.Walk
import KE.SortData
import KE.LtData
import KE.DatumOrd
import KE.KeyNested
import KE.KRevSl
import KE.KUnpack
import HandS.Zip0
import HandS.TupLen
import HandS.Star
import HandS.Small
import HandS.Style
import HandS.Head0
import HandS.Head1
import HandS.Head2
import HandS.HeadEnd
import HandS.HeadHook1
import HandS.HeadHook2
import HandS.HeadHook3
import HandS.HeadHook4
import HandS.HeadWalk
import PySem.Challenge.RW_arrowcounts_k06_whole_turned_drawings
section
set_option Elab.async false
set_option linter.all false
set_option autoImplicit true
/-! EvA: the evaluator: a small syntax without positions, values without a heap. -/
namespace Ev
open PySem (PyData Str Operator UnaryOp CmpOp)
open L2 (Key)

abbrev D := PyData
/-- a size that the model takes -/
abbrev big : Nat := 1000000

/-- what a slot may own: data that never change, a list, a dict of int or text keys (lk: being walked), a dict of tuple keys -/
inductive W where
  | d (x : D)
  | lst (ws : List W)
  | dct (lk : Bool) (kvs : List (Key × D))
  | dcn (kvs : List (PySem.NestedKey × D))
  | scr (xs : List D)

mutual
/-- frozen: the data -/
def W.frz : W → Option D
  | .d x => some x
  | .lst ws => (frzs ws).map PyData.list
  | .dct _ _ => none
  | .dcn _ => none
  | .scr _ => none
def frzs : List W → Option (List D)
  | [] => some []
  | w :: ws => match W.frz w with
    | some x => (frzs ws).map (x :: ·)
    | none => none
end
def W.at : W → List Nat → Option W
  | w, [] => some w
  | .lst ws, k :: sel => (ws[k]?).bind fun w => W.at w sel
  | _, _ :: _ => none
def W.put : W → List Nat → W → Option W
  | _, [], w' => some w'
  | .lst ws, k :: sel, w' => (ws[k]?).bind fun w => (W.put w sel w').map fun z => .lst (ws.set k z)
  | _, _ :: _, _ => none

inductive Slot where
  | no
  | ok (pin : Bool) (w : W)
  | lck
abbrev Env := List Slot
/-- an expression's answer: data, something new, a place -/
inductive R where
  | d (x : D)
  | own (w : W)
  | pth (i : Nat) (sel : List Nat)
/-- an exception: its class's number, its arguments -/
structure Exc where
  cls : Nat
  args : List D
inductive Res (α : Type) where
  | ok (a : α)
  | ex (x : Exc)
abbrev M (α : Type) := Env → Option (Res α × Env)
def bnd {α β : Type} (m : M α) (f : α → M β) : M β := fun env => match m env with
  | none => none
  | some (.ok a, e) => f a e
  | some (.ex x, e) => some (.ex x, e)
def ret {α : Type} (a : α) : M α := fun env => some (.ok a, env)
def lft {α : Type} (o : Option α) : M α := fun env => o.map fun a => (.ok a, env)

def toR : W → R
  | .d x => .d x
  | w => .own w
def look (env : Env) (i : Nat) (sel : List Nat) : Option W := match env[i]? with
  | some (.ok _ w) => w.at sel
  | _ => none
/-- what stands there, without a change -/
def see (env : Env) : R → Option W
  | .d x => some (.d x)
  | .own w => some w
  | .pth i sel => look env i sel
/-- a place's content becomes data -/
def frzAt (i : Nat) (sel : List Nat) : M D := fun env => match env[i]? with
  | some (.ok p w) => match w.at sel with
    | some w1 => match w1.frz with
      | some x => match w.put sel (.d x) with
        | some w' => some (.ok x, env.set i (.ok p w'))
        | none => none
      | none => none
    | none => none
  | _ => none
/-- as data -/
def dat : R → M D
  | .d x => ret x
  | .own w => lft w.frz
  | .pth i sel => frzAt i sel
/-- held while something else is asked -/
def settle : R → M R
  | .pth i (k :: sel) => bnd (frzAt i (k :: sel)) fun x => ret (.d x)
  | r => ret r
def toW : R → M W
  | .d x => ret (.d x)
  | .own w => ret w
  | .pth i sel => bnd (frzAt i sel) fun x => ret (.d x)
/-- data as it is -/
def plainR : R → M D
  | .d x => ret x
  | _ => fun _ => none
def seeM (r : R) : M W := fun env => (see env r).map fun w => (.ok w, env)

/-! ### operations by values -/
def allD : List W → Option (List D)
  | [] => some []
  | .d x :: ws => (allD ws).map (x :: ·)
  | _ :: _ => none
/-- a list's data -/
def seqD : W → Option (List D)
  | .d (.list xs) => some xs
  | .lst ws => allD ws
  | _ => none
def seqOrTup : W → Option (List D)
  | .d (.tuple xs) => some xs
  | w => seqD w
def mulOk (i j : Int) : Bool := decide (-(2 ^ 64) < i ∧ i < 2 ^ 64) || decide (-(2 ^ 64) < j ∧ j < 2 ^ 64)
def binI (o : Operator) (i j : Int) : Option Int := match o with
  | .Add => some (i + j)
  | .Sub => some (i - j)
  | .Mult => if mulOk i j = true then some (i * j) else none
  | .FloorDiv => if decide (j ≠ 0 ∧ j.natAbs < 1073741824) = true then some (i.fdiv j) else none
  | .Mod => if decide (j ≠ 0) = true then some (i.fmod j) else none
  | .Pow => if decide (0 ≤ j ∧ j ≤ 1000000 ∧ i.natAbs < 2 ^ 64) = true then some (i ^ j.toNat) else none
  | _ => none
def addL (xs ys : List D) : Option W := if xs.length + ys.length ≤ big then some (.lst ((xs ++ ys).map .d)) else none
def binop (o : Operator) (x y : W) : Option W := match x, y with
  | .d (.int i), .d (.int j) => (binI o i j).map fun k => .d (.int k)
  | .d (.str a), .d (.str b) => match o with
    | .Add => if a.length + b.length ≤ big then some (.d (.str (a ++ b))) else none
    | _ => none
  | .d (.tuple xs), .d (.tuple ys) => match o with
    | .Add => if xs.length + ys.length ≤ big then some (.d (.tuple (xs ++ ys))) else none
    | _ => none
  | .d (.tuple xs), .d (.int k) => match o with
    | .Mult => if xs ≠ [] ∧ 2 ≤ k ∧ k ≤ 1000 ∧ xs.length ≤ 1000 then some (.d (.tuple (List.replicate k.toNat xs).flatten)) else none
    | _ => none
  | x, .d (.int k) => match o, seqD x with
    | .Mult, some xs => if 0 ≤ k ∧ xs.length * k.toNat ≤ big ∧ k ≤ big then some (.lst ((List.replicate k.toNat xs).flatten.map .d)) else none
    | _, _ => none
  | x, y => match o, seqD x, seqD y with
    | .Add, some xs, some ys => addL xs ys
    | _, _, _ => none
def unop (o : UnaryOp) (x : W) : Option W := match o, x with
  | .USub, .d (.int i) => some (.d (.int (-i)))
  | _, _ => none
/-- tuple keys -/
def isTupD : D → Bool
  | .tuple _ => true
  | _ => false
mutual
def keyN : D → Option PySem.NestedKey
  | .none => some .none
  | .int i => some (.num i)
  | .str x => some (.text x)
  | .tuple xs => (keyNs xs).map .tup
  | _ => none
def keyNs : List D → Option (List PySem.NestedKey)
  | [] => some []
  | x :: xs => match keyN x with
    | some k => (keyNs xs).map (k :: ·)
    | none => none
end
def tupK (k : D) : Option PySem.NestedKey := if isTupD k = true then (keyN k).bind fun x => if x.depth ≤ 8 then some x else none else none
def setN (kvs : List (PySem.NestedKey × D)) (k : PySem.NestedKey) (v : D) : List (PySem.NestedKey × D) :=
  if (kvs.any fun kv => decide (kv.1 = k)) = true then kvs.map (fun kv => if kv.1 = k then (kv.1, v) else kv) else kvs ++ [(k, v)]
def getN (kvs : List (PySem.NestedKey × D)) (k : PySem.NestedKey) : Option D := (kvs.find? fun kv => decide (kv.1 = k)).map (·.2)
/-- truth -/
def tru : W → Option Bool
  | .d .none => some false
  | .d (.bool b) => some b
  | .d (.int i) => some (i != 0)
  | .d (.str s) => if s.length ≤ big then some ((s.length : Int) != 0) else none
  | .d (.tuple xs) => some (!xs.isEmpty)
  | .d (.list xs) => some (!xs.isEmpty)
  | .lst ws => some (!ws.isEmpty)
  | .dct false kvs => some (!kvs.isEmpty)
  | _ => none
/-- data that == may look at -/
def fair (x : D) : Bool := PySem.SeqAt.shaped x
def eqW (x y : W) : Option Bool := match x.frz, y.frz with
  | some a, some b => if fair a && fair b then some (PyData.eqv a b) else none
  | _, _ => none
/-- flat data: in by == -/
def flat : D → Bool
  | .none => true
  | .bool _ => true
  | .int _ => true
  | .str _ => true
  | _ => false
def keyD : D → Option Key
  | .int i => some (.inl i)
  | .str s => some (.inr s)
  | _ => none
def dKey : Key → D
  | .inl i => .int i
  | .inr s => .str s
def getK (kvs : List (Key × D)) (k : Key) : Option D := (kvs.find? fun kv => decide (kv.1 = k)).map (·.2)
def setK (kvs : List (Key × D)) (k : Key) (v : D) : List (Key × D) :=
  if (kvs.any fun kv => decide (kv.1 = k)) = true then kvs.map (fun kv => if kv.1 = k then (kv.1, v) else kv) else kvs ++ [(k, v)]
def inW (x : W) (y : W) : Option Bool := match y, x with
  | .d (.str t), .d (.str s) => some (!(PySem.Builtin.Str.occurrences t s 0 t.length 1).isEmpty)
  | .dct _ kvs, .d k => match keyD k with
    | some k => some (getK kvs k).isSome
    | none => if kvs.isEmpty = true then (tupK k).map fun _ => false else none
  | .dcn kvs, .d k => (tupK k).map fun k => (getN kvs k).isSome
  | y, .d x => match seqOrTup y with
    | some xs => if fair x && xs.all fair then some (xs.any fun z => PyData.eqv z x) else none
    | none => none
  | _, _ => none
def isNon : W → Bool
  | .d .none => true
  | _ => false
def cmpop (o : CmpOp) (x y : W) : Option Bool := match o with
  | .Eq => eqW x y
  | .NotEq => (eqW x y).map (!·)
  | .Lt => match x, y with
    | .d (.int i), .d (.int j) => some (decide (i < j))
    | _, _ => none
  | .LtE => match x, y with
    | .d (.int i), .d (.int j) => some (decide (i ≤ j))
    | _, _ => none
  | .Gt => match x, y with
    | .d (.int i), .d (.int j) => some (decide (j < i))
    | _, _ => none
  | .GtE => match x, y with
    | .d (.int i), .d (.int j) => some (decide (j ≤ i))
    | _, _ => none
  | .In => inW x y
  | .NotIn => (inW x y).map (!·)
  | .Is => match y with
    | .d .none => some (isNon x)
    | _ => none
  | .IsNot => match y with
    | .d .none => some (!isNon x)
    | _ => none
/-- o[i] -/
def idx (o : R) (ow : W) (iw : W) : Option R := match ow, iw with
  | .d (.tuple xs), .d (.int i) => (L2.atI xs i).map .d
  | .d (.list xs), .d (.int i) => (L2.atI xs i).map .d
  | .scr xs, .d (.int i) => (L2.atI xs i).map .d
  | .d (.str s), .d (.int i) => if s.length ≤ big then (L2.atI s.cps.toList i).map fun c => .d (.str ⟨#[c]⟩) else none
  | .lst ws, .d (.int i) => match L2.ixN ws.length i with
    | none => none
    | some k => match ws[k]? with
      | none => none
      | some (.d x) => some (.d x)
      | some w => match o with
        | .pth j sel => some (.pth j (sel ++ [k]))
        | _ => none
  | .dct _ kvs, .d k => match keyD k with
    | some k => (getK kvs k).map .d
    | none => none
  | .dcn kvs, .d k => match tupK k with
    | some k => (getN kvs k).map .d
    | none => none
  | _, _ => none
def cut {α : Type} (xs : List α) (lo hi : Option Int) : List α := (xs.drop (HT.sIx xs.length 0 lo)).take (HT.sIx xs.length xs.length hi - HT.sIx xs.length 0 lo)
def slc (ow : W) (lo hi : Option Int) : Option W := match ow with
  | .scr xs => some (.lst ((cut xs lo hi).map .d))
  | .d (.tuple xs) => some (.d (.tuple (cut xs lo hi)))
  | .d (.str s) => if s.length ≤ big then some (.d (.str (L2.cutS s lo hi))) else none
  | w => (seqD w).map fun xs => .lst ((cut xs lo hi).map .d)
/-- a[::-1] -/
def revW (ow : W) : Option W := match ow with
  | .d (.tuple xs) => some (.d (.tuple xs.reverse))
  | w => (seqD w).map fun xs => .lst (xs.reverse.map .d)
/-- what a for takes from it -/
def items : D → Option (List D)
  | .list xs => some xs
  | .tuple xs => some xs
  | .str s => some (s.cps.toList.map fun c => .str ⟨#[c]⟩)
  | _ => none
def rngD (lo : Int) (n : Nat) : List D := (List.range n).map fun (i : Nat) => PyData.int (lo + (i : Int))

/-! ### the syntax -/
inductive BI where
  | len | tuple | list | int | abs | max | min | sum | all | any | divmod | str | sorted
inductive MI where
  | append | extend | pop | setdefault | get
inductive E where
  | var (i : Nat) | cst (x : D) | glb (x : Str)
  | nil | cons (a b : E) | scons (a b : E) | tup (es : E) | lst (es : E)
  | bin (o : Operator) (a b : E) | un (o : UnaryOp) (a : E) | rev (a : E) | not (a : E) | and (a b : E) | or (a b : E)
  | cmp (o : CmpOp) (a b : E) | chn (o o' : CmpOp) (a b c : E) | ife (c a b : E)
  | idx (a i : E) | slc (a lo hi : E)
  | call (f : Nat) (es : E) | callk (f : Nat) (perm : List Nat) (es : E) | callv (i : Nat) (es : E)
  | bi (b : BI) (es : E) | isi (a : E) (ts : List String) | meth (m : MI) (o es : E)
  | lc (own : List Nat) (t it c elt : E) | lc2 (own own2 : List Nat) (t it c t2 it2 c2 elt : E) | dc (own : List Nat) (t it c k v : E) | dnew
  | itms (e : E) | rng (es : E) | enum (e : E) | zip (a b : E) | lrng (es : E) | sumL (e : E)
def E.isNil : E → Bool
  | .nil => true
  | _ => false
inductive S where
  | skip | seq (a b : S) | expr (e : E) | asg (t e : E) | par (ts es : E) | ife (c : E) (a b : S) | whl (c : E) (b : S) | for_ (t it : E) (b : S)
  | ret (e : E) | retN | raise (c : Nat) (es : E) | brk | cnt
/-- the names in a target -/
def E.names : E → List Nat
  | .var i => [i]
  | .tup es => es.names
  | .cons a b => a.names ++ b.names
  | _ => []
/-- the names that a statement may store -/
def S.names : S → List Nat
  | .seq a b => a.names ++ b.names
  | .asg t _ => t.names
  | .par ts _ => ts.names
  | .ife _ a b => a.names ++ b.names
  | .whl _ b => b.names
  | .for_ t _ b => t.names ++ b.names
  | _ => []
inductive Fl where
  | nx | rt (w : W) | bk | ct | ex (x : Exc)
/-- what the text around gives: calls, the module's constants -/
structure Tb where
  call : Nat → List (Bool × W) → Option (Res W × List W)
  glob : Str → Option D

def fnD (f : Nat) : D := .dict [(.str (PySem.Str.ofString "fn"), .int f)]
def fnOf : D → Option Nat
  | .dict [(.str s, .int i)] => if s = PySem.Str.ofString "fn" then some i.toNat else none
  | _ => none
def sole {α : Type} : List α → M α
  | [a] => ret a
  | _ => fun _ => none
def each {α β : Type} (f : α → M β) : List α → M (List β)
  | [] => ret []
  | a :: as => bnd (f a) fun b => bnd (each f as) fun bs => ret (b :: bs)
/-! ### calls: the arguments handed over, and back -/
def pass : List R → M (List (Bool × W))
  | [] => ret []
  | .d x :: rs => bnd (pass rs) fun ws => ret ((false, .d x) :: ws)
  | .own w :: rs => bnd (pass rs) fun ws => ret ((false, w) :: ws)
  | .pth i [] :: rs => fun env => match env[i]? with
    | some (.ok _ w) => bnd (pass rs) (fun ws => ret ((true, w) :: ws)) (env.set i .lck)
    | _ => none
  | .pth _ (_ :: _) :: _ => fun _ => none
def unpass (env0 : Env) : List R → List W → Env → Env
  | .pth i _ :: rs, w :: ws, env => match env0[i]? with
    | some (.ok p _) => unpass env0 rs ws (env.set i (.ok p w))
    | _ => unpass env0 rs ws env
  | _ :: rs, _ :: ws, env => unpass env0 rs ws env
  | _, _, env => env
def callR (T : Tb) (f : Nat) (rs : List R) : M R := fun env => match pass rs env with
  | some (.ok pws, e1) => match T.call f pws with
    | some (.ok w, ws) => some (.ok (toR w), unpass env rs ws e1)
    | some (.ex x, ws) => some (.ex x, unpass env rs ws e1)
    | none => none
  | _ => none
/-! ### builtins, methods by values -/
def allI : List D → Option (List Int)
  | [] => some []
  | .int i :: xs => (allI xs).map (i :: ·)
  | _ :: _ => none
def allB : List D → Option (List Bool)
  | [] => some []
  | .bool i :: xs => (allB xs).map (i :: ·)
  | _ :: _ => none
def allLs : List W → Option (List D)
  | [] => some []
  | w :: ws => match seqD w, allLs ws with
    | some xs, some ys => some (xs ++ ys)
    | _, _ => none
def allLd : List D → Option (List D)
  | [] => some []
  | .list xs :: ws => (allLd ws).map (xs ++ ·)
  | _ :: _ => none
/-- the lists in a list of lists, one behind the other: sum(xs, []) -/
def sumW : W → Option (List D)
  | .lst ws => allLs ws
  | .d (.list xs) => allLd xs
  | _ => none

def alikes (xs : List D) : Bool := xs.all fun x => xs.all fun y => PySem.W.alike x y
def tupNE : D → Bool
  | .tuple (_ :: _) => true
  | _ => false
/-- all tuples with an item, or none a tuple or None -/
def sortOk (xs : List D) : Bool := xs.all tupNE || xs.all fun x => !isTupD x && !isNon (.d x)
def biW (b : BI) (ws : List W) : Option W := match b, ws with
  | .len, [.scr xs] => some (.d (.int xs.length))
  | .len, [.d (.str s)] => if s.length ≤ big then some (.d (.int s.length)) else none
  | .len, [.dct false kvs] => some (.d (.int kvs.length))
  | .len, [.dcn kvs] => some (.d (.int kvs.length))
  | .len, [.lst ws] => some (.d (.int ws.length))
  | .len, [w] => (seqOrTup w).map fun xs => .d (.int xs.length)
  | .tuple, [w] => (seqOrTup w).map fun xs => .d (.tuple xs)
  | .list, [w] => (seqOrTup w).map fun xs => .lst (xs.map .d)
  | .int, [.d (.int i)] => some (.d (.int i))
  | .int, [.d (.bool k)] => some (.d (.int (if k then 1 else 0)))
  | .abs, [.d (.int i)] => some (.d (.int (if i < 0 then -i else i)))
  | .max, [.d (.int i), .d (.int j)] => some (.d (.int (if j > i then j else i)))
  | .min, [.d (.int i), .d (.int j)] => some (.d (.int (if j < i then j else i)))
  | .min, [w] => match seqD w with
    | some (x :: xs) => if alikes (x :: xs) && PyData.canLayAll0 (x :: xs) && decide (PyData.depthAll (x :: xs) ≤ 64) && !(x :: xs).any (fun y => isNon (.d y)) then some (.d (PySem.W.minD x xs)) else none
    | _ => none
  | .sum, [w] => match (seqD w).bind allI with
    | some is => some (.d (.int is.sum))
    | none => none
  | .all, [w] => match (seqD w).bind allB with
    | some bs => some (.d (.bool (bs.all id)))
    | none => none
  | .any, [w] => match (seqD w).bind allB with
    | some bs => some (.d (.bool (bs.any id)))
    | none => none
  | .sorted, [w] => match seqD w with
    | some xs => if alikes xs && PyData.canLayAll0 xs && decide (PyData.depthAll xs ≤ 60) && sortOk xs && decide (xs.length ≤ big) then some (.lst ((xs.mergeSort (PySem.W.dataLe false id)).map .d)) else none
    | none => none
  | .divmod, [.d (.int i), .d (.int j)] => if 0 < j ∧ j < 1073741824 then some (.d (.tuple [.int (i / j), .int (i % j)])) else none
  | _, _ => none
/-- is the argument taken (a list's new item), or only looked at -/
def MI.takes : MI → Bool
  | .append => true
  | _ => false
/-- a list's method, a dict's -/
def MI.ofL : MI → Bool
  | .append => true
  | .extend => true
  | .pop => true
  | _ => false
def MI.fits (m : MI) : W → Bool
  | .lst _ => m.ofL
  | .dct false _ => !m.ofL
  | .dcn _ => !m.ofL
  | _ => false
/-- methods: what stands there then, what it gives -/
def meApp : W → List W → Option (W × W)
  | .lst ws, [x] => if ws.length < big then some (.lst (ws ++ [x]), .d .none) else none
  | _, _ => none
def meExt : W → List W → Option (W × W)
  | .lst ws, [x] => match seqD x with
    | some xs => if ws.length + xs.length ≤ big then some (.lst (ws ++ xs.map .d), .d .none) else none
    | none => none
  | _, _ => none
def mePop : W → List W → Option (W × W)
  | .lst ws, [.d (.int i)] => match L2.ixN ws.length i with
    | some k => (ws[k]?).map fun x => (.lst (ws.eraseIdx k), x)
    | none => none
  | .lst ws, [] => match L2.ixN ws.length (-1) with
    | some k => (ws[k]?).map fun x => (.lst (ws.eraseIdx k), x)
    | none => none
  | _, _ => none
def meSetd : W → List W → Option (W × W)
  | .dct false kvs, [.d k, .d v] => match keyD k with
    | some k => if kvs.length < big then match getK kvs k with
      | some x => some (.dct false kvs, .d x)
      | none => some (.dct false (setK kvs k v), .d v)
      else none
    | none => none
  | _, _ => none
def meGet : W → List W → Option (W × W)
  | .dct lk kvs, [.d k, .d v] => match keyD k with
    | some k => some (.dct lk kvs, .d ((getK kvs k).getD v))
    | none => if kvs.isEmpty = true then (tupK k).map fun _ => (.dct lk kvs, .d v) else none
  | .dct lk kvs, [.d k] => match keyD k with
    | some k => some (.dct lk kvs, .d ((getK kvs k).getD .none))
    | none => if kvs.isEmpty = true then (tupK k).map fun _ => (.dct lk kvs, .d .none) else none
  | .dcn kvs, [.d k, .d v] => (tupK k).map fun k => (.dcn kvs, .d ((getN kvs k).getD v))
  | .dcn kvs, [.d k] => (tupK k).map fun k => (.dcn kvs, .d ((getN kvs k).getD .none))
  | _, _ => none
def meW (m : MI) (w : W) (as : List W) : Option (W × W) := match m with
  | .append => meApp w as
  | .extend => meExt w as
  | .pop => mePop w as
  | .setdefault => meSetd w as
  | .get => meGet w as
def stW (w : W) (i : W) (x : W) : Option W := match w, i with
  | .lst ws, .d (.int i) => (L2.ixN ws.length i).map fun k => .lst (ws.set k x)
  | .dct false kvs, .d k => match keyD k, x with
    | some k, .d v => if kvs.length < big then some (.dct false (setK kvs k v)) else none
    | none, .d v => if kvs.isEmpty = true then (tupK k).map fun k => .dcn [(k, v)] else none
    | _, _ => none
  | .dcn kvs, .d k => match tupK k, x with
    | some k, .d v => if kvs.length < big then some (.dcn (setN kvs k v)) else none
    | _, _ => none
  | _, _ => none
/-- what stands at a place is turned -/
def turnAt {α : Type} (i : Nat) (sel : List Nat) (f : W → Option (W × α)) : M α := fun env => match env[i]? with
  | some (.ok p w) => match w.at sel with
    | some w1 => match f w1 with
      | some (w2, r) => match w.put sel w2 with
        | some w' => some (.ok r, env.set i (.ok p w'))
        | none => none
      | none => none
    | none => none
  | _ => none
/-- m is asked while the slot i is locked (where the place lies deeper) -/
def locked {α : Type} (i : Nat) (sel : List Nat) (m : M α) : M α := match sel with
  | [] => m
  | _ :: _ => fun env => match env[i]? with
    | some s => match m (env.set i .lck) with
      | some (.ok a, e) => match e[i]? with
        | some .lck => some (.ok a, e.set i s)
        | _ => none
      | _ => none
    | none => none
def tyOf : W → String
  | .d .none => "NoneType"
  | .d (.bool _) => "bool"
  | .d (.int _) => "int"
  | .d (.str _) => "str"
  | .d (.tuple _) => "tuple"
  | .d (.list _) => "list"
  | .d (.dict _) => "?"
  | .lst _ => "list"
  | .dct _ _ => "dict"
  | .dcn _ => "?"
  | .scr _ => "?"
def isTy (t c : String) : Bool := t == c || (t == "bool" && c == "int")
/-! ### walking -/
def wipeE (env : Env) (own : List Nat) : Env := own.foldl (fun e i => e.set i .no) env
/-- nothing is raised -/
def calm {α : Type} (m : M α) : M α := fun env => match m env with
  | some (.ok a, e) => some (.ok a, e)
  | _ => none
/-- a dict that is walked is locked meanwhile: the name, the state -/
def lockFor (it : E) (env : Env) : Option Nat × Env := match it with
  | .var i => match env[i]? with
    | some (.ok p (.dct false kvs)) => (some i, env.set i (.ok p (.dct true kvs)))
    | _ => (none, env)
  | .itms (.var i) => match env[i]? with
    | some (.ok p (.dct false kvs)) => (some i, env.set i (.ok p (.dct true kvs)))
    | _ => (none, env)
  | _ => (none, env)
def unlock (o : Option Nat) (env : Env) : Option Env := match o with
  | none => some env
  | some i => match env[i]? with
    | some (.ok p (.dct true kvs)) => some (env.set i (.ok p (.dct false kvs)))
    | _ => none
/-- m is asked while what it walks is locked; nothing is raised -/
def whileLk {α : Type} (it : E) (m : M α) : M α := fun env => match m (lockFor it env).2 with
  | some (.ok a, e) => (unlock (lockFor it env).1 e).map fun e => (.ok a, e)
  | _ => none
/-- what a walk takes, from an answer -/
def walkR (r : R) : M (List D) := match r with
  | .pth i [] => fun env => match env[i]? with
    | some (.ok _ (.dct lk kvs)) => if lk = true then some (.ok (kvs.map fun kv => dKey kv.1), env) else none
    | _ => bnd (frzAt i []) (fun x => lft (items x)) env
  | r => bnd (dat r) fun x => lft (items x)
def walkI (r : R) : M (List D) := match r with
  | .pth i [] => fun env => match env[i]? with
    | some (.ok _ (.dct true kvs)) => some (.ok (kvs.map fun kv => .tuple [dKey kv.1, kv.2]), env)
    | _ => none
  | _ => fun _ => none
def rngW (ws : List W) : Option (List D) := match ws with
  | [.d (.int n)] => if -big ≤ n ∧ n ≤ big then some (rngD 0 n.toNat) else none
  | [.d (.int a), .d (.int b)] => if -big ≤ a ∧ a ≤ big ∧ -big ≤ b ∧ b ≤ big then some (rngD a (b - a).toNat) else none
  | _ => none
def truM (r : R) : M Bool := bnd (seeM r) fun w => lft (tru w)
/-- a comprehension's turns -/
def lcL (own : List Nat) (as : D → M Unit) (c : M Bool) (el : M W) : List D → List W → M (List W)
  | [], acc => ret acc
  | x :: xs, acc => fun env => bnd (as x) (fun _ => bnd c fun b => if b = true then bnd el fun w => fun e => if acc.length < big then lcL own as c el xs (acc ++ [w]) (wipeE e own) else none else fun e => lcL own as c el xs acc (wipeE e own)) env
def lcO (own : List Nat) (as : D → M Unit) (c : M Bool) (inner : List W → M (List W)) : List D → List W → M (List W)
  | [], acc => ret acc
  | x :: xs, acc => fun env => bnd (as x) (fun _ => bnd c fun b => if b = true then bnd (inner acc) fun acc' => fun e => lcO own as c inner xs acc' (wipeE e own) else fun e => lcO own as c inner xs acc (wipeE e own)) env
def putDict (w : W) (k v : D) : Option W := match w, keyD k with
  | .dct false kvs, some k => if kvs.length < big then some (.dct false (setK kvs k v)) else none
  | .dct false [], none => (tupK k).map fun k => .dcn [(k, v)]
  | .dcn kvs, none => (tupK k).bind fun k => if kvs.length < big then some (.dcn (setN kvs k v)) else none
  | _, _ => none
def dcL (own : List Nat) (as : D → M Unit) (c : M Bool) (kv : M (D × D)) : List D → W → M W
  | [], acc => ret acc
  | x :: xs, acc => fun env => bnd (as x) (fun _ => bnd c fun b => if b = true then bnd kv fun p => match putDict acc p.1 p.2 with
      | some acc' => fun e => dcL own as c kv xs acc' (wipeE e own)
      | none => fun _ => none
    else fun e => dcL own as c kv xs acc (wipeE e own)) env
def setSlot (i : Nat) (w : W) : M Unit := fun env => match env[i]? with
  | some .no => some (.ok (), env.set i (.ok false w))
  | some (.ok false _) => some (.ok (), env.set i (.ok false w))
  | _ => none
def enumL (zs : List D) : List D := ((List.range zs.length).zip zs).map fun q => .tuple [.int (q.1 : Nat), q.2]
def enumD : D → Option (List D)
  | .list zs => some (enumL zs)
  | .tuple zs => some (enumL zs)
  | _ => none
def zipL (xs ys : List D) : List D := (xs.zip ys).map fun q => .tuple [q.1, q.2]
def zipD : D → D → Option (List D)
  | .list xs, .list ys => some (zipL xs ys)
  | .tuple xs, .tuple ys => some (zipL xs ys)
  | _, _ => none
def intW : W → Option (Option Int)
  | .d (.int i) => some (some i)
  | _ => none

section
variable (T : Tb)
mutual
def ev : E → M (List R)
  | .var i => fun env => match env[i]? with
    | some (.ok _ (.d x)) => some (.ok [.d x], env)
    | some (.ok _ _) => some (.ok [.pth i []], env)
    | _ => none
  | .cst x => ret [.d x]
  | .glb x => lft ((T.glob x).map fun d => [.d d])
  | .nil => ret []
  | .cons a b => bnd (ev a) fun xs => bnd (sole xs) fun x => bnd (settle x) fun x => bnd (ev b) fun ys => ret (x :: ys)
  | .scons a b => bnd (ev a) fun xs => bnd (sole xs) fun x => bnd (seeM x) fun w => bnd (lft (seqOrTup w)) fun zs => bnd (ev b) fun ys => ret (zs.map R.d ++ ys)
  | .tup es => bnd (ev es) fun rs => bnd (each dat rs) fun xs => if xs.length ≤ big then ret [.d (.tuple xs)] else fun _ => none
  | .lst es => bnd (ev es) fun rs => bnd (each toW rs) fun ws => if ws.length ≤ big then ret [.own (.lst ws)] else fun _ => none
  | .bin o a b => bnd (ev a) fun xs => bnd (sole xs) fun x => bnd (settle x) fun x => bnd (ev b) fun ys => bnd (sole ys) fun y => bnd (seeM x) fun v => bnd (seeM y) fun w => lft ((binop o v w).map fun r => [toR r])
  | .un o a => bnd (ev a) fun xs => bnd (sole xs) fun x => bnd (seeM x) fun v => lft ((unop o v).map fun r => [toR r])
  | .rev a => bnd (ev a) fun xs => bnd (sole xs) fun x => bnd (seeM x) fun v => lft ((revW v).map fun r => [toR r])
  | .not a => bnd (ev a) fun xs => bnd (sole xs) fun x => bnd (truM x) fun k => ret [.d (.bool (!k))]
  | .and a b => bnd (ev a) fun xs => bnd (sole xs) fun x => bnd (truM x) fun k => if k = true then ev b else ret [x]
  | .or a b => bnd (ev a) fun xs => bnd (sole xs) fun x => bnd (truM x) fun k => if k = true then ret [x] else ev b
  | .cmp o a b => bnd (ev a) fun xs => bnd (sole xs) fun x => bnd (settle x) fun x => bnd (ev b) fun ys => bnd (sole ys) fun y => bnd (seeM x) fun v => bnd (seeM y) fun w => lft ((cmpop o v w).map fun k => [.d (.bool k)])
  | .chn o o' a b c => bnd (ev a) fun xs => bnd (sole xs) fun x => bnd (plainR x) fun x => bnd (ev b) fun ys => bnd (sole ys) fun y => bnd (plainR y) fun y => bnd (lft (cmpop o (.d x) (.d y))) fun k =>
      if k = true then bnd (ev c) fun zs => bnd (sole zs) fun z => bnd (plainR z) fun z => lft ((cmpop o' (.d y) (.d z)).map fun k => [.d (.bool k)]) else ret [.d (.bool false)]
  | .ife c a b => bnd (ev c) fun xs => bnd (sole xs) fun x => bnd (truM x) fun k => if k = true then ev a else ev b
  | .idx a i => bnd (ev a) fun xs => bnd (sole xs) fun x => bnd (match x with
      | .pth j sel => locked j sel (bnd (ev i) fun ys => bnd (sole ys) fun y => seeM y)
      | _ => bnd (ev i) fun ys => bnd (sole ys) fun y => seeM y) fun iw => bnd (seeM x) fun w => lft ((idx x w iw).map fun r => [r])
  | .slc a lo hi => bnd (ev a) fun xs => bnd (sole xs) fun x => bnd (settle x) fun x =>
      bnd (if lo.isNil = true then ret none else bnd (ev lo) fun ls => bnd (sole ls) fun l => bnd (seeM l) fun w => lft (intW w)) fun l =>
      bnd (if hi.isNil = true then ret none else bnd (ev hi) fun ls => bnd (sole ls) fun l => bnd (seeM l) fun w => lft (intW w)) fun h =>
      bnd (seeM x) fun w => lft ((slc w l h).map fun r => [toR r])
  | .call f es => bnd (ev es) fun rs => bnd (callR T f rs) fun r => ret [r]
  | .callk f perm es => bnd (ev es) fun rs => bnd (lft (perm.mapM fun j => rs[j]?)) fun rs => bnd (callR T f rs) fun r => ret [r]
  | .callv i es => fun env => match env[i]? with
    | some (.ok _ (.d x)) => match fnOf x with
      | some f => bnd (ev es) (fun rs => bnd (callR T f rs) fun r => ret [r]) env
      | none => none
    | _ => none
  | .bi b es => bnd (ev es) fun rs => bnd (each seeM rs) fun ws => lft ((biW b ws).map fun r => [toR r])
  | .isi a ts => bnd (ev a) fun xs => bnd (sole xs) fun x => bnd (seeM x) fun w => if tyOf w = "?" then fun _ => none else ret [.d (.bool (ts.any (isTy (tyOf w))))]
  | .meth m o es => bnd (ev o) fun xs => bnd (sole xs) fun x => match x with
    | .pth j sel => bnd (seeM (.pth j sel)) fun w0 => if m.fits w0 = false then fun _ => none else bnd (locked j sel (bnd (ev es) fun rs => if m.takes = true then each toW rs else each seeM rs)) fun ws => bnd (turnAt j sel fun w => meW m w ws) fun r => ret [toR r]
    | _ => fun _ => none
  | .lc own t it c elt => whileLk it (bnd (evI it) fun src => fun env =>
      match lcL own (fun x => asg t [.d x]) (if c.isNil = true then ret true else bnd (ev c) fun xs => bnd (sole xs) truM) (bnd (ev elt) fun xs => bnd (sole xs) toW) src [] (wipeE env own) with
      | some (.ok ws, e) => some (.ok [.own (.lst ws)], e)
      | _ => none)
  | .lc2 own own2 t it c t2 it2 c2 elt => whileLk it (bnd (evI it) fun src => fun env =>
      match lcO own (fun x => asg t [.d x]) (if c.isNil = true then ret true else bnd (ev c) fun xs => bnd (sole xs) truM)
        (fun acc => bnd (evI it2) fun src2 => fun env2 => lcL own2 (fun x => asg t2 [.d x]) (if c2.isNil = true then ret true else bnd (ev c2) fun xs => bnd (sole xs) truM) (bnd (ev elt) fun xs => bnd (sole xs) toW) src2 acc (wipeE env2 own2)) src [] (wipeE env own) with
      | some (.ok ws, e) => some (.ok [.own (.lst ws)], e)
      | _ => none)
  | .dc own t it c k v => whileLk it (bnd (evI it) fun src => fun env =>
      match dcL own (fun x => asg t [.d x]) (if c.isNil = true then ret true else bnd (ev c) fun xs => bnd (sole xs) truM) (bnd (ev k) fun xs => bnd (sole xs) fun x => bnd (dat x) fun kx => bnd (ev v) fun ys => bnd (sole ys) fun y => bnd (dat y) fun vx => ret (kx, vx)) src (.dct false []) (wipeE env own) with
      | some (.ok w, e) => some (.ok [.own w], e)
      | _ => none)
  | .dnew => ret [.own (.dct false [])]
  | .lrng es => bnd (ev es) fun rs => bnd (each seeM rs) fun ws => lft ((rngW ws).map fun xs => [.own (.lst (xs.map .d))])
  | .sumL e => bnd (ev e) fun xs => bnd (sole xs) fun x => bnd (seeM x) fun w => lft (match sumW w with
      | some xs => if xs.length ≤ big then some [.own (.lst (xs.map .d))] else none
      | none => none)
  | .itms _ => fun _ => none
  | .rng _ => fun _ => none
  | .enum _ => fun _ => none
  | .zip _ _ => fun _ => none
/-- what is walked -/
def evI : E → M (List D)
  | .rng es => bnd (ev es) fun rs => bnd (each seeM rs) fun ws => lft (rngW ws)
  | .enum e => bnd (ev e) fun xs => bnd (sole xs) fun x => bnd (dat x) fun y => lft (enumD y)
  | .zip a b => bnd (ev a) fun xs => bnd (sole xs) fun x => bnd (dat x) fun x => bnd (ev b) fun ys => bnd (sole ys) fun y => bnd (dat y) fun y => lft (zipD x y)
  | .itms e => bnd (ev e) fun xs => bnd (sole xs) walkI
  | e => bnd (ev e) fun xs => bnd (sole xs) walkR
/-- a target takes -/
def asg : E → List R → M Unit
  | .var i, [r] => bnd (toW r) fun w => setSlot i w
  | .tup es, [r] => bnd (seeM r) fun w => match w with
    | .d (.tuple xs) => asg es (xs.map .d)
    | w => match seqD w with
      | some xs => asg es (xs.map .d)
      | none => fun _ => none
  | .nil, [] => ret ()
  | .cons t ts, r :: rs => bnd (asg t [r]) fun _ => asg ts rs
  | .idx a i, [r] => bnd (toW r) fun x => calm (bnd (ev a) fun os => bnd (sole os) fun o => match o with
    | .pth j sel => bnd (locked j sel (bnd (ev i) fun ys => bnd (sole ys) fun y => seeM y)) fun iw => turnAt j sel fun w => (stW w iw x).map fun w' => (w', ())
    | _ => fun _ => none)
  | _, _ => fun _ => none
end
end

/-! ### statements -/
/-- what a def hands back: a name's own thing goes out whole -/
def retW : R → M W
  | .d x => ret (.d x)
  | .own w => ret w
  | .pth i [] => fun env => match env[i]? with
    | some (.ok false w) => some (.ok w, env.set i .no)
    | _ => bnd (frzAt i []) (fun x => ret (.d x)) env
  | .pth i (k :: sel) => bnd (frzAt i (k :: sel)) fun x => ret (.d x)
abbrev X := Env → Option (Fl × Env)
def ofM {α : Type} (m : M α) (f : α → X) : X := fun env => match m env with
  | none => none
  | some (.ok a, e) => f a e
  | some (.ex x, e) => some (.ex x, e)
def fl (f : Fl) : X := fun env => some (f, env)
def forL (as : D → M Unit) (b : X) : List D → X
  | [] => fl .nx
  | x :: xs => ofM (as x) fun _ => fun env => match b env with
    | some (.nx, e) => forL as b xs e
    | some (.ct, e) => forL as b xs e
    | some (.bk, e) => some (.nx, e)
    | o => o
def whlL (c : M Bool) (b : X) : Nat → X
  | 0 => fun _ => none
  | n + 1 => ofM c fun k => if k = true then fun env => match b env with
    | some (.nx, e) => whlL c b n e
    | some (.ct, e) => whlL c b n e
    | some (.bk, e) => some (.nx, e)
    | o => o
    else fl .nx
/-- the turns that a while may take -/
def fuel : Nat := 100000
section
variable (T : Tb)
def ev1 (e : E) : M R := bnd (ev T e) sole
def setAll : E → List W → M Unit
  | .nil, [] => ret ()
  | .cons (.var i) ts, w :: ws => bnd (setSlot i w) fun _ => setAll ts ws
  | _, _ => fun _ => none
def exec : S → X
  | .skip => fl .nx
  | .seq a b => fun env => match exec a env with
    | some (.nx, e) => exec b e
    | o => o
  | .expr e => ofM (ev T e) fun rs => ofM (sole rs) fun _ => fl .nx
  | .asg t e => ofM (ev T e) fun rs => ofM (sole rs) fun r => ofM (asg T t [r]) fun _ => fl .nx
  | .par ts es => ofM (ev T es) fun rs => ofM (each toW rs) fun ws => ofM (setAll ts ws) fun _ => fl .nx
  | .ife c a b => ofM (ev T c) fun rs => ofM (sole rs) fun r => ofM (truM r) fun k => if k = true then exec a else exec b
  | .whl c b => whlL (bnd (ev T c) fun rs => bnd (sole rs) truM) (exec b) fuel
  | .for_ t it b => ofM (evI T it) fun src => forL (fun x => asg T t [.d x]) (exec b) src
  | .ret e => ofM (ev T e) fun rs => ofM (sole rs) fun r => ofM (retW r) fun w => fl (.rt w)
  | .retN => fl (.rt (.d .none))
  | .raise c es => ofM (ev T es) fun rs => ofM (each dat rs) fun xs => fl (.ex ⟨c, xs⟩)
  | .brk => fl .bk
  | .cnt => fl .ct
end
/-! ### defs -/
structure FnI where
  n : Nat
  slots : Nat
  body : S
def backs (n : Nat) (e : Env) : List W := (e.take n).map fun
  | .ok _ w => w
  | _ => .d .none
def enter (fi : FnI) (pws : List (Bool × W)) : Env := pws.map (fun p => Slot.ok p.1 p.2) ++ List.replicate (fi.slots - fi.n) .no
/-- what was lent stands in its name still -/
def backOk (fi : FnI) (pws : List (Bool × W)) (e : Env) : Bool := (List.range pws.length).all fun j => match pws[j]? with
  | some (true, _) => !(fi.body.names.contains j) && (match e[j]? with
    | some (.ok _ _) => true
    | _ => false)
  | _ => true
def runFn (T : Tb) (fi : FnI) (pws : List (Bool × W)) : Option (Res W × List W) :=
  if pws.length = fi.n then match exec T fi.body (enter fi pws) with
    | some (.rt w, e) => if backOk fi pws e = true then some (.ok w, backs fi.n e) else none
    | some (.nx, e) => if backOk fi pws e = true then some (.ok (.d .none), backs fi.n e) else none
    | some (.ex x, e) => if backOk fi pws e = true then some (.ex x, backs fi.n e) else none
    | _ => none
  else none
def callAt (fns : List FnI) (glob : Str → Option D) : Nat → Nat → List (Bool × W) → Option (Res W × List W)
  | 0, _, _ => none
  | l + 1, f, pws => match fns[f]? with
    | some fi => runFn ⟨callAt fns glob l, glob⟩ fi pws
    | none => none
end Ev
end

section
set_option Elab.async false
set_option linter.all false
set_option autoImplicit true
set_option maxRecDepth 100000
set_option maxHeartbeats 4000000
/-! EvB: what the evaluator's values stand for. -/
namespace Ev
open PySem PySem.Spec PyProof.Rows L2

def Sub (F H : Hp) : Prop := ∀ a o, F a = some o → H a = some o
theorem Sub.refl (F : Hp) : Sub F F := fun _ _ h => h
theorem Sub.trans {F H I : Hp} (a : Sub F H) (b : Sub H I) : Sub F I := fun _ _ h => b _ _ (a _ _ h)
theorem Sub.rd {F H : Hp} (s : Sub F H) {a : Addr} {u : HO} (h : Rd F a u) : Rd H a u := by
  rcases h with h | ⟨o, h⟩
  · exact .inl (s _ _ h)
  · exact .inr ⟨o, s _ _ h⟩
theorem Sub.sqL {K : PySem.W.Frag} {F H : Hp} (s : Sub F H) {a : Addr} {xs : List V} (h : SqL K F a xs) : SqL K H a xs := h.imp s.rd id
theorem Sub.sqT {K : PySem.W.Frag} {F H : Hp} (s : Sub F H) {a : Addr} {xs : List V} (h : SqT K F a xs) : SqT K H a xs := h.imp s.rd id

/-- where the functions stand; the program, the world -/
structure GX where
  fn : Nat → Option Addr
  P : Program
  w : World
instance : CoeFun GX fun _ => Nat → Option Addr := ⟨GX.fn⟩
mutual
/-- data at a value; F: what never changes; G: where the functions stand -/
inductive DR (K : PySem.W.Frag) (G : GX) (F : Hp) : V → D → Prop
  | non : DR K G F .non .none
  | bl (b : Bool) : DR K G F (.bl b) (.bool b)
  | int (i : Int) : DR K G F (.int i) (.int i)
  | str (x : Str) : DR K G F (.str x) (.str x)
  | lst {a : Addr} {xs : List V} {ds : List D} : F a = some (.lst xs) → DRs K G F xs ds → DR K G F (.ref a) (.list ds)
  | tup {a : Addr} {xs : List V} {ds : List D} : SqT K F a xs → DRs K G F xs ds → DR K G F (.ref a) (.tuple ds)
  | fn {f : Nat} {a : Addr} : G f = some a → DR K G F (.ref a) (.dict [(.str (PySem.Str.ofString "fn"), .int f)])
inductive DRs (K : PySem.W.Frag) (G : GX) (F : Hp) : List V → List D → Prop
  | nil : DRs K G F [] []
  | cons {v : V} {vs : List V} {d : D} {ds : List D} : DR K G F v d → DRs K G F vs ds → DRs K G F (v :: vs) (d :: ds)
end
section
variable {K : PySem.W.Frag} {G : GX} {F F' H H' : Hp}
mutual
theorem DR.mono (s : Sub F F') : ∀ {d : D} {v : V}, DR K G F v d → DR K G F' v d
  | .none, _, h => by cases h; exact .non
  | .bool _, _, h => by cases h; exact .bl _
  | .int _, _, h => by cases h; exact .int _
  | .str _, _, h => by cases h; exact .str _
  | .list ds, _, h => by
    cases h with
    | lst h1 h2 => exact .lst (s _ _ h1) (DRs.mono s (ds := ds) h2)
  | .tuple ds, _, h => by
    cases h with
    | tup h1 h2 => exact .tup (s.sqT h1) (DRs.mono s (ds := ds) h2)
  | .dict _, _, h => by
    cases h with
    | fn h1 => exact .fn h1
theorem DRs.mono (s : Sub F F') : ∀ {ds : List D} {vs : List V}, DRs K G F vs ds → DRs K G F' vs ds
  | [], _, h => by cases h; exact .nil
  | d :: ds, _, h => by
    cases h with
    | cons h1 h2 => exact .cons (DR.mono s (d := d) h1) (DRs.mono s (ds := ds) h2)
end
theorem DRs.length : ∀ {ds : List D} {vs : List V}, DRs K G F vs ds → vs.length = ds.length
  | [], _, h => by cases h; rfl
  | d :: ds, _, h => by
    cases h with
    | cons h1 h2 => simp [DRs.length h2]
theorem DRs.get : ∀ {ds : List D} {vs : List V} {i : Nat} {v : V} {d : D}, DRs K G F vs ds → vs[i]? = some v → ds[i]? = some d → DR K G F v d
  | [], _, i, v, d, h, h1, h2 => by simp at h2
  | x :: ds, _, i, v, d, h, h1, h2 => by
    cases h with
    | cons h3 h4 =>
      cases i with
      | zero => simp at h1 h2; subst h1 h2; exact h3
      | succ i => simp at h1 h2; exact DRs.get h4 h1 h2
theorem DRs.at {ds : List D} {vs : List V} {i : Nat} {d : D} (h : DRs K G F vs ds) (h2 : ds[i]? = some d) : ∃ v, vs[i]? = some v ∧ DR K G F v d := by
  have hi : i < ds.length := (List.getElem?_eq_some_iff.mp h2).1
  have hi' : i < vs.length := by rw [h.length]; exact hi
  exact ⟨vs[i], List.getElem?_eq_getElem hi', h.get (List.getElem?_eq_getElem hi') h2⟩
theorem DRs.append : ∀ {ds es : List D} {vs ws : List V}, DRs K G F vs ds → DRs K G F ws es → DRs K G F (vs ++ ws) (ds ++ es)
  | [], _, _, _, h, h' => by cases h; exact h'
  | d :: ds, _, _, _, h, h' => by
    cases h with
    | cons h1 h2 => exact .cons h1 (DRs.append h2 h')
theorem DRs.take : ∀ {ds : List D} {vs : List V} (n : Nat), DRs K G F vs ds → DRs K G F (vs.take n) (ds.take n)
  | _, _, 0, _ => by simpa using DRs.nil
  | [], _, n + 1, h => by cases h; simpa using DRs.nil
  | d :: ds, _, n + 1, h => by
    cases h with
    | cons h1 h2 => simpa using DRs.cons h1 (DRs.take n h2)
theorem DRs.drop : ∀ {ds : List D} {vs : List V} (n : Nat), DRs K G F vs ds → DRs K G F (vs.drop n) (ds.drop n)
  | _, _, 0, h => by simpa using h
  | [], _, n + 1, h => by cases h; simpa using DRs.nil
  | d :: ds, _, n + 1, h => by
    cases h with
    | cons h1 h2 => simpa using DRs.drop n h2
-- without functions: the hand layer's own data
mutual
theorem DR.dp (s : Sub F H) : ∀ {d : D} {v : V}, DR K G F v d → d.canLay0 = true → Dp K H v d
  | .none, _, h, _ => by cases h; exact .non
  | .bool _, _, h, _ => by cases h; exact .bl _
  | .int _, _, h, _ => by cases h; exact .int _
  | .str _, _, h, _ => by cases h; exact .str _
  | .list ds, _, h, c => by
    cases h with
    | lst h1 h2 => exact .lst (SqL.of (s _ _ h1)) (DRs.dp s (ds := ds) h2 (by simpa [PyData.canLay0] using c))
  | .tuple ds, _, h, c => by
    cases h with
    | tup h1 h2 => exact .tup (s.sqT h1) (DRs.dp s (ds := ds) h2 (by simpa [PyData.canLay0] using c))
  | .dict _, _, h, c => by simp [PyData.canLay0] at c
theorem DRs.dp (s : Sub F H) : ∀ {ds : List D} {vs : List V}, DRs K G F vs ds → PyData.canLayAll0 ds = true → DpAll K H vs ds
  | [], _, h, _ => by cases h; exact .nil
  | d :: ds, _, h, c => by
    cases h with
    | cons h1 h2 =>
      rw [PyData.canLayAll0, Bool.and_eq_true] at c
      exact .cons (DR.dp s (d := d) h1 c.1) (DRs.dp s (ds := ds) h2 c.2)
end
end

/-! ### owned things -/
def IsFrz : HO → Prop
  | .frz _ _ => True
  | _ => False
/-- a dict's entries -/
inductive KD (K : PySem.W.Frag) (G : GX) (F : Hp) : List (Key × D) → List (Key × V) → Prop
  | nil : KD K G F [] []
  | cons {k : Key} {d : D} {v : V} {ds : List (Key × D)} {vs : List (Key × V)} : DR K G F v d → KD K G F ds vs → KD K G F ((k, d) :: ds) ((k, v) :: vs)
/-- a dict whose keys are tuples: keys, where they stand, values -/
inductive ND (K : PySem.W.Frag) (G : GX) (F : Hp) : List (NestedKey × D) → List (NestedKey × Addr × V) → Prop
  | nil : ND K G F [] []
  | cons {k : NestedKey} {b : Addr} {d : D} {v : V} {ds : List (NestedKey × D)} {vs : List (NestedKey × Addr × V)} : DR K G F (.ref b) k.data → DR K G F v d → ND K G F ds vs → ND K G F ((k, d) :: ds) ((k, b, v) :: vs)
abbrev EntR (p : NestedKey × Addr × V) (q : NestedKey × Addr × Value) : Prop := p.1 = q.1 ∧ p.2.1 = q.2.1 ∧ RelV p.2.2 q.2.2
/-- .. in the heap -/
def TabN (P : Program) (w : World) (a : Addr) (xs : List (NestedKey × Addr × V)) : Heap → Prop := fun h => xs.length ≤ sizeLine ∧ (a == sysModules) = false ∧ (∀ x ∈ xs, x.1.depth ≤ 8) ∧
  ∃ ys : List (NestedKey × Addr × Value), Paired EntR xs ys ∧ ∃ o es ep, h.get? a = some o ∧ o.ExactDict ∧ o.data = .dict es ep ∧ es.toList = ys.map (entryOfKey (nestedKind P w)) ∧ (ys.map (·.1)).Nodup
mutual
/-- w stands at v; P: all that it owns (at the most) -/
inductive WR (K : PySem.W.Frag) (G : GX) (F H : Hp) : W → V → (Addr → Prop) → Prop
  | d {x : D} {v : V} {P : Addr → Prop} : DR K G F v x → WR K G F H (.d x) v P
  | lst {ws : List W} {a : Addr} {vs : List V} {P P' : Addr → Prop} : H a = some (.lst vs) → P a → (∀ b, P' b → P b ∧ b ≠ a) → WRs K G F H ws vs P' → WR K G F H (.lst ws) (.ref a) P
  | dct {kvs : List (Key × D)} {a : Addr} {vs : List (Key × V)} {P : Addr → Prop} : H a = some (.dK vs) → P a → KD K G F kvs vs → WR K G F H (.dct false kvs) (.ref a) P
  | dcn {kvs : List (NestedKey × D)} {a : Addr} {vs : List (NestedKey × Addr × V)} {P : Addr → Prop} : H a = some (.ext (TabN G.P G.w a vs)) → P a → ND K G F kvs vs → WR K G F H (.dcn kvs) (.ref a) P
  | scr {xs : List D} {a : Addr} {vs : List V} {P : Addr → Prop} : SqL K F a vs → DRs K G F vs xs → WR K G F H (.scr xs) (.ref a) P
  | dlk {kvs : List (Key × D)} {a : Addr} {o : Obj} {vs : List (Key × V)} {P : Addr → Prop} : H a = some (.frz o (.dK vs)) → P a → KD K G F kvs vs → WR K G F H (.dct true kvs) (.ref a) P
inductive WRs (K : PySem.W.Frag) (G : GX) (F H : Hp) : List W → List V → (Addr → Prop) → Prop
  | nil {P : Addr → Prop} : WRs K G F H [] [] P
  | cons {w : W} {v : V} {ws : List W} {vs : List V} {P P1 P2 : Addr → Prop} : (∀ b, P1 b → P b ∧ ¬ P2 b) → (∀ b, P2 b → P b) → WR K G F H w v P1 → WRs K G F H ws vs P2 → WRs K G F H (w :: ws) (v :: vs) P
end
section
variable {K : PySem.W.Frag} {G : GX} {F F' H H' : Hp} {P P' : Addr → Prop}
theorem KD.mono (s : Sub F F') : ∀ {ds : List (Key × D)} {vs : List (Key × V)}, KD K G F ds vs → KD K G F' ds vs
  | _, _, .nil => .nil
  | _, _, .cons h1 h2 => .cons (h1.mono s) (KD.mono s h2)
theorem ND.mono (s : Sub F F') : ∀ {ds : List (NestedKey × D)} {vs : List (NestedKey × Addr × V)}, ND K G F ds vs → ND K G F' ds vs
  | _, _, .nil => .nil
  | _, _, .cons h1 h2 h3 => .cons (h1.mono s) (h2.mono s) (ND.mono s h3)
theorem ND.length : ∀ {ds : List (NestedKey × D)} {vs : List (NestedKey × Addr × V)}, ND K G F ds vs → vs.length = ds.length
  | _, _, .nil => rfl
  | _, _, .cons _ _ h => by simp [ND.length h]
theorem WR.big {w : W} {v : V} (h : WR K G F H w v P) (hp : ∀ a, P a → P' a) : WR K G F H w v P' := by
  cases h with
  | d h => exact .d h
  | lst h1 h2 h3 h4 => exact .lst h1 (hp _ h2) (fun b hb => ⟨hp b (h3 b hb).1, (h3 b hb).2⟩) h4
  | dct h1 h2 h3 => exact .dct h1 (hp _ h2) h3
  | dlk h1 h2 h3 => exact .dlk h1 (hp _ h2) h3
  | dcn h1 h2 h3 => exact .dcn h1 (hp _ h2) h3
  | scr h1 h2 => exact .scr h1 h2
theorem WRs.big {ws : List W} {vs : List V} (h : WRs K G F H ws vs P) (hp : ∀ a, P a → P' a) : WRs K G F H ws vs P' := by
  cases h with
  | nil => exact .nil
  | cons h1 h2 h3 h4 => exact .cons (fun b hb => ⟨hp b (h1 b hb).1, (h1 b hb).2⟩) (fun b hb => hp b (h2 b hb)) h3 h4
mutual
theorem WR.stay (s : Sub F F') : ∀ {w : W} {v : V} {P : Addr → Prop}, (∀ a o, P a → H a = some o → H' a = some o) → WR K G F H w v P → WR K G F' H' w v P
  | .d x, _, _, k, h => by
    cases h with
    | d h => exact .d (h.mono s)
  | .lst ws, _, _, k, h => by
    cases h with
    | lst h1 h2 h3 h4 => exact .lst (k _ _ h2 h1) h2 h3 (WRs.stay s (ws := ws) (fun a o ha e => k a o (h3 a ha).1 e) h4)
  | .dct _ _, _, _, k, h => by
    cases h with
    | dct h1 h2 h3 => exact .dct (k _ _ h2 h1) h2 (h3.mono s)
    | dlk h1 h2 h3 => exact .dlk (k _ _ h2 h1) h2 (h3.mono s)
  | .dcn _, _, _, k, h => by
    cases h with
    | dcn h1 h2 h3 => exact .dcn (k _ _ h2 h1) h2 (h3.mono s)
  | .scr _, _, _, k, h => by
    cases h with
    | scr h1 h2 => exact .scr (s.sqL h1) (h2.mono s)
theorem WRs.stay (s : Sub F F') : ∀ {ws : List W} {vs : List V} {P : Addr → Prop}, (∀ a o, P a → H a = some o → H' a = some o) → WRs K G F H ws vs P → WRs K G F' H' ws vs P
  | [], _, _, k, h => by cases h; exact .nil
  | w :: ws, _, _, k, h => by
    cases h with
    | cons h1 h2 h3 h4 => exact .cons h1 h2 (WR.stay s (w := w) (fun a o ha e => k a o (h1 a ha).1 e) h3) (WRs.stay s (ws := ws) (fun a o ha e => k a o (h2 a ha) e) h4)
end
-- only what is tracked is owned
mutual
theorem WR.trk : ∀ {w : W} {v : V} {P : Addr → Prop}, WR K G F H w v P → WR K G F H w v fun a => P a ∧ H a ≠ none
  | .d x, _, _, h => by
    cases h with
    | d h => exact .d h
  | .lst ws, _, _, h => by
    cases h with
    | lst h1 h2 h3 h4 => exact .lst h1 ⟨h2, by rw [h1]; simp⟩ (fun b hb => ⟨⟨(h3 b hb.1).1, hb.2⟩, (h3 b hb.1).2⟩) (WRs.trk (ws := ws) h4)
  | .dct _ _, _, _, h => by
    cases h with
    | dct h1 h2 h3 => exact .dct h1 ⟨h2, by rw [h1]; simp⟩ h3
    | dlk h1 h2 h3 => exact .dlk h1 ⟨h2, by rw [h1]; simp⟩ h3
  | .dcn _, _, _, h => by
    cases h with
    | dcn h1 h2 h3 => exact .dcn h1 ⟨h2, by rw [h1]; simp⟩ h3
  | .scr _, _, _, h => by
    cases h with
    | scr h1 h2 => exact .scr h1 h2
theorem WRs.trk : ∀ {ws : List W} {vs : List V} {P : Addr → Prop}, WRs K G F H ws vs P → WRs K G F H ws vs fun a => P a ∧ H a ≠ none
  | [], _, _, h => by cases h; exact .nil
  | w :: ws, _, _, h => by
    cases h with
    | cons h1 h2 h3 h4 => exact .cons (fun b hb => ⟨⟨(h1 b hb.1).1, hb.2⟩, fun z => (h1 b hb.1).2 z.1⟩) (fun b hb => ⟨h2 b hb.1, hb.2⟩) (WR.trk (w := w) h3) (WRs.trk (ws := ws) h4)
end
theorem WRs.length : ∀ {ws : List W} {vs : List V} {P : Addr → Prop}, WRs K G F H ws vs P → ws.length = vs.length
  | [], _, _, h => by cases h; rfl
  | w :: ws, _, _, h => by
    cases h with
    | cons h1 h2 h3 h4 => simp [WRs.length h4]
/-- data alone own nothing -/
theorem WRs.ofD : ∀ {ds : List D} {vs : List V}, DRs K G F vs ds → WRs K G F H (ds.map .d) vs P
  | [], _, h => by cases h; exact .nil
  | d :: ds, _, h => by
    cases h with
    | cons h1 h2 => exact .cons (P1 := fun _ => False) (P2 := P) (fun _ z => z.elim) (fun _ z => z) (.d h1) (WRs.ofD h2)
theorem WRs.toD : ∀ {ws : List W} {ds : List D} {vs : List V} {P : Addr → Prop}, WRs K G F H ws vs P → allD ws = some ds → DRs K G F vs ds
  | [], ds, _, _, h, e => by cases h; cases e; exact .nil
  | .d x :: ws, ds, _, _, h, e => by
    cases h with
    | cons h1 h2 h3 h4 =>
      cases h3 with
      | d h3 =>
        rw [allD] at e
        cases e1 : allD ws with
        | none => rw [e1] at e; cases e
        | some es =>
          rw [e1] at e
          cases e
          exact .cons h3 (WRs.toD h4 e1)
  | .lst _ :: _, _, _, _, _, e => by simp [allD] at e
  | .dct _ _ :: _, _, _, _, _, e => by simp [allD] at e
  | .dcn _ :: _, _, _, _, _, e => by simp [allD] at e
  | .scr _ :: _, _, _, _, _, e => by simp [allD] at e
theorem allD_map : ∀ (xs : List D), allD (xs.map .d) = some xs
  | [] => rfl
  | x :: xs => by rw [List.map_cons, allD, allD_map xs]; rfl
theorem WRs.nth : ∀ {ws : List W} {vs : List V} {P : Addr → Prop} {k : Nat} {w : W}, WRs K G F H ws vs P → ws[k]? = some w → ∃ v P1, vs[k]? = some v ∧ WR K G F H w v P1 ∧ ∀ a, P1 a → P a
  | [], _, _, k, w, h, e => by simp at e
  | w0 :: ws, _, _, 0, w, h, e => by
    cases h with
    | cons h1 h2 h3 h4 =>
      simp at e
      subst e
      exact ⟨_, _, rfl, h3, fun a ha => (h1 a ha).1⟩
  | w0 :: ws, _, _, k + 1, w, h, e => by
    cases h with
    | cons h1 h2 h3 h4 =>
      obtain ⟨v, P1, e1, h5, h6⟩ := WRs.nth (k := k) h4 (by simpa using e)
      exact ⟨v, P1, by simpa using e1, h5, fun a ha => h2 a (h6 a ha)⟩
end
end Ev
end

section
set_option Elab.async false
set_option linter.all false
set_option autoImplicit true
set_option maxRecDepth 100000
set_option maxHeartbeats 4000000
/-! EvC: states, steps, places. -/
namespace Ev
open PySem PySem.Spec PyProof.Rows L2
open Classical (byContradiction)

/-- from a value along places in lists -/
def PathV (H : Hp) : V → List Nat → V → Prop
  | v, [], u => v = u
  | v, k :: sel, u => ∃ a vs v', v = .ref a ∧ H a = some (.lst vs) ∧ vs[k]? = some v' ∧ PathV H v' sel u

structure Good (F H : Hp) (P : Addr → Prop) : Prop where
  sub : Sub F H
  off : ∀ a, P a → F a = none
  trk : ∀ a, P a → H a ≠ none
structure Step (F H : Hp) (P : Addr → Prop) (F' H' : Hp) (P' : Addr → Prop) : Prop where
  ext : Sub F F'
  keep : ∀ a o, H a = some o → ¬ P a ∨ IsFrz o → H' a = some o
  frP : ∀ a, P' a → P a ∨ H a = none
  frF : ∀ a o, F' a = some o → F a = some o ∨ P a ∨ H a = none
section
variable {F F1 F2 H H1 H2 : Hp} {P P1 P2 Q Q1 : Addr → Prop}
theorem Step.refl (F H : Hp) (P : Addr → Prop) : Step F H P F H P := ⟨Sub.refl F, fun _ _ h _ => h, fun _ h => .inl h, fun _ _ h => .inl h⟩
theorem Step.trans (a : Step F H P F1 H1 P1) (b : Step F1 H1 P1 F2 H2 P2) : Step F H P F2 H2 P2 := by
  have back : ∀ x, H1 x = none → P x ∨ H x = none := fun x h => by
    cases e : H x with
    | none => exact .inr rfl
    | some o =>
      refine .inl (byContradiction fun n => ?_)
      rw [a.keep x o e (.inl n)] at h
      cases h
  refine ⟨a.ext.trans b.ext, fun x o e n => ?_, fun x h => ?_, fun x o e => ?_⟩
  · refine b.keep x o (a.keep x o e n) ?_
    rcases n with n | n
    · exact .inl fun z => (a.frP x z).elim n fun q => by rw [q] at e; cases e
    · exact .inr n
  · rcases b.frP x h with z | z
    · exact a.frP x z
    · exact back x z
  · rcases b.frF x o e with z | z | z
    · exact a.frF x o z
    · exact .inr (a.frP x z)
    · exact .inr (back x z)
/-- more is owned ahead, less behind -/
theorem Step.wide (s : Step F H P F1 H1 P1) (h : ∀ a, P a → Q a) (h1 : ∀ a, Q1 a → P1 a ∨ Q a ∨ H a = none) : Step F H Q F1 H1 Q1 :=
  ⟨s.ext, fun x o e n => s.keep x o e (n.imp (fun n z => n (h x z)) id), fun x z => (h1 x z).elim (fun q => (s.frP x q).imp (h x) id) id, fun x o e => (s.frF x o e).imp id fun z => z.imp (h x) id⟩
theorem Good.less (g : Good F H P) (h : ∀ a, Q a → P a) : Good F H Q := ⟨g.sub, fun a q => g.off a (h a q), fun a q => g.trk a (h a q)⟩
theorem Good.or (g : Good F H P) (g' : Good F H Q) : Good F H fun a => P a ∨ Q a := ⟨g.sub, fun a q => q.elim (g.off a) (g'.off a), fun a q => q.elim (g.trk a) (g'.trk a)⟩
theorem Good.none (s : Sub F H) : Good F H fun _ => False := ⟨s, fun _ z => z.elim, fun _ z => z.elim⟩
/-- what is held besides stays -/
theorem Step.aside (s : Step F H P F1 H1 P1) (g : Good F H Q) (dj : ∀ a, P a → ¬ Q a) (g1 : Good F1 H1 P1) : Good F1 H1 Q ∧ (∀ a, P1 a → ¬ Q a) ∧ ∀ a o, Q a → H a = some o → H1 a = some o := by
  have kp : ∀ a o, Q a → H a = some o → H1 a = some o := fun a o q e => s.keep a o e (.inl fun z => dj a z q)
  refine ⟨⟨g1.sub, fun a q => ?_, fun a q => ?_⟩, fun a z q => ?_, kp⟩
  · cases e : F1 a with
    | none => rfl
    | some o =>
      rcases s.frF a o e with z | z | z
      · rw [g.off a q] at z; cases z
      · exact (dj a z q).elim
      · exact (g.trk a q z).elim
  · cases e : H a with
    | none => exact (g.trk a q e).elim
    | some o => rw [kp a o q e]; simp
  · rcases s.frP a z with z | z
    · exact dj a z q
    · exact g.trk a q z
end

/-! ### the state of the names -/
structure SR (K : PySem.W.Frag) (G : GX) (F H : Hp) (env : Env) (σ : L2.St) (P : Addr → Prop) : Prop where
  len : env.length = σ.length
  good : Good F H P
  rel : ∃ Ps : Nat → Addr → Prop, (∀ i a, Ps i a → P a) ∧ (∀ i j a, Ps i a → Ps j a → i = j) ∧ ∀ i p w, env[i]? = some (.ok p w) → ∃ v, σ[i]? = some (some v) ∧ WR K G F H w v (Ps i)
/-- an answer at a value -/
inductive RR (K : PySem.W.Frag) (G : GX) (F H : Hp) (σ : L2.St) : R → V → (Addr → Prop) → Prop
  | d {x : D} {v : V} {P : Addr → Prop} : DR K G F v x → RR K G F H σ (.d x) v P
  | own {w : W} {v : V} {P : Addr → Prop} : WR K G F H w v P → RR K G F H σ (.own w) v P
  | pth {i : Nat} {sel : List Nat} {v u : V} {P : Addr → Prop} : σ[i]? = some (some v) → PathV H v sel u → RR K G F H σ (.pth i sel) u P
inductive RRs (K : PySem.W.Frag) (G : GX) (F H : Hp) (σ : L2.St) : List R → List V → (Addr → Prop) → Prop
  | nil {P : Addr → Prop} : RRs K G F H σ [] [] P
  | cons {r : R} {v : V} {rs : List R} {vs : List V} {P P1 P2 : Addr → Prop} : (∀ b, P1 b → P b ∧ ¬ P2 b) → (∀ b, P2 b → P b) → RR K G F H σ r v P1 → RRs K G F H σ rs vs P2 → RRs K G F H σ (r :: rs) (v :: vs) P
/-- held: no place within a thing -/
def R.held : R → Prop
  | .pth _ (_ :: _) => False
  | _ => True
section
variable {K : PySem.W.Frag} {G : GX} {F F' H H' : Hp} {P P' Q : Addr → Prop} {σ : L2.St} {env : Env}
theorem RR.big {r : R} {v : V} (h : RR K G F H σ r v P) (hp : ∀ a, P a → P' a) : RR K G F H σ r v P' := by
  cases h with
  | d h => exact .d h
  | own h => exact .own (h.big hp)
  | pth h1 h2 => exact .pth h1 h2
theorem RRs.big {rs : List R} {vs : List V} (h : RRs K G F H σ rs vs P) (hp : ∀ a, P a → P' a) : RRs K G F H σ rs vs P' := by
  cases h with
  | nil => exact .nil
  | cons h1 h2 h3 h4 => exact .cons (fun b hb => ⟨hp b (h1 b hb).1, (h1 b hb).2⟩) (fun b hb => hp b (h2 b hb)) h3 h4
theorem RR.stay {r : R} {v : V} (h : RR K G F H σ r v P) (s : Sub F F') (k : ∀ a o, P a → H a = some o → H' a = some o) (hr : r.held) : RR K G F' H' σ r v P := by
  cases h with
  | d h => exact .d (h.mono s)
  | own h => exact .own (h.stay s k)
  | @pth i sel _ _ _ h1 h2 =>
    cases sel with
    | nil => exact .pth h1 h2
    | cons k sel => exact (hr : False).elim
theorem RRs.stay : ∀ {rs : List R} {vs : List V} {P : Addr → Prop}, RRs K G F H σ rs vs P → (s : Sub F F') → (k : ∀ a o, P a → H a = some o → H' a = some o) → (hr : ∀ r ∈ rs, r.held) → RRs K G F' H' σ rs vs P
  | _, _, _, .nil, s, k, hr => .nil
  | _, _, _, .cons h1 h2 h3 h4, s, k, hr => .cons h1 h2 (h3.stay s (fun a o ha e => k a o (h1 a ha).1 e) (hr _ (by simp))) (RRs.stay h4 s (fun a o ha e => k a o (h2 a ha) e) fun r hm => hr r (by simp [hm]))
theorem RR.trk {r : R} {v : V} (h : RR K G F H σ r v P) : RR K G F H σ r v fun a => P a ∧ H a ≠ none := by
  cases h with
  | d h => exact .d h
  | own h => exact .own h.trk
  | pth h1 h2 => exact .pth h1 h2
theorem RRs.length : ∀ {rs : List R} {vs : List V} {P : Addr → Prop}, RRs K G F H σ rs vs P → rs.length = vs.length
  | _, _, _, .nil => rfl
  | _, _, _, .cons _ _ _ h4 => by simp [h4.length]
theorem RRs.append {ss : List R} {us : List V} {P2 : Addr → Prop} : ∀ {rs : List R} {vs : List V} {P1 : Addr → Prop}, RRs K G F H σ rs vs P1 → RRs K G F H σ ss us P2 → (∀ a, P1 a → ¬ P2 a) → RRs K G F H σ (rs ++ ss) (vs ++ us) fun a => P1 a ∨ P2 a
  | _, _, _, .nil, h, _ => h.big fun _ z => .inr z
  | _, _, _, .cons (P1 := Q1) (P2 := Q2) h1 h2 h3 h4, h, dj => by
    refine .cons (P1 := Q1) (P2 := fun a => Q2 a ∨ P2 a) (fun b hb => ⟨.inl (h1 b hb).1, fun z => z.elim (h1 b hb).2 (dj b (h1 b hb).1)⟩) (fun b hb => hb.imp (h2 b) id) h3 (RRs.append h4 h fun a z => dj a (h2 a z))
theorem RRs.one {r : R} {vs : List V} (h : RRs K G F H σ [r] vs P) : ∃ v, vs = [v] ∧ RR K G F H σ r v P := by
  cases h with
  | cons h1 h2 h3 h4 =>
    cases h4
    exact ⟨_, rfl, h3.big fun a ha => (h1 a ha).1⟩
theorem RRs.mk1 {r : R} {v : V} (h : RR K G F H σ r v P) : RRs K G F H σ [r] [v] P := .cons (P1 := P) (P2 := fun _ => False) (fun b hb => ⟨hb, id⟩) (fun _ z => z.elim) h .nil
theorem RRs.ofD : ∀ {ds : List D} {vs : List V}, DRs K G F vs ds → RRs K G F H σ (ds.map .d) vs P
  | [], _, h => by cases h; exact .nil
  | d :: ds, _, h => by
    cases h with
    | cons h1 h2 => exact .cons (P1 := fun _ => False) (P2 := P) (fun _ z => z.elim) (fun _ z => z) (.d h1) (RRs.ofD h2)

/-! ### holes -/
theorem WRs.hole : ∀ {ws : List W} {vs : List V} {P : Addr → Prop} {k : Nat} {w : W}, WRs K G F H ws vs P → ws[k]? = some w →
    ∃ v Pk, vs[k]? = some v ∧ WR K G F H w v Pk ∧ (∀ a, Pk a → P a) ∧ ∀ (F' H' : Hp) (w2 : W) (v2 : V) (P2 : Addr → Prop), Sub F F' → (∀ a o, P a → ¬ Pk a → H a = some o → H' a = some o) → (∀ a, P2 a → P a → Pk a) →
      WR K G F' H' w2 v2 P2 → WRs K G F' H' (ws.set k w2) (vs.set k v2) fun a => (P a ∧ ¬ Pk a) ∨ P2 a
  | [], _, _, k, w, h, e => by simp at e
  | w0 :: ws, _, _, 0, w, h, e => by
    cases h with
    | @cons _ v0 _ vs P P1 P2' h1 h2 h3 h4 =>
      simp at e
      subst e
      refine ⟨v0, P1, rfl, h3, fun a ha => (h1 a ha).1, fun F' H' w2 v2 P2 s k dj hw => ?_⟩
      refine .cons (P1 := P2) (P2 := fun a => P2' a ∧ ¬ P1 a) (fun b hb => ⟨.inr hb, fun z => z.2 (dj b hb (h2 b z.1))⟩) (fun b hb => .inl ⟨h2 b hb.1, hb.2⟩) hw ?_
      have q : WRs K G F' H' ws vs P2' := h4.stay s fun a o ha e => k a o (h2 a ha) (fun z => (h1 a z).2 ha) e
      exact q.big fun a ha => ⟨ha, fun z => (h1 a z).2 ha⟩
  | w0 :: ws, _, _, k + 1, w, h, e => by
    cases h with
    | @cons _ v0 _ vs P P1 P2' h1 h2 h3 h4 =>
      obtain ⟨v, Pk, e1, hw, hs, hk⟩ := WRs.hole (k := k) h4 (by simpa using e)
      refine ⟨v, Pk, by simpa using e1, hw, fun a ha => h2 a (hs a ha), fun F' H' w2 v2 P2 s kp dj hw2 => ?_⟩
      have q := hk F' H' w2 v2 P2 s (fun a o ha n e => kp a o (h2 a ha) n e) (fun a z1 z2 => dj a z1 (h2 a z2)) hw2
      refine .cons (P1 := P1) (P2 := fun a => (P2' a ∧ ¬ Pk a) ∨ P2 a) (fun b hb => ⟨.inl ⟨(h1 b hb).1, fun z => (h1 b hb).2 (hs b z)⟩, fun z => z.elim (fun z => (h1 b hb).2 z.1) fun z => (h1 b hb).2 (hs b (dj b z (h1 b hb).1))⟩)
        (fun b hb => hb.imp (fun z => ⟨h2 b z.1, z.2⟩) id) (h3.stay s fun a o ha e => kp a o (h1 a ha).1 (fun z => (h1 a ha).2 (hs a z)) e) (by simpa using q)
theorem WR.hole : ∀ {sel : List Nat} {w : W} {v : V} {P : Addr → Prop} {w1 : W}, WR K G F H w v P → w.at sel = some w1 →
    ∃ u P1, PathV H v sel u ∧ WR K G F H w1 u P1 ∧ (∀ a, P1 a → P a) ∧ ∀ (F' H' : Hp) (w2 : W) (P2 : Addr → Prop), Sub F F' → (∀ a o, P a → ¬ P1 a → H a = some o → H' a = some o) → (∀ a, P2 a → P a → P1 a) →
      WR K G F' H' w2 u P2 → ∃ w', w.put sel w2 = some w' ∧ WR K G F' H' w' v fun a => (P a ∧ ¬ P1 a) ∨ P2 a
  | [], w, v, P, w1, h, e => by
    have e' : w = w1 := by simpa [W.at] using e
    subst e'
    refine ⟨v, P, rfl, h, fun _ z => z, fun F' H' w2 P2 s k dj hw => ⟨w2, by simp [W.put], hw.big fun a ha => .inr ha⟩⟩
  | k :: sel, w, v, P, w1, h, e => by
    cases w with
    | d x => simp [W.at] at e
    | dct lk kvs => simp [W.at] at e
    | dcn kvs => simp [W.at] at e
    | scr xs => simp [W.at] at e
    | lst ws =>
      cases h with
      | @lst _ a vs _ P' h1 h2 h3 h4 =>
        rw [W.at] at e
        cases ek : ws[k]? with
        | none => rw [ek] at e; cases e
        | some wk =>
          rw [ek] at e
          have e' : wk.at sel = some w1 := e
          obtain ⟨vk, Pk, ev, hwk, hs, hk⟩ := h4.hole ek
          obtain ⟨u, P1, hp, hw1, hs1, hk1⟩ := WR.hole (sel := sel) hwk e'
          refine ⟨u, P1, ⟨a, vs, vk, rfl, h1, ev, hp⟩, hw1, fun b hb => (h3 b (hs b (hs1 b hb))).1, fun F' H' w2 P2 s kp dj hw2 => ?_⟩
          obtain ⟨wk', ep, hwk'⟩ := hk1 F' H' w2 P2 s (fun b o hb n e => kp b o (h3 b (hs b hb)).1 n e) (fun b z1 z2 => dj b z1 (h3 b (hs b z2)).1) hw2
          have q := hk F' H' wk' vk (fun a => (Pk a ∧ ¬ P1 a) ∨ P2 a) s (fun b o hb n e => kp b o (h3 b hb).1 (fun z => n (hs1 b z)) e) (fun b z1 z2 => z1.elim (fun z => z.1) fun z => hs1 b (dj b z (h3 b z2).1)) hwk'
          have ev2 : vs.set k vk = vs := by
            apply List.ext_getElem?
            intro j
            by_cases hj : k = j
            · subst hj
              rw [List.getElem?_set_self (List.getElem?_eq_some_iff.mp ev).1, ev]
            · rw [List.getElem?_set_ne hj]
          rw [ev2] at q
          have na : ¬ P1 a := fun z => (h3 a (hs a (hs1 a z))).2 rfl
          refine ⟨.lst (ws.set k wk'), ?_, .lst (P' := fun b => (P' b ∧ ¬ Pk b) ∨ ((Pk b ∧ ¬ P1 b) ∨ P2 b)) (kp a _ h2 na h1) (.inl ⟨h2, na⟩) (fun b hb => ?_) q⟩
          · rw [W.put, ek]
            show (W.put wk sel w2).map _ = _
            rw [ep]
            rfl
          · rcases hb with hb | hb | hb
            · exact ⟨.inl ⟨(h3 b hb.1).1, fun z => hb.2 (hs1 b z)⟩, (h3 b hb.1).2⟩
            · exact ⟨.inl ⟨(h3 b (hs b hb.1)).1, hb.2⟩, (h3 b (hs b hb.1)).2⟩
            · refine ⟨.inr hb, fun z => ?_⟩
              subst z
              exact na (dj _ hb h2)

/-! ### freezing -/
mutual
theorem WR.toDR (s : Sub F F') : ∀ {w : W} {v : V} {P : Addr → Prop} {x : D}, (∀ a o, P a → H a = some o → F' a = some o) → WR K G F H w v P → w.frz = some x → DR K G F' v x
  | .d y, v, P, x, k, h, e => by
    cases h with
    | d h =>
      have e' : y = x := by simpa [W.frz] using e
      subst e'
      exact h.mono s
  | .lst ws, v, P, x, k, h, e => by
    cases h with
    | lst h1 h2 h3 h4 =>
      rw [W.frz] at e
      cases e1 : frzs ws with
      | none => rw [e1] at e; cases e
      | some xs =>
        rw [e1] at e
        cases e
        exact .lst (k _ _ h2 h1) (WRs.toDR s (ws := ws) (fun a o ha e => k a o (h3 a ha).1 e) h4 e1)
  | .dct _ _, _, _, _, _, _, e => by simp [W.frz] at e
  | .dcn _, _, _, _, _, _, e => by simp [W.frz] at e
  | .scr _, _, _, _, _, _, e => by simp [W.frz] at e
theorem WRs.toDR (s : Sub F F') : ∀ {ws : List W} {vs : List V} {P : Addr → Prop} {xs : List D}, (∀ a o, P a → H a = some o → F' a = some o) → WRs K G F H ws vs P → frzs ws = some xs → DRs K G F' vs xs
  | [], _, _, _, k, h, e => by cases h; cases e; exact .nil
  | w :: ws, _, _, xs, k, h, e => by
    cases h with
    | cons h1 h2 h3 h4 =>
      rw [frzs] at e
      cases e0 : w.frz with
      | none => rw [e0] at e; cases e
      | some x =>
        rw [e0] at e
        cases e1 : frzs ws with
        | none => rw [e1] at e; cases e
        | some ys =>
          rw [e1] at e
          cases e
          exact .cons (WR.toDR s (w := w) (fun a o ha e => k a o (h1 a ha).1 e) h3 e0) (WRs.toDR s (ws := ws) (fun a o ha e => k a o (h2 a ha) e) h4 e1)
end
/-- F and what is owned -/
noncomputable def fz (F H : Hp) (P : Addr → Prop) : Hp := fun a => match F a with
  | some o => some o
  | none => match Classical.propDecidable (P a) with
    | .isTrue _ => H a
    | .isFalse _ => none
theorem fz_sub (F H : Hp) (P : Addr → Prop) : Sub F (fz F H P) := fun a o e => by unfold fz; rw [e]
theorem fz_at (g : Sub F H) (P : Addr → Prop) : ∀ a o, P a → H a = some o → fz F H P a = some o := fun a o p e => by
  unfold fz
  cases q : F a with
  | some o' => show some o' = some o; rw [← g a o' q, e]
  | none =>
    cases Classical.propDecidable (P a) with
    | isTrue _ => exact e
    | isFalse n => exact (n p).elim
theorem fz_in (g : Sub F H) (P : Addr → Prop) : Sub (fz F H P) H := fun a o e => by
  unfold fz at e
  cases q : F a with
  | some o' => rw [q] at e; cases e; exact g a _ q
  | none =>
    rw [q] at e
    cases h : Classical.propDecidable (P a) with
    | isTrue _ => rw [h] at e; exact e
    | isFalse n => rw [h] at e; cases e
theorem fz_of : ∀ {a : Addr} {o : HO}, fz F H P a = some o → F a = some o ∨ P a := fun {a o} e => by
  unfold fz at e
  cases q : F a with
  | some o' => rw [q] at e; exact .inl e
  | none =>
    rw [q] at e
    cases h : Classical.propDecidable (P a) with
    | isTrue p => exact .inr p
    | isFalse n => rw [h] at e; cases e
theorem fz_step (g : Good F H P) (hq : ∀ a, Q a → P a) : Step F H P (fz F H Q) H (fun a => P a ∧ ¬ Q a) ∧ Good (fz F H Q) H fun a => P a ∧ ¬ Q a := by
  refine ⟨⟨fz_sub F H Q, fun _ _ h _ => h, fun a h => .inl h.1, fun a o e => (fz_of e).imp id fun z => .inl (hq a z)⟩, fz_in g.sub Q, fun a h => ?_, fun a h => g.trk a h.1⟩
  cases e : fz F H Q a with
  | none => rfl
  | some o =>
    rcases fz_of e with z | z
    · rw [g.off a h.1] at z; cases z
    · exact (h.2 z).elim
/-- a slot's content is turned; the place of w1 in it -/
theorem SR.hole {i : Nat} {sel : List Nat} {p : Bool} {w w1 : W} (S : SR K G F H env σ P) (e : env[i]? = some (.ok p w)) (ea : w.at sel = some w1) :
    ∃ v u P1, σ[i]? = some (some v) ∧ PathV H v sel u ∧ WR K G F H w1 u P1 ∧ (∀ a, P1 a → P a) ∧ ∀ (F' H' : Hp) (w2 : W) (P2 : Addr → Prop), Sub F F' → (∀ a o, P a → ¬ P1 a → H a = some o → H' a = some o) → (∀ a, P2 a → P a → P1 a) →
      WR K G F' H' w2 u P2 → Good F' H' (fun a => (P a ∧ ¬ P1 a) ∨ P2 a) → ∃ w', w.put sel w2 = some w' ∧ SR K G F' H' (env.set i (.ok p w')) σ fun a => (P a ∧ ¬ P1 a) ∨ P2 a := by
  obtain ⟨Ps, hs, dj, hr⟩ := S.rel
  obtain ⟨v, ev, hw⟩ := hr i p w e
  obtain ⟨u, P1, hp, hw1, hs1, hk⟩ := hw.hole ea
  refine ⟨v, u, P1, ev, hp, hw1, fun a ha => hs i a (hs1 a ha), fun F' H' w2 P2 s kp d2 hw2 g => ?_⟩
  obtain ⟨w', ep, hw'⟩ := hk F' H' w2 P2 s (fun a o ha n e => kp a o (hs i a ha) n e) (fun a z1 z2 => d2 a z1 (hs i a z2)) hw2
  have hi : i < env.length := (List.getElem?_eq_some_iff.mp e).1
  refine ⟨w', ep, by simpa using S.len, g, fun j a => if j = i then (Ps i a ∧ ¬ P1 a) ∨ P2 a else Ps j a, fun j a h => ?_, fun j k a h1 h2 => ?_, fun j q z ez => ?_⟩
  · by_cases hj : j = i
    · simp only [hj, if_true] at h
      exact h.imp (fun z => ⟨hs i a z.1, z.2⟩) id
    · simp only [hj, if_false] at h
      exact .inl ⟨hs j a h, fun z => hj (dj j i a h (hs1 a z))⟩
  · by_cases hj : j = i <;> by_cases hk : k = i
    · rw [hj, hk]
    · simp only [hj, if_true] at h1
      simp only [hk, if_false] at h2
      rcases h1 with z | z
      · exact hj.trans (dj i k a z.1 h2)
      · exact hj.trans (dj i k a (hs1 a (d2 a z (hs k a h2))) h2)
    · simp only [hj, if_false] at h1
      simp only [hk, if_true] at h2
      rcases h2 with z | z
      · exact (dj j i a h1 z.1).trans hk.symm
      · exact (dj j i a h1 (hs1 a (d2 a z (hs j a h1)))).trans hk.symm
    · simp only [hj, if_false] at h1
      simp only [hk, if_false] at h2
      exact dj j k a h1 h2
  · by_cases hj : j = i
    · subst hj
      rw [List.getElem?_set_self hi] at ez
      cases ez
      exact ⟨v, ev, by simpa using hw'⟩
    · rw [List.getElem?_set_ne (Ne.symm hj)] at ez
      obtain ⟨vj, e1, hwj⟩ := hr j q z ez
      refine ⟨vj, e1, ?_⟩
      simp only [hj, if_false]
      exact hwj.stay s fun a o ha e => kp a o (hs j a ha) (fun z => hj (dj j i a ha (hs1 a z))) e
/-- a place becomes data -/
theorem SR.frzAt {i : Nat} {sel : List Nat} {x : D} {env' : Env} (S : SR K G F H env σ P) (e : frzAt i sel env = some (.ok x, env')) :
    ∃ F' P' v u, SR K G F' H env' σ P' ∧ Step F H P F' H P' ∧ σ[i]? = some (some v) ∧ PathV H v sel u ∧ DR K G F' u x := by
  unfold Ev.frzAt at e
  split at e
  · rename_i p w ei
    split at e
    · rename_i w1 ea
      split at e
      · rename_i y ef
        split at e
        · rename_i w' ep
          cases e
          obtain ⟨v, u, P1, ev, hp, hw1, hs, hk⟩ := S.hole ei ea
          obtain ⟨st, g⟩ := fz_step S.good hs
          have dr : DR K G (fz F H P1) u x := hw1.toDR (fz_sub F H P1) (fz_at S.good.sub P1) ef
          obtain ⟨w'', ep', S'⟩ := hk (fz F H P1) H (.d x) (fun _ => False) (fz_sub F H P1) (fun _ _ _ _ h => h) (fun _ z => z.elim) (.d dr) (g.less fun a h => h.elim id fun z => z.elim)
          rw [ep] at ep'
          cases ep'
          exact ⟨_, _, v, u, S', st.wide (fun _ h => h) (fun a h => h.elim (fun z => .inl z) fun z => z.elim), ev, hp, dr⟩
        · cases e
      · cases e
    · cases e
  · cases e
end
end Ev
end

section
set_option Elab.async false
set_option linter.all false
set_option autoImplicit true
set_option maxRecDepth 100000
set_option maxHeartbeats 4000000
/-! EvD: readings; one evaluation behind another. -/
namespace Ev
open PySem PySem.Spec PyProof.Rows L2
open Classical (byContradiction)

/-- what is fixed: the written part, where functions and classes stand, what the classes keep their arguments as -/
structure Cfg where
  K : PySem.W.Frag
  G : GX
  C : Nat → Option Addr
  fld : Nat → List Str
/-- an exception in the air -/
def ExR (c : Cfg) (F H : Hp) (x : Exc) (cls : Value) (d : Option Addr) : Prop :=
  ∃ a vs, c.C x.cls = some a ∧ cls = .ref a ∧ DRs c.K c.G F vs x.args ∧ ((c.fld x.cls = [] ∧ d = none) ∨ ∃ dd, d = some dd ∧ H dd = some (.xd ((c.fld x.cls).zip vs)))
/-- names and answers that are held -/
structure Tm (c : Cfg) (F H : Hp) (env : Env) (σ : L2.St) (P : Addr → Prop) (rs : List R) (vs : List V) (Pt : Addr → Prop) : Prop where
  sr : SR c.K c.G F H env σ P
  rr : RRs c.K c.G F H σ rs vs Pt
  dj : ∀ a, P a → ¬ Pt a
  gt : Good F H Pt
/-- behind an evaluation: Kp, what is wanted of an answer -/
def AftG (c : Cfg) (Wx : WX) (σ : L2.St) (F H : Hp) (P : Addr → Prop) {α : Type} (res : Option (Res α × Env)) (Kp : α → Env → Prop) : Prop := match res with
  | none => False
  | some (.ok a, env') => Kp a env'
  | some (.ex x, env') => ∀ cls d F' H' P', SR c.K c.G F' H' env' σ P' → ExR c F' H' x cls d → Step F H P F' H' P' → Wx cls d σ H'
abbrev Aft (c : Cfg) (Wx : WX) (σ : L2.St) (F H : Hp) (P : Addr → Prop) (res : Option (Res (List R) × Env)) (Q : List V → Hp → Prop) : Prop :=
  AftG c Wx σ F H P res fun rs env' => ∀ vs F' H' P' Pt, Tm c F' H' env' σ P' rs vs Pt → Step F H P F' H' (fun a => P' a ∨ Pt a) → Q vs H'
abbrev AftB (c : Cfg) (Wx : WX) (σ : L2.St) (F H : Hp) (P : Addr → Prop) (res : Option (Res Bool × Env)) (Q : Bool → Hp → Prop) : Prop :=
  AftG c Wx σ F H P res fun k env' => ∀ F' H' P', SR c.K c.G F' H' env' σ P' → Step F H P F' H' P' → Q k H'
section
variable {c : Cfg} {Wx : WX} {σ : L2.St} {F F1 H H1 : Hp} {P P1 Pt : Addr → Prop} {env env1 : Env} {Q Q' : List V → Hp → Prop} {rs : List R} {vs : List V}
theorem Tm.nil (S : SR c.K c.G F H env σ P) : Tm c F H env σ P [] [] fun _ => False := ⟨S, .nil, fun _ _ z => z, Good.none S.good.sub⟩
theorem Step.nil (F H : Hp) (P : Addr → Prop) : Step F H P F H fun a => P a ∨ False := (Step.refl F H P).wide (fun _ h => h) fun _ h => h.elim .inl fun z => z.elim
/-- another evaluation behind what is held -/
theorem Tm.more {rs2 : List R} {vs2 : List V} {F2 H2 : Hp} {P2 Pt2 : Addr → Prop} {env2 : Env} (t : Tm c F1 H1 env1 σ P1 rs vs Pt) (hr : ∀ r ∈ rs, r.held) (t2 : Tm c F2 H2 env2 σ P2 rs2 vs2 Pt2)
    (s : Step F1 H1 P1 F2 H2 fun a => P2 a ∨ Pt2 a) : Tm c F2 H2 env2 σ P2 (rs ++ rs2) (vs ++ vs2) fun a => Pt a ∨ Pt2 a := by
  obtain ⟨g, dj, kp⟩ := s.aside t.gt t.dj (t2.sr.good.or t2.gt)
  exact ⟨t2.sr, (t.rr.stay s.ext kp hr).append t2.rr fun a z1 z2 => dj a (.inr z2) z1, fun a z1 z2 => z2.elim (dj a (.inl z1)) (t2.dj a z1), g.or t2.gt⟩
theorem Step.more {F2 H2 : Hp} {P2 Pt2 : Addr → Prop} (s : Step F H P F1 H1 fun a => P1 a ∨ Pt a) (s2 : Step F1 H1 P1 F2 H2 fun a => P2 a ∨ Pt2 a) : Step F H P F2 H2 fun a => P2 a ∨ (Pt a ∨ Pt2 a) := by
  have q : Step F1 H1 (fun a => P1 a ∨ Pt a) F2 H2 (fun a => P2 a ∨ (Pt a ∨ Pt2 a)) := s2.wide (fun _ h => .inl h) fun a h => by
    rcases h with h | h | h
    · exact .inl (.inl h)
    · exact .inr (.inl (.inr h))
    · exact .inl (.inr h)
  exact s.trans q
theorem Aft.seq {β : Type} {Kp : β → Env → Prop} {m : M (List R)} {f : List R → M β} (h : AftG c Wx σ F H P (bnd m f env1) Kp) (t : Tm c F1 H1 env1 σ P1 rs vs Pt) (hr : ∀ r ∈ rs, r.held) (s : Step F H P F1 H1 fun a => P1 a ∨ Pt a)
    (k : ∀ rs2 env2 vs2 F2 H2 P2 Pt2, m env1 = some (.ok rs2, env2) → Tm c F2 H2 env2 σ P2 (rs ++ rs2) (vs ++ vs2) (fun a => Pt a ∨ Pt2 a) → Tm c F2 H2 env2 σ P2 rs2 vs2 Pt2 → Step F H P F2 H2 (fun a => P2 a ∨ (Pt a ∨ Pt2 a)) → AftG c Wx σ F H P (f rs2 env2) Kp → Q' vs2 H2) :
    Aft c Wx σ F1 H1 P1 (m env1) Q' := by
  unfold bnd at h
  cases e : m env1 with
  | none => rw [e] at h; exact h
  | some r =>
    obtain ⟨r, env2⟩ := r
    rw [e] at h
    cases r with
    | ok rs2 => exact fun vs2 F2 H2 P2 Pt2 t2 s2 => k rs2 env2 vs2 F2 H2 P2 Pt2 e (t.more hr t2 s2) t2 (s.more s2) h
    | ex x =>
      intro cls d F2 H2 P2 S2 ex s2
      exact h cls d F2 H2 P2 S2 ex (s.trans (s2.wide (fun _ h => .inl h) fun _ h => .inl h))
/-- the first evaluation -/
theorem Aft.fst {β : Type} {Kp : β → Env → Prop} {m : M (List R)} {f : List R → M β} (h : AftG c Wx σ F H P (bnd m f env) Kp) (S : SR c.K c.G F H env σ P)
    (k : ∀ rs env1 vs F1 H1 P1 Pt, m env = some (.ok rs, env1) → Tm c F1 H1 env1 σ P1 rs vs Pt → Step F H P F1 H1 (fun a => P1 a ∨ Pt a) → AftG c Wx σ F H P (f rs env1) Kp → Q' vs H1) :
    Aft c Wx σ F H P (m env) Q' := by
  refine Aft.seq h (Tm.nil S) (by simp) (Step.nil F H P) fun rs2 env2 vs2 F2 H2 P2 Pt2 e _ t2 s2 h2 => k rs2 env2 vs2 F2 H2 P2 Pt2 e t2 (s2.wide (fun _ h => h) fun a h => ?_) h2
  rcases h with h | h
  · exact .inl (.inl h)
  · exact .inl (.inr (.inr h))
/-- the last evaluation: nothing follows -/
theorem Aft.last {m : M (List R)} (h : Aft c Wx σ F H P (m env1) Q) (t : Tm c F1 H1 env1 σ P1 rs vs Pt) (s : Step F H P F1 H1 fun a => P1 a ∨ Pt a) : Aft c Wx σ F1 H1 P1 (m env1) Q := by
  cases e : m env1 with
  | none => rw [e] at h; exact h
  | some r =>
    obtain ⟨r, env2⟩ := r
    rw [e] at h
    cases r with
    | ok rs2 =>
      intro vs2 F2 H2 P2 Pt2 t2 s2
      refine h vs2 F2 H2 P2 Pt2 t2 ((s.trans (s2.wide (fun _ h => .inl h) fun a h => ?_)))
      exact .inl h
    | ex x =>
      intro cls d F2 H2 P2 S2 ex s2
      exact h cls d F2 H2 P2 S2 ex (s.trans (s2.wide (fun _ h => .inl h) fun _ h => .inl h))

/-! ### small steps -/
theorem AftG.sole {β : Type} {Kp : β → Env → Prop} {f : R → M β} (h : AftG c Wx σ F H P (bnd (sole rs) f env1) Kp) : ∃ r, rs = [r] ∧ AftG c Wx σ F H P (f r env1) Kp := by
  cases rs with
  | nil => exact False.elim h
  | cons r rs =>
    cases rs with
    | nil => exact ⟨r, rfl, h⟩
    | cons _ _ => exact False.elim h
theorem AftG.lft {α β : Type} {Kp : β → Env → Prop} {o : Option α} {f : α → M β} (h : AftG c Wx σ F H P (bnd (Ev.lft o) f env1) Kp) : ∃ a, o = some a ∧ AftG c Wx σ F H P (f a env1) Kp := by
  cases o with
  | none => exact False.elim h
  | some a => exact ⟨a, rfl, h⟩
theorem AftG.end_ {β : Type} {Kp : β → Env → Prop} {o : Option β} (h : AftG c Wx σ F H P (Ev.lft o env1) Kp) : ∃ rs, o = some rs ∧ Kp rs env1 := by
  cases o with
  | none => exact False.elim h
  | some a => exact ⟨a, rfl, h⟩
theorem AftG.see {β : Type} {Kp : β → Env → Prop} {r : R} {f : W → M β} (h : AftG c Wx σ F H P (bnd (seeM r) f env1) Kp) : ∃ w, Ev.see env1 r = some w ∧ AftG c Wx σ F H P (f w env1) Kp := by
  unfold bnd seeM at h
  cases e : Ev.see env1 r with
  | none => rw [e] at h; exact False.elim h
  | some w => rw [e] at h; exact ⟨w, rfl, h⟩
theorem AftG.tru {β : Type} {Kp : β → Env → Prop} {r : R} {f : Bool → M β} (h : AftG c Wx σ F H P (bnd (truM r) f env1) Kp) : ∃ w k, Ev.see env1 r = some w ∧ Ev.tru w = some k ∧ AftG c Wx σ F H P (f k env1) Kp := by
  unfold bnd truM bnd seeM Ev.lft at h
  cases e : Ev.see env1 r with
  | none => rw [e] at h; exact False.elim h
  | some w =>
    rw [e] at h
    simp only [Option.map_some] at h
    cases e2 : Ev.tru w with
    | none => rw [e2] at h; exact False.elim h
    | some k => rw [e2] at h; exact ⟨w, k, rfl, e2, h⟩
/-- a held answer, looked at -/
theorem RR.see {r : R} {v : V} {w : W} (h : RR c.K c.G F H σ r v Pt) (S : SR c.K c.G F H env σ P) (e : see env r = some w) : ∃ P0, WR c.K c.G F H w v P0 ∧ ∀ a, P0 a → P a ∨ Pt a := by
  cases h with
  | d h => cases e; exact ⟨Pt, .d h, fun _ z => .inr z⟩
  | own h => cases e; exact ⟨Pt, h, fun _ z => .inr z⟩
  | @pth i sel v0 u _ h1 h2 =>
    have e' : look env i sel = some w := e
    unfold look at e'
    split at e'
    · rename_i p w0 ei
      obtain ⟨v1, u1, P1, ev, hp, hw, hs, _⟩ := S.hole ei e'
      rw [h1] at ev
      cases ev
      have uq : ∀ (sel : List Nat) (v u u' : V), PathV H v sel u → PathV H v sel u' → u = u' := by
        intro sel
        induction sel with
        | nil => intro v u u' q q'; exact (show v = u from q).symm.trans q'
        | cons k sel ih =>
          intro v u u' q q'
          obtain ⟨a, vs, v', rfl, e1, e2, e3⟩ := q
          obtain ⟨a', vs', v'', e0, e1', e2', e3'⟩ := q'
          cases e0
          rw [e1] at e1'
          cases e1'
          rw [e2] at e2'
          cases e2'
          exact ih _ _ _ e3 e3'
      rw [uq sel _ _ _ h2 hp]
      exact ⟨P1, hw, fun a z => .inl (hs a z)⟩
    · cases e'
theorem frzAt_ok {i : Nat} {sel : List Nat} {x : Exc} {env' : Env} : frzAt i sel env ≠ some (.ex x, env') := by
  unfold frzAt
  intro h
  split at h
  · split at h
    · split at h
      · split at h <;> cases h
      · cases h
    · cases h
  · cases h
theorem settle_ok {r : R} {x : Exc} {env' : Env} : settle r env ≠ some (.ex x, env') := by
  intro h
  unfold settle at h
  split at h
  · unfold bnd at h
    split at h
    · cases h
    · cases h
    · rename_i e; exact frzAt_ok e
  · cases h
/-- the places of one thing are one -/
theorem PathV.fix {H : Hp} : ∀ {sel : List Nat} {v u u' : V}, PathV H v sel u → PathV H v sel u' → u = u'
  | [], _, _, _, q, q' => (show _ = _ from q).symm.trans q'
  | k :: sel, _, _, _, q, q' => by
    obtain ⟨a, vs, v', rfl, e1, e2, e3⟩ := q
    obtain ⟨a', vs', v'', e0, e1', e2', e3'⟩ := q'
    cases e0
    rw [e1] at e1'
    cases e1'
    rw [e2] at e2'
    cases e2'
    exact PathV.fix e3 e3'
/-- an answer becomes another one at the same value: only F and the names' part change -/
theorem settle_run {r r' : R} {v : V} {env' : Env} (S : SR c.K c.G F H env σ P) (h : RR c.K c.G F H σ r v Pt) (e : settle r env = some (.ok r', env')) :
    ∃ F' P', SR c.K c.G F' H env' σ P' ∧ Step F H P F' H P' ∧ RR c.K c.G F' H σ r' v Pt ∧ r'.held := by
  unfold settle at e
  split at e
  · rename_i i k sel
    unfold bnd at e
    split at e
    · cases e
    · rename_i x e1 ef
      cases e
      obtain ⟨F', P', v0, u, S', st, ev, hp, dr⟩ := S.frzAt ef
      cases h with
      | pth h1 h2 =>
        rw [ev] at h1
        cases h1
        rw [← hp.fix h2]
        exact ⟨F', P', S', st, .d dr, trivial⟩
    · cases e
  · rename_i hn
    cases e
    refine ⟨F, P, S, Step.refl F H P, h, ?_⟩
    cases r with
    | d _ => trivial
    | own _ => trivial
    | pth i sel =>
      cases sel with
      | nil => trivial
      | cons k sel => exact (hn i k sel rfl).elim
theorem Step.held {F1' : Hp} {P1' : Addr → Prop} (s : Step F H P F1 H1 fun a => P1 a ∨ Pt a) (st : Step F1 H1 P1 F1' H1 P1') : Step F H P F1' H1 fun a => P1' a ∨ Pt a := by
  refine s.trans (st.wide (fun _ h => .inl h) fun a h => ?_)
  rcases h with h | h
  · exact .inl h
  · exact .inr (.inl (.inr h))
theorem AftG.settle {β : Type} {Kp : β → Env → Prop} {r : R} {v : V} {f : R → M β} (h : AftG c Wx σ F H P (bnd (settle r) f env1) Kp) (t : Tm c F1 H1 env1 σ P1 [r] [v] Pt) (s : Step F H P F1 H1 fun a => P1 a ∨ Pt a) :
    ∃ r' env2 F2 P2, r'.held ∧ Tm c F2 H1 env2 σ P2 [r'] [v] Pt ∧ Step F H P F2 H1 (fun a => P2 a ∨ Pt a) ∧ AftG c Wx σ F H P (f r' env2) Kp := by
  unfold bnd at h
  cases e : Ev.settle r env1 with
  | none => rw [e] at h; exact False.elim h
  | some p =>
    obtain ⟨p, env2⟩ := p
    rw [e] at h
    cases p with
    | ex x => exact (settle_ok e).elim
    | ok r' =>
      obtain ⟨v', ev, hr⟩ := t.rr.one
      cases ev
      obtain ⟨F2, P2, S2, st, hr2, hd⟩ := settle_run t.sr hr e
      obtain ⟨g, dj, _⟩ := st.aside t.gt t.dj S2.good
      exact ⟨r', env2, F2, P2, hd, ⟨S2, RRs.mk1 hr2, dj, g⟩, s.held st, h⟩
end
/-- readings -/
def rdA (c : Cfg) (Wx : WX) (T : Tb) (e : E) : TA := fun σ H Q => ∃ F P env, SR c.K c.G F H env σ P ∧ Aft c Wx σ F H P (ev T e env) Q
def rdE (c : Cfg) (Wx : WX) (T : Tb) (e : E) : TE := fun σ H Q => ∃ F P env, SR c.K c.G F H env σ P ∧ Aft c Wx σ F H P (ev T e env) fun vs H' => ∃ v, vs = [v] ∧ Q v H'
def rdT (c : Cfg) (Wx : WX) (T : Tb) (e : E) : TT := fun σ H Q => ∃ F P env, SR c.K c.G F H env σ P ∧ AftB c Wx σ F H P (bnd (ev T e) (fun rs => bnd (sole rs) truM) env) Q
end Ev
namespace L2
open PySem PySem.Spec PyProof.Rows
theorem PE.imp {X : Cx} {e : Expr} {t t' : TE} (h : PE X e t) (hi : ∀ σ H Q, t' σ H Q → t σ H Q) : PE X e t' := ⟨fun pins s σ H Q I hw => h.run pins s σ H Q I (hi _ _ _ hw)⟩
theorem PT.imp {X : Cx} {e : Expr} {t t' : TT} (h : PT X e t) (hi : ∀ σ H Q, t' σ H Q → t σ H Q) : PT X e t' := ⟨fun pins s σ H Q I hw => h.run pins s σ H Q I (hi _ _ _ hw)⟩
theorem PA.imp {X : Cx} {e : List Expr} {t t' : TA} (h : PA X e t) (hi : ∀ σ H Q, t' σ H Q → t σ H Q) : PA X e t' := ⟨fun pos pins s σ H Q I hw => h.run pos pins s σ H Q I (hi _ _ _ hw)⟩
theorem PS.imp {X : Cx} {e : Stmt} {t t' : TS} (h : PS X e t) (hi : ∀ D σ H, t' D σ H → t D σ H) : PS X e t' := ⟨fun pins s σ H D I hw => h.run pins s σ H D I (hi _ _ _ hw)⟩
theorem PSs.imp {X : Cx} {e : List Stmt} {t t' : TS} (h : PSs X e t) (hi : ∀ D σ H, t' D σ H → t D σ H) : PSs X e t' := ⟨fun pins s σ H D I hw => h.run pins s σ H D I (hi _ _ _ hw)⟩
theorem OpR.imp {X : Cx} {f : Value → Value → Sem Value} {t t' : R2} (h : OpR X f t) (hi : ∀ x y H Q, t' x y H Q → t x y H Q) : OpR X f t' := fun pins s σ H x y v u Q I rx ry hw => h pins s σ H x y v u Q I rx ry (hi _ _ _ _ hw)
theorem CallR.imp {X : Cx} {f : Value} {r r' : List V → Hp → VK → Prop} (h : CallR X f r) (hi : ∀ x H Q, r' x H Q → r x H Q) : CallR X f r' := by
  intro pins s σ H xs us Q I rx hw
  exact h pins s σ H xs us Q I rx (hi _ _ _ hw)
end L2
end

section
set_option Elab.async false
set_option linter.all false
set_option autoImplicit true
set_option maxRecDepth 100000
set_option maxHeartbeats 4000000
/-! EwL: dicts whose keys are nested tuples: read, stored. -/
namespace Ev
open PySem PySem.Spec PyProof.Rows L2
/-! ### dicts with tuple keys -/
section
variable {X : Cx} {c : Cfg} {pins : List (Addr × Obj)} {s : Shared} {σ : L2.St} {H F : Hp}
mutual
theorem nk_is (I : Inv X pins σ H s) (sb : Sub F H) : ∀ (k : NestedKey) (v : V) (u : Value), DR X.K c.G F v k.data → RelV v u → NestedIs s.heap k u
  | .none, v, u, h, r => by
    rw [NestedKey.data] at h
    cases h
    rw [(show u = .none from r)]
    exact .none
  | .num i, v, u, h, r => by
    rw [NestedKey.data] at h
    cases h
    obtain ⟨t, e⟩ := (show ∃ t, u = .int i t from r)
    subst e
    exact .int _ _
  | .text x, v, u, h, r => by
    rw [NestedKey.data] at h
    cases h
    obtain ⟨t, e⟩ := (show ∃ t, u = .str x t from r)
    subst e
    exact .text _ _
  | .tup ks, v, u, h, r => by
    rw [NestedKey.data] at h
    cases h with
    | tup h1 h2 =>
      obtain rfl := (show u = .ref _ from r)
      obtain ⟨its, hv, ⟨o, e1, e2, n, e3⟩, _⟩ := I.tuple (sb.sqT h1)
      exact .tup e1 e2 e3 (by simpa using nk_all I sb ks _ _ h2 hv)
theorem nk_all (I : Inv X pins σ H s) (sb : Sub F H) : ∀ (ks : List NestedKey) (vs : List V) (us : List Value), DRs X.K c.G F vs (NestedKey.datas ks) → Vals vs us → NestedAll s.heap ks us
  | [], vs, us, h, r => by
    rw [NestedKey.datas] at h
    cases h
    cases r
    exact .nil
  | k :: ks, vs, us, h, r => by
    rw [NestedKey.datas] at h
    cases h with
    | cons h1 h2 =>
      cases r with
      | cons r1 r2 => exact .cons (nk_is I sb k _ _ h1 r1) (nk_all I sb ks _ _ h2 r2)
end
theorem dn_of {a : Addr} {kvs : List (NestedKey × Ev.D)} {vs : List (NestedKey × Addr × V)} (hK : c.K = X.K) (I : Inv X pins σ H s) (sb : Sub F H) (h : H a = some (.ext (TabN X.prog X.w a vs))) (n : ND c.K c.G F kvs vs) :
    vs.length ≤ sizeLine ∧ (a == sysModules) = false ∧ (∀ x ∈ vs, x.1.depth ≤ 8) ∧ ∃ ys, Paired EntR vs ys ∧ s.heap.DictOfH (nestedKind X.prog X.w) a ys := by
  obtain ⟨⟨z, hd, hp, ys, rel, o, es, ep, h1, h2, h3, h4, h5⟩, hj⟩ := (show ObjOk X.prog X.w H s.heap a (.ext (TabN X.prog X.w a vs)) from I.hok a _ h)
  refine ⟨z, hd, hp, ys, rel, o, es, ep, h1, h2, h3, h4, ?_, h5⟩
  rw [hK] at n
  clear h h4 h5 z hj
  induction rel generalizing kvs with
  | nil => intro x hx; cases hx
  | @cons p q ps qs hq t ih =>
    cases n with
    | cons n1 n2 n3 =>
      intro x hx
      rcases List.mem_cons.mp hx with e | hx
      · subst e
        obtain ⟨e1, e2, _⟩ := hq
        rw [← e1, ← e2]
        exact ⟨nk_is I sb _ _ _ n1 rfl, hp _ (by simp)⟩
      · exact ih n3 (fun x hx => hp x (by simp [hx])) x hx
end
/-- the program, the world are the context's -/
def Cfg.On (c : Cfg) (X : Cx) : Prop := c.G.P = X.prog ∧ c.G.w = X.w
mutual
theorem keyN_data : ∀ {d : D} {k : NestedKey}, keyN d = some k → k.data = d
  | .none, k, h => by rw [keyN] at h; cases h; rfl
  | .int i, k, h => by rw [keyN] at h; cases h; rfl
  | .str x, k, h => by rw [keyN] at h; cases h; rfl
  | .tuple xs, k, h => by
    rw [keyN] at h
    cases e : keyNs xs with
    | none => rw [e] at h; cases h
    | some ks =>
      rw [e] at h
      cases h
      rw [NestedKey.data, keyNs_data e]
  | .bool _, k, h => by simp [keyN] at h
  | .list _, k, h => by simp [keyN] at h
  | .dict _, k, h => by simp [keyN] at h
theorem keyNs_data : ∀ {ds : List D} {ks : List NestedKey}, keyNs ds = some ks → NestedKey.datas ks = ds
  | [], ks, h => by rw [keyNs] at h; cases h; rfl
  | x :: xs, ks, h => by
    rw [keyNs] at h
    cases e : keyN x with
    | none => rw [e] at h; cases h
    | some k =>
      rw [e] at h
      cases e2 : keyNs xs with
      | none => rw [e2] at h; cases h
      | some ks' =>
        rw [e2] at h
        cases h
        rw [NestedKey.datas, keyN_data e, keyNs_data e2]
end
theorem tupK_ok {d : D} {k : NestedKey} (h : tupK d = some k) : (∃ xs, d = .tuple xs) ∧ k.data = d ∧ k.depth ≤ 8 := by
  unfold tupK at h
  split at h
  · rename_i ht
    cases e : keyN d with
    | none => rw [e] at h; cases h
    | some x =>
      rw [e] at h
      simp only [Option.bind_some] at h
      split at h
      · rename_i hz
        cases h
        refine ⟨?_, keyN_data e, hz⟩
        cases d <;> first | exact ⟨_, rfl⟩ | cases ht
      · cases h
  · cases h
/-- the entries behind a store -/
def storeV (vs : List (NestedKey × Addr × V)) (k : NestedKey) (b : Addr) (v : V) : List (NestedKey × Addr × V) :=
  if (vs.any fun x => decide (x.1 = k)) = true then vs.map (fun x => if x.1 = k then (x.1, x.2.1, v) else x) else vs ++ [(k, b, v)]
section
variable {c : Cfg} {Wx Wy : WX} {T : Tb} {X : Cx} {σ : L2.St} {F F1 F2 F3 H H1 H2 H3 F' H' Fx : Hp} {P P1 P2 P3 Pt Pn Pi Pw Pr : Addr → Prop} {env env1 env3 env' : Env} {rs : List R} {vs : List V} {i : Nat} {tg : Expr} {own : List Nat}
theorem storeV_rel {k : NestedKey} {b : Addr} {v : V} {r : Value} (rv : RelV v r) : ∀ {vs : List (NestedKey × Addr × V)} {ys : List (NestedKey × Addr × Value)}, Paired EntR vs ys → Paired EntR (storeV vs k b v) (storedH ys k b r) := by
  intro vs ys h
  have ha : (vs.any fun x => decide (x.1 = k)) = (atKey ys k).isSome := by
    unfold atKey
    induction h with
    | nil => rfl
    | @cons p q ps qs hq t ih =>
      rw [List.any_cons, List.find?_cons, ← hq.1]
      cases e : decide (p.1 = k) with
      | true => rfl
      | false => simpa using ih
  have hm : Paired EntR (vs.map (fun x => if x.1 = k then (x.1, x.2.1, v) else x)) (ys.map (putAt k r)) := by
    clear ha
    induction h with
    | nil => exact .nil
    | @cons p q ps qs hq t ih =>
      refine .cons ?_ ih
      unfold putAt
      dsimp only
      rw [← hq.1]
      by_cases e : p.1 = k
      · rw [if_pos e, if_pos e]; exact ⟨rfl, hq.2.1, rv⟩
      · rw [if_neg e, if_neg e]; exact hq
  have hap : Paired EntR (vs ++ [(k, b, v)]) (ys ++ [(k, b, r)]) := by
    clear ha hm
    induction h with
    | nil => exact .cons ⟨rfl, rfl, rv⟩ .nil
    | cons hq t ih => exact .cons hq ih
  unfold storeV storedH
  rw [ha]
  split
  · exact hm
  · exact hap
theorem nd_put {k : NestedKey} {b : Addr} {d : Ev.D} {v : V} (hk : DR c.K c.G F (.ref b) k.data) (hd : DR c.K c.G F v d) : ∀ {ds : List (NestedKey × Ev.D)} {vs : List (NestedKey × Addr × V)}, ND c.K c.G F ds vs → ND c.K c.G F (setN ds k d) (storeV vs k b v) := by
  intro ds vs h
  have ha : (ds.any fun x => decide (x.1 = k)) = (vs.any fun x => decide (x.1 = k)) := by
    induction h with
    | nil => rfl
    | cons h1 h2 h3 ih => rw [List.any_cons, List.any_cons, ih]
  have hm : ND c.K c.G F (ds.map (fun x => if x.1 = k then (x.1, d) else x)) (vs.map (fun x => if x.1 = k then (x.1, x.2.1, v) else x)) := by
    clear ha
    induction h with
    | nil => exact .nil
    | @cons k' b' d' v' ds vs h1 h2 h3 ih =>
      rw [List.map_cons, List.map_cons]
      by_cases e : k' = k
      · simp only [e, if_true]; exact .cons (e ▸ h1) hd ih
      · simp only [e, if_false]; exact .cons h1 h2 ih
  have hap : ND c.K c.G F (ds ++ [(k, d)]) (vs ++ [(k, b, v)]) := by
    clear ha hm
    induction h with
    | nil => exact .cons hk hd .nil
    | cons h1 h2 h3 ih => exact .cons h1 h2 ih
  unfold setN storeV
  rw [ha]
  split
  · exact hm
  · exact hap
theorem storeV_length (vs : List (NestedKey × Addr × V)) (k : NestedKey) (b : Addr) (v : V) : (storeV vs k b v).length ≤ vs.length + 1 := by
  unfold storeV; split <;> simp
theorem storeV_mem {vs : List (NestedKey × Addr × V)} {k : NestedKey} {b : Addr} {v : V} {n : Nat} (h : ∀ x ∈ vs, x.1.depth ≤ n) (hk : k.depth ≤ n) : ∀ x ∈ storeV vs k b v, x.1.depth ≤ n := by
  intro x hx
  unfold storeV at hx
  split at hx
  · obtain ⟨y, hy, rfl⟩ := List.mem_map.mp hx
    split <;> exact h y hy
  · rcases List.mem_append.mp hx with hx | hx
    · exact h x hx
    · simp at hx; subst hx; exact hk
theorem putN (hK : c.K = X.K) (hu : X.A.units + 65 < cLine) {X' : Cx} {pins : List (Addr × Obj)} {σ : L2.St} {s : Shared} {E : Value → Shared → Prop} {D b : Addr} {k : NestedKey} {d : Ev.D} {v : V} {r : Value} {kvs : List (NestedKey × Ev.D)} {vs : List (NestedKey × Addr × V)} {Q : Unit → Shared → Prop} (hG : c.On X)
    (e1 : X'.prog = X.prog) (e2 : X'.w = X.w) (e3 : X'.K = X.K) (I : Inv X' pins σ H s) (sb : Sub F H) (mu : Mut (H D)) (z : vs.length < sizeLine) (hd : (D == sysModules) = false) (hdp : ∀ x ∈ vs, x.1.depth ≤ 8) (hk : k.depth ≤ 8)
    (n : ND c.K c.G F kvs vs) (dk : DR c.K c.G F (.ref b) k.data) (dv : DR c.K c.G F v d) (rv : RelV v r) (ys : List (NestedKey × Addr × Value)) (rel : Paired EntR vs ys) (dd : s.heap.DictOfH (nestedKind X.prog X.w) D ys)
    (q : ∀ s', Inv X' pins σ (upd H D (.ext (TabN c.G.P c.G.w D (storeV vs k b v)))) s' → ND c.K c.G F (setN kvs k d) (storeV vs k b v) → Q () s') : wpAny (model X.prog X.w) X.A (dictSet D (.ref b) r) Q E s := by
  refine wpAny_dictSet_heap (knd := nestedKind X.prog X.w) (hsz := by rw [← Paired.length rel]; omega) (show X.A.units + 8 < cLine by omega) (k := k) ⟨nk_is I sb k (.ref b) _ (by rw [e3, ← hK]; exact dk) (show L2.RelV (.ref b) (.ref b) from rfl), hk⟩ dd fun h' dd' hs => q _ ?_ (nd_put dk dv n)
  obtain ⟨o, es, ep, h1, h2, h3, h4, h5, h6⟩ := dd'
  rw [hG.1, hG.2]
  have tab : TabN X.prog X.w D (storeV vs k b v) h' := ⟨by have := storeV_length vs k b v; omega, hd, storeV_mem hdp hk, storedH ys k b r, storeV_rel rv rel, o, es, ep, h1, h2, h3, h4, h6⟩
  refine d_write I mu hs ⟨o, h1⟩ ⟨tab, ⟨o, h1⟩, fun g1 g2 t keep => ?_⟩
  obtain ⟨t1, t2, t3, ys', t4, o', es', ep', t5, t6⟩ := t
  exact ⟨t1, t2, t3, ys', t4, o', es', ep', keep o' t5, t6⟩
/-- what stands at a key -/
theorem nd_get {k : NestedKey} : ∀ {ds : List (NestedKey × Ev.D)} {us : List (NestedKey × Addr × V)} {ys : List (NestedKey × Addr × Value)}, ND c.K c.G F ds us → Paired EntR us ys →
    (∀ d, getN ds k = some d → ∃ p v, atKey ys k = some p ∧ RelV v p.2 ∧ DR c.K c.G F v d) ∧ (getN ds k = none → atKey ys k = none) := by
  intro ds us ys n
  unfold getN atKey
  induction n generalizing ys with
  | nil => intro r; cases r; exact ⟨(fun d e => by cases e), fun _ => rfl⟩
  | @cons k' b d' v' ds us h1 h2 h3 ih =>
    intro r
    cases r with
    | @cons p q ps qs hq t =>
      rw [List.find?_cons, List.find?_cons, ← hq.1]
      by_cases e : k' = k
      · rw [decide_eq_true e]
        exact ⟨(fun d ed => by cases ed; exact ⟨_, v', rfl, hq.2.2, h2⟩), fun ed => by cases ed⟩
      · rw [decide_eq_false e]
        exact ih t
/-- d[k] = v -/
theorem putN_item (hK : c.K = X.K) (hu : X.A.units + 65 < cLine) {pins : List (Addr × Obj)} {s : Shared} {A : Around} {E : Value → Shared → Prop} {D b : Addr} {k : NestedKey} {d : Ev.D} {v : V} {r : Value} {kvs : List (NestedKey × Ev.D)} {vs : List (NestedKey × Addr × V)} {Q : Unit → Shared → Prop} (hG : c.On X)
    (hA : A.units = X.A.units) (I : Inv X pins σ H s) (sb : Sub F H) (mu : Mut (H D)) (z : vs.length < sizeLine) (hd : (D == sysModules) = false) (hdp : ∀ x ∈ vs, x.1.depth ≤ 8) (hk : k.depth ≤ 8)
    (n : ND c.K c.G F kvs vs) (dk : DR c.K c.G F (.ref b) k.data) (dv : DR c.K c.G F v d) (rv : RelV v r) (ys : List (NestedKey × Addr × Value)) (rel : Paired EntR vs ys) (dd : s.heap.DictOfH (nestedKind X.prog X.w) D ys)
    (q : ∀ s', Inv X pins σ (upd H D (.ext (TabN c.G.P c.G.w D (storeV vs k b v)))) s' → ND c.K c.G F (setN kvs k d) (storeV vs k b v) → Q () s') : wpAny (model X.prog X.w) A (setItem (.ref D) (.ref b) r) Q E s := by
  refine wpAny_setItem_heap (knd := nestedKind X.prog X.w) (hsz := by rw [← Paired.length rel]; omega) (show A.in1.units + 8 < cLine by show A.units + 1 + 8 < cLine; omega) (k := k) ⟨nk_is I sb k (.ref b) _ (by rw [← hK]; exact dk) (show L2.RelV (.ref b) (.ref b) from rfl), hk⟩ dd fun h' dd' hs => q _ ?_ (nd_put dk dv n)
  obtain ⟨o, es, ep, h1, h2, h3, h4, h5, h6⟩ := dd'
  rw [hG.1, hG.2]
  have tab : TabN X.prog X.w D (storeV vs k b v) h' := ⟨by have := storeV_length vs k b v; omega, hd, storeV_mem hdp hk, storedH ys k b r, storeV_rel rv rel, o, es, ep, h1, h2, h3, h4, h6⟩
  refine d_write I mu hs ⟨o, h1⟩ ⟨tab, ⟨o, h1⟩, fun g1 g2 t keep => ?_⟩
  obtain ⟨t1, t2, t3, ys', t4, o', es', ep', t5, t6⟩ := t
  exact ⟨t1, t2, t3, ys', t4, o', es', ep', keep o' t5, t6⟩
/-- an empty dict, read so -/
theorem dn_empty {pins : List (Addr × Obj)} {s : Shared} {a : Addr} {us : List (Key × V)} (I : Inv X pins σ H s) (h : Rd H a (.dK us)) (e : us = []) : (a == sysModules) = false ∧ s.heap.DictOfH (nestedKind X.prog X.w) a [] := by
  subst e
  obtain ⟨zz, hd, ws, rel, o, es, ep, h4, h5, h6, _, h7, _⟩ := dk_rd I.hok h
  cases rel
  refine ⟨hd, o, es, ep, h4, h5, h6, ?_, by simp, by simp⟩
  generalize es.toList = l at h7 ⊢
  cases h7
  rfl
end
end Ev
end

section
set_option Elab.async false
set_option linter.all false
set_option autoImplicit true
set_option maxRecDepth 100000
set_option maxHeartbeats 4000000
/-! EvE: operators, comparisons, subscripts, slices by values. -/
namespace Ev
open PySem PySem.Spec PyProof.Rows L2

/-- something new stands, all else stays -/
structure New (F H F' H' : Hp) (Pn : Addr → Prop) : Prop where
  ext : Sub F F'
  keep : Sub H H'
  good : Good F' H' Pn
  frP : ∀ a, Pn a → H a = none
  frF : ∀ a o, F' a = some o → F a = some o ∨ H a = none
section
variable {c : Cfg} {F H : Hp} {P : Addr → Prop}
theorem New.refl (s : Sub F H) : New F H F H fun _ => False := ⟨Sub.refl F, Sub.refl H, Good.none s, fun _ z => z.elim, fun _ _ h => .inl h⟩
theorem sub_upd {H : Hp} {p : Addr} {o : HO} (h : H p = none) : Sub H (upd H p o) := fun b x e => by rw [upd_ne (ne_of_none e h)]; exact e
theorem off_of (s : Sub F H) {p : Addr} (h : H p = none) : F p = none := by
  cases e : F p with
  | none => rfl
  | some o => rw [s p o e] at h; cases h
theorem New.dat (s : Sub F H) {p : Addr} {o : HO} (h : H p = none) : New F H (upd F p o) (upd H p o) fun _ => False := by
  refine ⟨sub_upd (off_of s h), sub_upd h, Good.none fun a u e => ?_, fun _ z => z.elim, fun a u e => ?_⟩
  · by_cases ha : a = p
    · subst ha
      rw [upd_same] at e ⊢
      exact e
    · rw [upd_ne ha] at e ⊢
      exact s a u e
  · by_cases ha : a = p
    · subst ha; exact .inr h
    · rw [upd_ne ha] at e; exact .inl e
theorem New.own (s : Sub F H) {p : Addr} {o : HO} (h : H p = none) : New F H F (upd H p o) fun a => a = p := by
  refine ⟨Sub.refl F, sub_upd h, ⟨s.trans (sub_upd h), fun a e => ?_, fun a e => ?_⟩, fun a e => ?_, fun a u e => .inl e⟩
  · subst e; exact off_of s h
  · subst e; rw [upd_same]; simp
  · subst e; exact h
theorem WR.newL (s : Sub F H) {p : Addr} {vs : List V} {xs : List D} (h : DRs c.K c.G F vs xs) : WR c.K c.G F (upd H p (.lst vs)) (.lst (xs.map .d)) (.ref p) fun a => a = p :=
  .lst (P' := fun _ => False) upd_same rfl (fun _ z => z.elim) (WRs.ofD h)
theorem WR.newT (s : Sub F H) {p : Addr} {vs : List V} {xs : List D} (hp : H p = none) (h : DRs c.K c.G F vs xs) : WR c.K c.G (upd F p (.tup vs)) (upd H p (.tup vs)) (.d (.tuple xs)) (.ref p) P :=
  .d (.tup (SqT.of upd_same) (h.mono (sub_upd (off_of s hp))))
/-- an operator by values -/
def rW2 (c : Cfg) (f : W → W → Option W) : R2 := fun x y H Q => ∃ F v w P r, Sub F H ∧ WR c.K c.G F H v x P ∧ WR c.K c.G F H w y P ∧ f v w = some r ∧ ∀ u F' H' Pn, New F H F' H' Pn → WR c.K c.G F' H' r u Pn → Q u H'
theorem WR.ofInt {i : Int} {v : V} (h : WR c.K c.G F H (.d (.int i)) v P) : v = .int i := by
  cases h with
  | d h => cases h; rfl
theorem WR.ofStr {i : Str} {v : V} (h : WR c.K c.G F H (.d (.str i)) v P) : v = .str i := by
  cases h with
  | d h => cases h; rfl
theorem WR.ofBool {i : Bool} {v : V} (h : WR c.K c.G F H (.d (.bool i)) v P) : v = .bl i := by
  cases h with
  | d h => cases h; rfl
theorem WR.ofTup {xs : List D} {v : V} (s : Sub F H) (h : WR c.K c.G F H (.d (.tuple xs)) v P) : ∃ a vs, v = .ref a ∧ SqT c.K F a vs ∧ SqT c.K H a vs ∧ DRs c.K c.G F vs xs := by
  cases h with
  | d h =>
    cases h with
    | tup h1 h2 => exact ⟨_, _, rfl, h1, s.sqT h1, h2⟩
theorem WR.ofSeq {w : W} {xs : List D} {v : V} (s : Sub F H) (h : WR c.K c.G F H w v P) (e : seqD w = some xs) : ∃ a vs, v = .ref a ∧ H a = some (.lst vs) ∧ DRs c.K c.G F vs xs := by
  cases w with
  | d x =>
    cases x <;> simp [seqD] at e
    subst e
    cases h with
    | d h =>
      cases h with
      | lst h1 h2 => exact ⟨_, _, rfl, s _ _ h1, h2⟩
  | lst ws =>
    have e' : allD ws = some xs := e
    cases h with
    | lst h1 h2 h3 h4 => exact ⟨_, _, rfl, h1, h4.toD e'⟩
  | _ => simp [seqD] at e
theorem DRs.rep {xs : List D} {vs : List V} (h : DRs c.K c.G F vs xs) : ∀ n : Nat, DRs c.K c.G F (List.replicate n vs).flatten (List.replicate n xs).flatten
  | 0 => by simpa using DRs.nil
  | n + 1 => by
    rw [List.replicate_succ, List.replicate_succ, List.flatten_cons, List.flatten_cons]
    exact h.append (DRs.rep h n)
theorem big_line {n : Nat} (h : n ≤ big) : n ≤ sizeLine := by
  rw [sizeLine_eq]
  have : big = 1000000 := rfl
  omega
theorem big_lt {n : Nat} (h : n < big) : n < sizeLine := by
  rw [sizeLine_eq]
  have : big = 1000000 := rfl
  omega
theorem DRs.nil_iff {xs : List D} {vs : List V} (h : DRs c.K c.G F vs xs) : vs = [] ↔ xs = [] := by
  rw [← List.length_eq_zero_iff, h.length, List.length_eq_zero_iff]
end

section
variable {X : Cx} {c : Cfg}
theorem op_int (op : Operator) : OpR X (binaryOp op) fun x y H Q => ∃ i j k, x = .int i ∧ y = .int j ∧ binI op i j = some k ∧ Q (.int k) H := by
  intro pins s σ H x y v u Q I rx ry h
  obtain ⟨i, j, k, rfl, rfl, e, q⟩ := h
  cases op <;> simp only [binI] at e <;> try (cases e; done)
  · cases e; exact op_add pins s σ H _ _ v u Q I rx ry ⟨i, j, rfl, rfl, q⟩
  · cases e; exact op_sub pins s σ H _ _ v u Q I rx ry ⟨i, j, rfl, rfl, q⟩
  · split at e
    · rename_i hc
      cases e
      refine op_mul pins s σ H _ _ v u Q I rx ry ⟨i, j, rfl, rfl, ?_, q⟩
      unfold mulOk at hc
      rcases Bool.or_eq_true_iff.mp hc with z | z
      · exact .inl (of_decide_eq_true z)
      · exact .inr (of_decide_eq_true z)
    · cases e
  · split at e
    · rename_i hc
      cases e
      exact op_modN pins s σ H _ _ v u Q I rx ry ⟨i, j, rfl, rfl, of_decide_eq_true hc, q⟩
    · cases e
  · split at e
    · rename_i hc
      cases e
      have hc' := of_decide_eq_true hc
      exact op_pow pins s σ H _ _ v u Q I rx ry ⟨i, j, rfl, rfl, hc', q⟩
    · cases e
  · split at e
    · rename_i hc
      cases e
      have hc' := of_decide_eq_true hc
      exact op_fdivN pins s σ H _ _ v u Q I rx ry ⟨i, j, rfl, rfl, hc', q⟩
    · cases e
theorem op_binW (hK : c.K = X.K) (op : Operator) : OpR X (binaryOp op) (rW2 c (binop op)) := by
  intro pins s σ H x y v u Q I rx ry h
  obtain ⟨F, w1, w2, P, r, sb, h1, h2, e, q⟩ := h
  unfold binop at e
  split at e
  · rename_i i j
    obtain rfl := h1.ofInt
    obtain rfl := h2.ofInt
    cases ek : binI op i j with
    | none => rw [ek] at e; cases e
    | some k =>
      rw [ek] at e
      cases e
      exact op_int op pins s σ H _ _ v u Q I rx ry ⟨i, j, k, rfl, rfl, ek, q _ F H _ (.refl sb) (.d (.int k))⟩
  · rename_i a b
    obtain rfl := h1.ofStr
    obtain rfl := h2.ofStr
    split at e
    · split at e
      · rename_i hz
        cases e
        exact op_add_str pins s σ H _ _ v u Q I rx ry ⟨a, b, rfl, rfl, big_line hz, q _ F H _ (.refl sb) (.d (.str _))⟩
      · cases e
    · cases e
  · rename_i xs ys
    obtain ⟨a, vs, rfl, ha', ha, da⟩ := h1.ofTup sb
    obtain ⟨b, us, rfl, hb', hb, db⟩ := h2.ofTup sb
    split at e
    · split at e
      · rename_i hz
        cases e
        rw [hK] at ha hb
        refine op_catA pins s σ H _ _ v u Q I rx ry ⟨a, b, vs, us, rfl, rfl, ha, hb, ?_, fun hx => ?_, fun hx hy => ?_, fun hx hy p hp => ?_⟩
        · rw [da.length, db.length]; exact big_line hz
        · have e0 : xs = [] := da.nil_iff.mp hx
          subst e0
          exact q _ F H _ (.refl sb) (.d (.tup hb' db))
        · have e0 : ys = [] := db.nil_iff.mp hy
          subst e0
          rw [List.append_nil] at q
          exact q _ F H _ (.refl sb) (.d (.tup ha' da))
        · exact q _ _ _ _ (.dat sb hp) (WR.newT sb hp (da.append db))
      · cases e
    · cases e
  · rename_i xs k
    obtain ⟨a, vs, rfl, ha', ha, da⟩ := h1.ofTup sb
    obtain rfl := h2.ofInt
    split at e
    · split at e
      · rename_i hz
        cases e
        rw [hK] at ha
        exact op_repT pins s σ H _ _ v u Q I rx ry ⟨a, k, vs, rfl, rfl, ha, fun z => hz.1 (da.nil_iff.mp z), hz.2.1, hz.2.2.1, by rw [da.length]; exact hz.2.2.2, fun p hp => q _ _ _ _ (.dat sb hp) (WR.newT sb hp (da.rep _))⟩
      · cases e
    · cases e
  · rename_i k _ hn
    obtain rfl := h2.ofInt
    split at e
    · rename_i xs es
      obtain ⟨a, vs, rfl, ha, da⟩ := h1.ofSeq sb es
      split at e
      · rename_i hz
        cases e
        exact op_rep pins s σ H _ _ v u Q I rx ry ⟨a, k, vs, rfl, rfl, ha, by have := hz.1; omega, by have := hz.2.2; have : (big : Int) = 1000000 := rfl; omega, by rw [da.length]; exact big_line hz.2.1, fun p hp => q _ _ _ _ (.own sb hp) (WR.newL sb (da.rep _))⟩
      · cases e
    · cases e
  · split at e
    · rename_i xs ys es fs
      obtain ⟨a, vs, rfl, ha, da⟩ := h1.ofSeq sb es
      obtain ⟨b, us, rfl, hb, db⟩ := h2.ofSeq sb fs
      unfold addL at e
      split at e
      · rename_i hz
        cases e
        exact op_cat pins s σ H _ _ v u Q I rx ry ⟨a, b, vs, us, rfl, rfl, ha, hb, by rw [da.length, db.length]; exact big_line hz, fun p hp => q _ _ _ _ (.own sb hp) (WR.newL sb (da.append db))⟩
      · cases e
    · cases e
theorem un_unW (op : UnaryOp) : UnR X (unaryOp op) fun x H Q => ∃ F v P r, Sub F H ∧ WR c.K c.G F H v x P ∧ unop op v = some r ∧ ∀ u F' H' Pn, New F H F' H' Pn → WR c.K c.G F' H' r u Pn → Q u H' := by
  intro pins s σ H x v Q I rx h
  obtain ⟨F, w1, P, r, sb, h1, e, q⟩ := h
  unfold unop at e
  split at e
  · rename_i i
    obtain rfl := h1.ofInt
    cases e
    exact un_neg pins s σ H _ v Q I rx ⟨i, rfl, q _ F H _ (.refl sb) (.d (.int _))⟩
  · cases e

/-! ### comparisons -/
def rC2 (c : Cfg) (f : W → W → Option Bool) : R2 := fun x y H Q => ∃ F v w P P' k, Sub F H ∧ WR c.K c.G F H v x P ∧ WR c.K c.G F H w y P' ∧ f v w = some k ∧ Q (.bl k) H
mutual
theorem WR.dp {F H : Hp} (s : Sub F H) : ∀ {w : W} {v : V} {P : Addr → Prop} {x : D}, WR c.K c.G F H w v P → w.frz = some x → x.canLay0 = true → Dp c.K H v x
  | .d y, v, P, x, h, e, cl => by
    have e' : y = x := by simpa [W.frz] using e
    subst e'
    cases h with
    | d h => exact h.dp s cl
  | .lst ws, v, P, x, h, e, cl => by
    cases h with
    | lst h1 h2 h3 h4 =>
      rw [W.frz] at e
      cases e1 : frzs ws with
      | none => rw [e1] at e; cases e
      | some xs =>
        rw [e1] at e
        cases e
        exact .lst (SqL.of h1) (WRs.dp s (ws := ws) h4 e1 (by simpa [PyData.canLay0] using cl))
  | .dct _ _, _, _, _, _, e, _ => by simp [W.frz] at e
  | .dcn _, _, _, _, _, e, _ => by simp [W.frz] at e
  | .scr _, _, _, _, _, e, _ => by simp [W.frz] at e
theorem WRs.dp {F H : Hp} (s : Sub F H) : ∀ {ws : List W} {vs : List V} {P : Addr → Prop} {xs : List D}, WRs c.K c.G F H ws vs P → frzs ws = some xs → PyData.canLayAll0 xs = true → DpAll c.K H vs xs
  | [], _, _, _, h, e, _ => by cases h; cases e; exact .nil
  | w :: ws, _, _, xs, h, e, cl => by
    cases h with
    | cons h1 h2 h3 h4 =>
      rw [frzs] at e
      cases e0 : w.frz with
      | none => rw [e0] at e; cases e
      | some x =>
        rw [e0] at e
        cases e1 : frzs ws with
        | none => rw [e1] at e; cases e
        | some ys =>
          rw [e1] at e
          cases e
          rw [PyData.canLayAll0, Bool.and_eq_true] at cl
          exact .cons (WR.dp s (w := w) h3 e0 cl.1) (WRs.dp s (ws := ws) h4 e1 cl.2)
end
theorem eqW_of {x y : W} {k : Bool} (h : eqW x y = some k) : ∃ a b, x.frz = some a ∧ y.frz = some b ∧ fair a = true ∧ fair b = true ∧ k = PyData.eqv a b := by
  unfold eqW at h
  split at h
  · rename_i a b e1 e2
    split at h
    · rename_i hf
      cases h
      exact ⟨a, b, e1, e2, (Bool.and_eq_true_iff.mp hf).1, (Bool.and_eq_true_iff.mp hf).2, rfl⟩
    · cases h
  · cases h
theorem fair_lay {x : D} (h : fair x = true) : x.canLay0 = true := SeqAt.canLay_of_shaped h
theorem all_fair {xs : List D} (h : xs.all fair = true) : PyData.canLayAll0 xs = true := by
  induction xs with
  | nil => rfl
  | cons x xs ih =>
    rw [List.all_cons, Bool.and_eq_true] at h
    rw [PyData.canLayAll0, fair_lay h.1, ih h.2]
    rfl
theorem WR.non_iff {F H : Hp} {w : W} {v : V} {P : Addr → Prop} (h : WR c.K c.G F H w v P) : decide (v = .non) = isNon w := by
  cases h with
  | d h => cases h <;> simp [isNon]
  | _ => simp [isNon]
theorem valV_kd {F : Hp} {k : Key} : ∀ {ds : List (Key × D)} {vs : List (Key × V)}, KD c.K c.G F ds vs → (∀ d, getK ds k = some d → ∃ v, valV vs k = some v ∧ DR c.K c.G F v d) ∧ (getK ds k = none → valV vs k = none)
  | _, _, .nil => ⟨fun d h => by simp [getK] at h, fun _ => rfl⟩
  | _, _, .cons (k := k') (d := d') (v := v') (ds := ds) (vs := vs) h1 h2 => by
    by_cases e : k' = k
    · constructor
      · intro d h
        have e' : d' = d := by simpa [getK, List.find?_cons, e] using h
        subst e'
        exact ⟨v', valV_pos (p := (k', v')) e, h1⟩
      · intro h
        simp [getK, List.find?_cons, e] at h
    · have g : getK ((k', d') :: ds) k = getK ds k := by simp [getK, List.find?_cons, e]
      rw [g, valV_neg (p := (k', v')) e]
      exact valV_kd h2
theorem kV_of {F H : Hp} {x : D} {k : Key} {v : V} {P : Addr → Prop} (h : WR c.K c.G F H (.d x) v P) (e : keyD x = some k) : v = kV k := by
  cases x <;> simp [keyD] at e
  · subst e; exact h.ofInt
  · subst e; exact h.ofStr
theorem WR.ofDct {F H : Hp} {lk : Bool} {kvs : List (Key × D)} {v : V} {P : Addr → Prop} (h : WR c.K c.G F H (.dct lk kvs) v P) : ∃ a vs, v = .ref a ∧ Rd H a (.dK vs) ∧ KD c.K c.G F kvs vs := by
  cases h with
  | dct h1 h2 h3 => exact ⟨_, _, rfl, .inl h1, h3⟩
  | dlk h1 h2 h3 => exact ⟨_, _, rfl, .inr ⟨_, h1⟩, h3⟩
/-- in, and its not -/
theorem op_inW (hK : c.K = X.K) (hG : c.On X) (hu : X.A.units + 65 < cLine) (neg : Bool) : OpR X (compareOp (if neg then .NotIn else .In)) (rC2 c fun x y => (inW x y).map fun k => if neg then !k else k) := by
  intro pins s σ H x y v u Q I rx ry h
  obtain ⟨F, w1, w2, P, P', k, sb, h1, h2, e, q⟩ := h
  have e : (inW w1 w2).map (fun k => if neg = true then !k else k) = some k := e
  cases e0 : inW w1 w2 with
  | none => rw [e0] at e; cases e
  | some k0 =>
  rw [e0] at e
  cases e
  unfold inW at e0
  split at e0
  · rename_i t z
    obtain rfl := h1.ofStr
    obtain rfl := h2.ofStr
    cases e0
    cases neg with
    | false => exact op_in_str pins s σ H _ _ v u Q I rx ry ⟨z, t, rfl, rfl, q⟩
    | true => exact op_notin_str pins s σ H _ _ v u Q I rx ry ⟨z, t, rfl, rfl, q⟩
  · rename_i lk kvs z
    obtain ⟨a, vs, rfl, hr, kd⟩ := h2.ofDct
    cases ek : keyD z with
    | none =>
      rw [ek] at e0
      dsimp only at e0
      split at e0
      · rename_i he
        obtain ⟨kk, et, e0⟩ := Option.map_eq_some_iff.mp e0
        cases e0
        obtain ⟨⟨xs, rfl⟩, hk, hdp⟩ := tupK_ok et
        obtain rfl : kvs = [] := by simpa using he
        have hvs : vs = [] := by cases kd; rfl
        obtain ⟨hd, dd⟩ := dn_empty I hr hvs
        cases h1 with
        | d h1 =>
          cases h1 with
          | @tup b us _ h8 h9 =>
            obtain rfl : u = Value.ref a := ry
            obtain rfl : v = Value.ref b := rx
            have hn : NestedIs s.heap kk (.ref b) := nk_is I sb kk (.ref b) _ (by rw [← hK, hk]; exact .tup h8 h9) (show L2.RelV (.ref b) (.ref b) from rfl)
            cases neg with
            | false => exact wpAny_in_heap (knd := nestedKind X.prog X.w) (k := kk) (show X.A.in1.units + 8 < cLine by show X.A.units + 1 + 8 < cLine; omega) ⟨hn, hdp⟩ hd dd ⟨.bl _, H, I.tok _, rfl, q⟩
            | true => exact wpAny_notIn_heap (knd := nestedKind X.prog X.w) (k := kk) (show X.A.in1.units + 8 < cLine by show X.A.units + 1 + 8 < cLine; omega) ⟨hn, hdp⟩ hd dd ⟨.bl _, H, I.tok _, rfl, q⟩
      · cases e0
    | some kk =>
      rw [ek] at e0
      cases e0
      obtain rfl := kV_of h1 ek
      obtain ⟨g1, g2⟩ := valV_kd (k := kk) kd
      have es : (getK kvs kk).isSome = (valV vs kk).isSome := by
        cases eg : getK kvs kk with
        | none => rw [g2 eg]; rfl
        | some d => obtain ⟨v, ev, _⟩ := g1 d eg; rw [ev]; rfl
      dsimp only at q
      rw [es] at q
      have hu' : X.A.units + 1 < cLine := by omega
      obtain rfl : u = Value.ref a := ry
      cases neg with
      | false => exact d_in (o := valV vs kk) hu' I (.inl ⟨vs, kk, hr, rfl, rfl⟩) rx fun s3 I3 => ⟨.bl _, H, I3, rfl, q⟩
      | true => exact d_notIn (o := valV vs kk) hu' I (.inl ⟨vs, kk, hr, rfl, rfl⟩) rx fun s3 I3 => ⟨.bl _, H, I3, rfl, q⟩
  · rename_i kvs z
    obtain ⟨kk, et, e0⟩ := Option.map_eq_some_iff.mp e0
    cases e0
    obtain ⟨⟨xs, rfl⟩, hk, hdp⟩ := tupK_ok et
    cases h2 with
    | @dcn _ a us _ h5 h6 h7 =>
      rw [hG.1, hG.2] at h5
      obtain ⟨_, hd, _, ys, rel, dd⟩ := dn_of hK I sb h5 h7
      obtain ⟨g1, g2⟩ := nd_get (k := kk) h7 rel
      have es : (getN kvs kk).isSome = (atKey ys kk).isSome := by
        cases eg : getN kvs kk with
        | none => rw [g2 eg]; rfl
        | some d => obtain ⟨p, v, ev, _⟩ := g1 d eg; rw [ev]; rfl
      dsimp only at q
      rw [es] at q
      cases h1 with
      | d h1 =>
        cases h1 with
        | @tup b us _ h8 h9 =>
          obtain rfl : u = Value.ref a := ry
          obtain rfl : v = Value.ref b := rx
          have hn : NestedIs s.heap kk (.ref b) := nk_is I sb kk (.ref b) _ (by rw [← hK, hk]; exact .tup h8 h9) (show L2.RelV (.ref b) (.ref b) from rfl)
          cases neg with
          | false => exact wpAny_in_heap (knd := nestedKind X.prog X.w) (k := kk) (show X.A.in1.units + 8 < cLine by show X.A.units + 1 + 8 < cLine; omega) ⟨hn, hdp⟩ hd dd ⟨.bl _, H, I.tok _, rfl, q⟩
          | true => exact wpAny_notIn_heap (knd := nestedKind X.prog X.w) (k := kk) (show X.A.in1.units + 8 < cLine by show X.A.units + 1 + 8 < cLine; omega) ⟨hn, hdp⟩ hd dd ⟨.bl _, H, I.tok _, rfl, q⟩
  · rename_i y' x' hn1 hn2 hn3
    split at e0
    · rename_i xs es
      split at e0
      · rename_i hf
        obtain ⟨f1, f2⟩ := Bool.and_eq_true_iff.mp hf
        cases e0
        have d1 : Dp c.K H x x' := h1.dp sb rfl (fair_lay f1)
        rw [hK] at d1
        obtain ⟨as, r1⟩ := Dp.reads I _ x v d1 rx
        have cl := all_fair f2
        have rm : X.A.units + 1 + min (PyData.depthAll xs) x'.depth < cLine := room_in_shaped f1 hu
        have tup : (∃ z, w2 = .d (.tuple z) ∧ z = xs) ∨ seqD w2 = some xs := by
          unfold seqOrTup at es
          split at es
          · cases es; exact .inl ⟨_, rfl, rfl⟩
          · exact .inr es
        rcases tup with ⟨z, ey, ez⟩ | es'
        · subst ey ez
          have d2 : Dp c.K H y (.tuple z) := h2.dp sb rfl (by simpa [PyData.canLay0] using cl)
          rw [hK] at d2
          obtain ⟨bs, r2⟩ := Dp.reads I _ y u d2 ry
          cases neg with
          | false => exact SeqAt.in_tuple_reads r2 r1 (by simpa [PyData.canLay0] using cl) (fair_lay f1) rm ⟨.bl _, H, I, rfl, q⟩
          | true => exact SeqAt.notIn_tuple_reads r2 r1 (by simpa [PyData.canLay0] using cl) (fair_lay f1) rm ⟨.bl _, H, I, rfl, q⟩
        · obtain ⟨a, vs, rfl, ha, da⟩ := h2.ofSeq sb es'
          have d2 : Dp c.K H (.ref a) (.list xs) := .lst (SqL.of ha) (da.dp sb cl)
          rw [hK] at d2
          obtain ⟨bs, r2⟩ := Dp.reads I _ _ u d2 ry
          cases neg with
          | false => exact SeqAt.in_list_reads r2 r1 (by simpa [PyData.canLay0] using cl) (fair_lay f1) rm ⟨.bl _, H, I, rfl, q⟩
          | true => exact SeqAt.notIn_list_reads r2 r1 (by simpa [PyData.canLay0] using cl) (fair_lay f1) rm ⟨.bl _, H, I, rfl, q⟩
      · cases e0
    · cases e0
  · cases e0
theorem op_cmpW (hK : c.K = X.K) (hG : c.On X) (hu : X.A.units + 65 < cLine) (op : CmpOp) : OpR X (compareOp op) (rC2 c (cmpop op)) := by
  intro pins s σ H x y v u Q I rx ry h
  obtain ⟨F, w1, w2, P, P', k, sb, h1, h2, e, q⟩ := h
  have hu' : X.A.units + 64 < cLine := by omega
  have eqs : ∀ k', eqW w1 w2 = some k' → ∃ a b, Dp X.K H x a ∧ Dp X.K H y b ∧ SeqAt.shaped a = true ∧ SeqAt.shaped b = true ∧ k' = PyData.eqv a b := fun k' e' => by
    obtain ⟨a, b, ea, eb, fa, fb, ek⟩ := eqW_of e'
    rw [← hK]
    exact ⟨a, b, h1.dp sb ea (fair_lay fa), h2.dp sb eb (fair_lay fb), fa, fb, ek⟩
  cases op with
  | Eq =>
    obtain ⟨a, b, da, db, sa, sb', ek⟩ := eqs k e
    subst ek
    exact op_eqD hu' pins s σ H x y v u Q I rx ry ⟨a, b, da, db, sa, sb', q⟩
  | NotEq =>
    have e' : (eqW w1 w2).map (!·) = some k := e
    cases e2 : eqW w1 w2 with
    | none => rw [e2] at e'; cases e'
    | some k' =>
      rw [e2] at e'
      cases e'
      obtain ⟨a, b, da, db, sa, sb', ek⟩ := eqs k' e2
      subst ek
      exact op_neD hu' pins s σ H x y v u Q I rx ry ⟨a, b, da, db, sa, sb', q⟩
  | Lt =>
    simp only [cmpop] at e
    split at e
    · obtain rfl := h1.ofInt; obtain rfl := h2.ofInt; cases e
      exact op_lt pins s σ H _ _ v u Q I rx ry ⟨_, _, rfl, rfl, q⟩
    · cases e
  | LtE =>
    simp only [cmpop] at e
    split at e
    · obtain rfl := h1.ofInt; obtain rfl := h2.ofInt; cases e
      exact op_le pins s σ H _ _ v u Q I rx ry ⟨_, _, rfl, rfl, q⟩
    · cases e
  | Gt =>
    simp only [cmpop] at e
    split at e
    · obtain rfl := h1.ofInt; obtain rfl := h2.ofInt; cases e
      exact op_gt pins s σ H _ _ v u Q I rx ry ⟨_, _, rfl, rfl, q⟩
    · cases e
  | GtE =>
    simp only [cmpop] at e
    split at e
    · obtain rfl := h1.ofInt; obtain rfl := h2.ofInt; cases e
      exact op_ge pins s σ H _ _ v u Q I rx ry ⟨_, _, rfl, rfl, q⟩
    · cases e
  | In =>
    have e' : inW w1 w2 = some k := e
    refine op_inW hK hG hu false pins s σ H x y v u Q I rx ry ⟨F, w1, w2, P, P', k, sb, h1, h2, ?_, q⟩
    show (inW w1 w2).map _ = _
    rw [e'] <;> rfl
  | NotIn =>
    have e' : (inW w1 w2).map (!·) = some k := e
    refine op_inW hK hG hu true pins s σ H x y v u Q I rx ry ⟨F, w1, w2, P, P', k, sb, h1, h2, ?_, q⟩
    show (inW w1 w2).map _ = _
    simpa using e'
  | Is =>
    simp only [cmpop] at e
    split at e
    · have ey : y = .non := by
        cases h2 with
        | d h => cases h; rfl
      subst ey
      cases e
      refine op_isN pins s σ H _ _ v u Q I rx ry ⟨rfl, ?_⟩
      rw [h1.non_iff]
      exact q
    · cases e
  | IsNot =>
    simp only [cmpop] at e
    split at e
    · have ey : y = .non := by
        cases h2 with
        | d h => cases h; rfl
      subst ey
      cases e
      refine op_notN pins s σ H _ _ v u Q I rx ry ⟨rfl, ?_⟩
      rw [h1.non_iff]
      exact q
    · cases e
end
end Ev
end

section
set_option Elab.async false
set_option linter.all false
set_option autoImplicit true
set_option maxRecDepth 100000
set_option maxHeartbeats 4000000
/-! EvF: truth, subscripts, slices, builtins by values. -/
namespace Ev
open PySem PySem.Spec PyProof.Rows L2

section
variable {X : Cx} {c : Cfg} {F H : Hp} {P : Addr → Prop}
theorem isEmpty_drs {xs : List D} {vs : List V} (h : DRs c.K c.G F vs xs) : (!xs.isEmpty) = !vs.isEmpty := by
  cases h <;> rfl
theorem isEmpty_kd {xs : List (Key × D)} {vs : List (Key × V)} (h : KD c.K c.G F xs vs) : (!xs.isEmpty) = !vs.isEmpty := by
  cases h <;> rfl
theorem isEmpty_wrs {xs : List W} {vs : List V} (h : WRs c.K c.G F H xs vs P) : (!xs.isEmpty) = !vs.isEmpty := by
  cases h <;> rfl
theorem WR.tru (s : Sub F H) {w : W} {v : V} {k : Bool} (h : WR c.K c.G F H w v P) (e : tru w = some k) : TruV c.K v H k := by
  unfold Ev.tru at e
  split at e
  · cases h with | d h => cases h; cases e; exact rfl
  · obtain rfl := h.ofBool; cases e; exact rfl
  · obtain rfl := h.ofInt; cases e; exact rfl
  · obtain rfl := h.ofStr
    split at e
    · rename_i hz; cases e; exact ⟨big_line hz, rfl⟩
    · cases e
  · obtain ⟨a, vs, rfl, _, ha, da⟩ := h.ofTup s; cases e; exact .inr (.inl ⟨vs, ha, isEmpty_drs da⟩)
  · rename_i xs
    obtain ⟨a, vs, rfl, ha, da⟩ := h.ofSeq (xs := xs) s rfl; cases e; exact .inl ⟨vs, SqL.of ha, isEmpty_drs da⟩
  · cases h with | lst h1 h2 h3 h4 => cases e; exact .inl ⟨_, SqL.of h1, isEmpty_wrs h4⟩
  · cases h with | dct h1 h2 h3 => cases e; exact .inr (.inr ⟨_, h1, isEmpty_kd h3⟩)
  · cases e

/-! ### subscripts -/
/-- o[i]: the answer is data, or what a list owns at a place -/
def rIx (c : Cfg) : R2 := fun x y H Q => ∃ F w iw P P' , Sub F H ∧ WR c.K c.G F H w x P ∧ WR c.K c.G F H iw y P' ∧
  ((∃ d, idx (.d .none) w iw = some (.d d) ∧ ∀ v, DR c.K c.G F v d → Q v H) ∨ ∃ ws i k w1 a vs v, w = .lst ws ∧ iw = .d (.int i) ∧ ixN ws.length i = some k ∧ ws[k]? = some w1 ∧ x = .ref a ∧ H a = some (.lst vs) ∧ vs[k]? = some v ∧ Q v H)
theorem atI_map_get {α : Type} {xs : List α} {i : Int} {x : α} (h : atI xs i = some x) : ∃ k, ixN xs.length i = some k ∧ xs[k]? = some x := by
  unfold atI at h
  cases e : ixN xs.length i with
  | none => rw [e] at h; cases h
  | some k => rw [e] at h; exact ⟨k, rfl, h⟩
theorem atI_of {α : Type} {xs : List α} {i : Int} {k : Nat} {x : α} (h1 : ixN xs.length i = some k) (h2 : xs[k]? = some x) : atI xs i = some x := by
  unfold atI
  rw [h1]
  exact h2
theorem DRs.atI {xs : List D} {vs : List V} {i : Int} {x : D} (h : DRs c.K c.G F vs xs) (e : atI xs i = some x) : ∃ v, L2.atI vs i = some v ∧ DR c.K c.G F v x := by
  obtain ⟨k, e1, e2⟩ := atI_map_get e
  obtain ⟨v, e3, d⟩ := h.at e2
  exact ⟨v, atI_of (by rw [h.length]; exact e1) e3, d⟩
theorem ix_dict (hu : X.A.units + 1 < cLine) : IxR X (fun x y H Q => ∃ a v, x = .ref a ∧ DGet H a y (some v) ∧ Q v H) := by
  intro value slice pins s σ H x y v u Q I rx ry h hs
  obtain ⟨a, z, rfl, g, q⟩ := h
  obtain rfl : v = Value.ref a := rx
  have hT := dict_typeIs I g
  unfold subscriptTail
  refine wpAny_bind ?_
  rw [getitemInPython_of_ne hT.not_modules]
  refine wpAny_bind (wpAny_specialOf hT PySem.F.slot_dict_getitem.lookup ?_)
  have fin : wpAny (model X.prog X.w) X.A (subscripted slice false (.ref a) u) (fun r s₃ => wpAny (model X.prog X.w) X.A (letTemporaryGo value (.ref a) r >>= fun _ => pure r) (EP X pins σ Q) X.xe s₃) X.xe s := by
    rw [hs]
    exact wpAny_operating (d_getItem hu I g ry fun w' s3 I3 rw' => wpAny_bind (wpAny_letTemporaryGo (wpAny_pure ⟨z, H, I3, rw', q⟩)))
  first
    | exact wpAny_pure (wpAny_bind fin)
    | exact wpAny_bind (wpAny_pure (wpAny_bind fin))
    | exact wpAny_bind fin
theorem ix_dictN : ∀ (value slice : Expr) (pins : List (Addr × Obj)) (s : Shared) (σ : L2.St) (H : Hp) (x y : V) (v u : Value) (Q : VK), Inv X pins σ H s → RelV x v → RelV y u →
    (∃ a b z kk ys p, x = V.ref a ∧ y = V.ref b ∧ (nestedKind X.prog X.w).room X.A.in1 ∧ (nestedKind X.prog X.w).is s.heap kk b ∧ s.heap.DictOfH (nestedKind X.prog X.w) a ys ∧ atKey ys kk = some p ∧ RelV z p.2 ∧ Q z H) → subscripted slice false v u = operate [v, u] (getItem v u) →
    wpAny (model X.prog X.w) X.A (subscriptTail value slice v u) (EP X pins σ Q) X.xe s := by
  intro value slice pins s σ H x y v u Q I rx ry h hs
  obtain ⟨a, b, z, kk, ys, p, rfl, rfl, hr, hn, dd, ep, rz, q⟩ := h
  obtain rfl : v = Value.ref a := rx
  obtain rfl : u = Value.ref b := ry
  have hT : s.TypeIs (.ref a) "dict" := dd.typeIs
  unfold subscriptTail
  refine wpAny_bind ?_
  rw [getitemInPython_of_ne hT.not_modules]
  refine wpAny_bind (wpAny_specialOf hT PySem.F.slot_dict_getitem.lookup ?_)
  have fin : wpAny (model X.prog X.w) X.A (subscripted slice false (.ref a) (.ref b)) (fun r s₃ => wpAny (model X.prog X.w) X.A (letTemporaryGo value (.ref a) r >>= fun _ => pure r) (EP X pins σ Q) X.xe s₃) X.xe s := by
    rw [hs]
    exact wpAny_operating (wpAny_getItem_heap hr hn dd ep (wpAny_bind (wpAny_letTemporaryGo (wpAny_pure ⟨z, H, I.tok _, rz, q⟩))))
  first
    | exact wpAny_pure (wpAny_bind fin)
    | exact wpAny_bind (wpAny_pure (wpAny_bind fin))
    | exact wpAny_bind fin
theorem ix_W (hK : c.K = X.K) (hG : c.On X) (hu : X.A.units + 65 < cLine) : IxR X (rIx c) := by
  intro value slice pins s σ H x y v u Q I rx ry h hs
  obtain ⟨F, w, iw, P, P', sb, h1, h2, q⟩ := h
  rcases q with ⟨d, e, q⟩ | ⟨ws, i, k, w1, a, vs, z, rfl, rfl, e1, e2, rfl, ha, e3, q⟩
  · unfold idx at e
    split at e
    · rename_i xs i
      obtain rfl := h2.ofInt
      obtain ⟨a, vs, rfl, _, ha, da⟩ := h1.ofTup sb
      cases ea : L2.atI xs i with
      | none => rw [ea] at e; cases e
      | some x =>
        rw [ea] at e
        cases e
        obtain ⟨z, ez, dz⟩ := da.atI ea
        rw [hK] at ha
        exact ix_tup value slice pins s σ H _ _ v u Q I rx ry ⟨a, vs, i, z, rfl, rfl, ha, ez, q z dz⟩ hs
    · rename_i xs i
      obtain rfl := h2.ofInt
      obtain ⟨a, vs, rfl, ha, da⟩ := h1.ofSeq (xs := xs) sb rfl
      cases ea : L2.atI xs i with
      | none => rw [ea] at e; cases e
      | some x =>
        rw [ea] at e
        cases e
        obtain ⟨z, ez, dz⟩ := da.atI ea
        exact ix_list value slice pins s σ H _ _ v u Q I rx ry ⟨a, vs, i, z, rfl, rfl, SqL.of ha, ez, q z dz⟩ hs
    · rename_i xs i
      obtain rfl := h2.ofInt
      cases h1 with
      | @scr _ a vs _ h3 h4 =>
        cases ea : L2.atI xs i with
        | none => rw [ea] at e; cases e
        | some x =>
          rw [ea] at e
          cases e
          obtain ⟨z, ez, dz⟩ := h4.atI ea
          exact ix_list value slice pins s σ H _ _ v u Q I rx ry ⟨a, vs, i, z, rfl, rfl, by rw [← hK]; exact sb.sqL h3, ez, q z dz⟩ hs
    · rename_i t i
      obtain rfl := h2.ofInt
      obtain rfl := h1.ofStr
      split at e
      · rename_i hz
        cases ea : L2.atI t.cps.toList i with
        | none => rw [ea] at e; cases e
        | some x =>
          rw [ea] at e
          cases e
          exact ix_str value slice pins s σ H _ _ v u Q I rx ry ⟨t, i, x, rfl, rfl, big_line hz, ea, q _ (.str _)⟩ hs
      · cases e
    · rename_i ws i
      obtain rfl := h2.ofInt
      cases h1 with
      | @lst _ a vs _ P' h3 h4 h5 h6 =>
        cases ek : L2.ixN ws.length i with
        | none => rw [ek] at e; cases e
        | some k =>
          rw [ek] at e
          simp only at e
          cases ew : ws[k]? with
          | none => rw [ew] at e; cases e
          | some w1 =>
            rw [ew] at e
            obtain ⟨z, P1, ez, hz, _⟩ := h6.nth ew
            cases w1 <;> simp at e
            subst e
            cases hz with
            | d hz =>
              exact ix_list value slice pins s σ H _ _ v u Q I rx ry ⟨a, vs, i, z, rfl, rfl, SqL.of h3, atI_of (by rw [← h6.length]; exact ek) ez, q z hz⟩ hs
    · rename_i lk kvs k
      obtain ⟨a, vs, rfl, hr, kd⟩ := h1.ofDct
      split at e
      · rename_i kk ek
        obtain rfl := kV_of h2 ek
        cases eg : getK kvs kk with
        | none => rw [eg] at e; cases e
        | some d' =>
          rw [eg] at e
          cases e
          obtain ⟨z, ez, dz⟩ := (valV_kd (k := kk) kd).1 _ eg
          exact ix_dict (show X.A.units + 1 < cLine by omega) value slice pins s σ H _ _ v u Q I rx ry ⟨a, z, rfl, .inl ⟨vs, kk, hr, rfl, ez.symm⟩, q z dz⟩ hs
      · cases e
    · rename_i kvs k
      split at e
      · rename_i kk et
        cases eg : getN kvs kk with
        | none => rw [eg] at e; cases e
        | some d' =>
          rw [eg] at e
          cases e
          obtain ⟨⟨xs, rfl⟩, hk, hdp⟩ := tupK_ok et
          cases h1 with
          | @dcn _ a us _ h5 h6 h7 =>
            rw [hG.1, hG.2] at h5
            obtain ⟨_, hd, _, ys, rel, dd⟩ := dn_of hK I sb h5 h7
            obtain ⟨p, z, ep, rz, dz⟩ := (nd_get (k := kk) h7 rel).1 _ eg
            cases h2 with
            | d h2 =>
              cases h2 with
              | @tup b us _ h8 h9 =>
                have hn : NestedIs s.heap kk (.ref b) := nk_is I sb kk (.ref b) _ (by rw [← hK, hk]; exact .tup h8 h9) (show L2.RelV (.ref b) (.ref b) from rfl)
                exact ix_dictN value slice pins s σ H _ _ v u Q I rx ry ⟨a, b, z, kk, ys, p, rfl, rfl, show X.A.in1.units + 8 < cLine by (show X.A.units + 1 + 8 < cLine; omega), ⟨hn, hdp⟩, dd, ep, rz, q z dz⟩ hs
      · cases e
    · cases e
  · obtain rfl := h2.ofInt
    cases h1 with
    | @lst _ _ vs' _ P' h3 h4 h5 h6 =>
      rw [ha] at h3
      cases h3
      exact ix_list value slice pins s σ H _ _ v u Q I rx ry ⟨a, vs, i, z, rfl, rfl, SqL.of ha, atI_of (by rw [← h6.length]; exact e1) e3, q⟩ hs

/-! ### slices -/
theorem cut_drs {xs : List D} {vs : List V} (h : DRs c.K c.G F vs xs) (lo hi : Option Int) : DRs c.K c.G F (cutV vs lo hi) (cut xs lo hi) := by
  unfold cutV cut
  rw [h.length]
  exact (h.drop _).take _
theorem cut_whole {xs : List D} {lo hi : Option Int} (h : HT.sIx xs.length 0 lo = 0 ∧ HT.sIx xs.length xs.length hi = xs.length) : cut xs lo hi = xs := by
  unfold cut
  rw [h.1, h.2]
  simp
theorem sl_W (hK : c.K = X.K) : SlR X (fun x lo hi H Q => ∃ F w P r, Sub F H ∧ WR c.K c.G F H w x P ∧ slc w lo hi = some r ∧ ∀ u F' H' Pn, New F H F' H' Pn → WR c.K c.G F' H' r u Pn → Q u H') := by
  intro pins s σ H x v vl vu lo hi sl Q I rx hs pl pu h
  obtain ⟨F, w, P, r, sb, h1, e, q⟩ := h
  unfold slc at e
  split at e
  · rename_i xs
    cases e
    cases h1 with
    | @scr _ a vs _ h3 h4 =>
      exact sl_list pins s σ H _ v vl vu lo hi sl Q I rx hs pl pu ⟨a, vs, rfl, by rw [← hK]; exact sb.sqL h3, fun p hp => q _ _ _ _ (.own sb hp) (WR.newL sb (cut_drs h4 lo hi))⟩
  · rename_i xs
    cases e
    obtain ⟨a, vs, rfl, ha', ha, da⟩ := h1.ofTup sb
    rw [hK] at ha
    refine sl_tupA pins s σ H _ v vl vu lo hi sl Q I rx hs pl pu ⟨a, vs, rfl, ha, fun hw => ?_, fun hw p hp => q _ _ _ _ (.dat sb hp) (WR.newT sb hp (cut_drs da lo hi))⟩
    rw [da.length] at hw
    rw [cut_whole hw] at q
    exact q _ F H _ (.refl sb) (.d (.tup ha' da))
  · rename_i t
    obtain rfl := h1.ofStr
    split at e
    · rename_i hz
      cases e
      exact sl_str pins s σ H _ v vl vu lo hi sl Q I rx hs pl pu ⟨t, rfl, big_line hz, q _ F H _ (.refl sb) (.d (.str _))⟩
    · cases e
  · rename_i w' hn1 hn2 hn3
    cases es : seqD w with
    | none => rw [es] at e; cases e
    | some xs =>
      rw [es] at e
      cases e
      obtain ⟨a, vs, rfl, ha, da⟩ := h1.ofSeq sb es
      exact sl_list pins s σ H _ v vl vu lo hi sl Q I rx hs pl pu ⟨a, vs, rfl, SqL.of ha, fun p hp => q _ _ _ _ (.own sb hp) (WR.newL sb (cut_drs da lo hi))⟩
end
end Ev
end

section
set_option Elab.async false
set_option linter.all false
set_option autoImplicit true
set_option maxRecDepth 100000
set_option maxHeartbeats 4000000
/-! EvG: builtins by values. -/
namespace PySem
open PySem.Spec PyProof.Rows
/-! ### sum(lists, []) -/
theorem args_sum2 (a b : Value) : argsOk "sum" ⟨[a, b], []⟩ := by unfold argsOk; kernel_rfl
/-- the lists ahead of place i -/
def catTo (val : Nat → List Value) : Nat → List Value
  | 0 => []
  | i + 1 => catTo val i ++ val i
section
variable {prog : Program} {w : World} {A : Around} {I : Addr} {fp wr : List Addr} {n : Nat} {P : Nat → Value → Prop} {St : Nat → Heap → Prop} {R : Result → Shared → Prop}
theorem sum_lists_loop (W : Walks prog w A.in1 I fp wr n P St) (h0 : Heap) (val : Nat → List Value) (S : Addr) (hSf : S ∉ fp)
    (hval : ∀ i v, i < n → P i v → ∃ b nb, v = .ref b ∧ b ∉ wr ∧ b ≠ S ∧ h0.get? b = some { cls := .type "list", data := .seq (val i).toArray nb })
    (hlive : ∀ b, b ∈ wr → ∀ i h, St i h → ∃ o, h.get? b = some o) (hfit : ∀ i, i ≤ n → (catTo val i).length ≤ sizeLine) :
    ∀ (k i : Nat) (s : Shared) (a : Addr) (c m : Nat), n - i = k → i ≤ n → St i s.heap → (∀ b o, b ∉ wr → b ≠ S → h0.get? b = some o → s.heap.get? b = some o) →
    s.heap.get? S = some { cls := .type "list", dict := none, data := .seq #[.ref a] c, slots := #[] } → a ≠ S → a ∉ wr → s.heap.get? a = some { cls := .type "list", data := .seq (catTo val i).toArray m } → (0 < i → h0.get? a = none) →
    (∀ h' tk a' m', (∀ b o, b ∉ wr → b ≠ S → s.heap.get? b = some o → h'.get? b = some o) → h'.get? a' = some { cls := .type "list", data := .seq (catTo val n).toArray m' } → (n = i → a' = a) → (0 < n → h0.get? a' = none) → a' ≠ S → a' ∉ wr → R (.ok (.ret (.ref a'))) { s with heap := h', toks := tk }) →
    codeAny (model prog w) A (.builtin "sum.loop" ⟨[.ref I, .ref S, rawInt 2, rawInt 0], []⟩) R s := by
  have hSw : S ∉ wr := fun h => hSf (W.sub _ h)
  intro k
  induction k with
  | zero =>
    intro i s a c m hk hi hst hold hS haS haw ha hnew hR
    have hin : i = n := by omega
    subst hin
    refine codeAny_builtin F.entry_sum_loop ?_
    rw [Around.under_plainId F.plain_sum_loop _]
    show wpAny _ A.in1 (seqItems? (.ref S) >>= _) _ _ s
    refine wpAny_bind (wpAny_seqItems hS rfl ?_)
    show wpAny _ A.in1 (tryCatch (pyNext (.ref I)) _ >>= _) _ _ s
    refine wpAny_bind (wpAny_tryCatch (W.done s _ _ hst fun h' tk hk' => ?_))
    exact wpAny_pure (hR h' tk a m (fun b o hbw _ e => hk' b o hbw e) (hk' a _ haw ha) (fun _ => rfl) hnew haS haw)
  | succ k ih =>
    intro i s a c m hk hi hst hold hS haS haw ha hnew hR
    have hlt : i < n := by omega
    refine codeAny_builtin F.entry_sum_loop ?_
    rw [Around.under_plainId F.plain_sum_loop _]
    show wpAny _ A.in1 (seqItems? (.ref S) >>= _) _ _ s
    refine wpAny_bind (wpAny_seqItems hS rfl ?_)
    show wpAny _ A.in1 (tryCatch (pyNext (.ref I)) _ >>= _) _ _ s
    refine wpAny_bind (wpAny_tryCatch (W.item i s _ _ hlt hst fun v h' tk hP hst' hk' => ?_))
    obtain ⟨b, nb, rfl, hbw, hbS, hb⟩ := hval i v hlt hP
    have hS' := hk' S _ hSw hS
    have ha' := hk' a _ haw ha
    have hb' := hk' b _ hbw (hold b _ hbw hbS hb)
    have hz : (catTo val i).toArray.size + (val i).toArray.size ≤ sizeLine := by
      have := hfit (i + 1) hlt
      simp only [catTo, List.length_append] at this
      simpa using this
    show wpAny _ A.in1 ((holding [.ref b] (binaryOp .Add (.ref a) (.ref b))).attempt >>= _) _ _ _
    refine wpAny_bind (wpAny_attempt (wpAny_holding (PySem.P.add_list ha' hb' ?_ hz)))
    have ea : (catTo val i).toArray ++ (val i).toArray = (catTo val (i + 1)).toArray := by simp [catTo]
    rw [ea]
    generalize hh2 : h'.push { cls := .type "list", data := .seq (catTo val (i + 1)).toArray } = h2
    have kp : ∀ b o, h'.get? b = some o → h2.get? b = some o := fun b o e => by rw [← hh2]; exact Heap.get?_push_of_some _ e
    have hnewO : h2.get? h'.objs.size = some { cls := .type "list", data := .seq (catTo val (i + 1)).toArray } := by rw [← hh2]; exact Heap.get?_push_size _ rfl
    have nS : h'.objs.size ≠ S := Nat.ne_of_gt (Heap.lt_size hS')
    have hS2 := kp _ _ hS'
    show wpAny _ A.in1 (updateSeq S (fun _ => #[.ref h'.objs.size]) >>= _) _ _ _
    refine wpAny_bind (wpAny_updateSeq hS2 rfl (wpAny_bind (wpAny_letGo ?_)))
    show wpAny _ A.in1 (updateSeq S (fun _ => #[.ref h'.objs.size]) >>= _) _ _ _
    have hS3 := Heap.get?_update_self (Obj.mapSeq fun _ => #[.ref h'.objs.size]) hS2 rfl
    refine wpAny_bind (wpAny_updateSeq hS3 rfl ?_)
    have k2 : ∀ b o, b ≠ S → h2.get? b = some o → ((h2.update S (Obj.mapSeq fun _ => #[.ref h'.objs.size])).update S (Obj.mapSeq fun _ => #[.ref h'.objs.size])).get? b = some o := fun b o hb e =>
      (Heap.get?_update_other _ _ (Ne.symm hb)).trans ((Heap.get?_update_other _ _ (Ne.symm hb)).trans e)
    have kall : ∀ b o, b ∉ wr → b ≠ S → s.heap.get? b = some o → ((h2.update S (Obj.mapSeq fun _ => #[.ref h'.objs.size])).update S (Obj.mapSeq fun _ => #[.ref h'.objs.size])).get? b = some o := fun b o hbw hb e =>
      k2 b o hb (kp b o (hk' b o hbw e))
    have nw : h'.objs.size ∉ wr := fun hm => by
      obtain ⟨o, e⟩ := hlive _ hm _ _ hst'
      exact absurd (Heap.lt_size e) (Nat.lt_irrefl _)
    refine wpAny_pure ⟨plainId_quiet F.plain_sum_loop _, ih (i + 1) _ h'.objs.size _ 0 (by omega) hlt (W.frame _ _ _ hst' fun b hb o e => ?_) (fun b o hbw hb e => kall b o hbw hb (hold b o hbw hb e)) (Heap.get?_update_self _ hS3 rfl) nS nw (k2 _ _ nS hnewO) (fun _ => ?_) fun h'' tk'' a'' m'' hk'' e1 e2 e3 e4 e5 => ?_⟩
    · exact k2 b o (fun h : b = S => hSf (by rw [← h]; exact hb)) (kp b o e)
    · cases e : h0.get? h'.objs.size with
      | none => rfl
      | some o => exact absurd (Heap.lt_size (hk' _ _ nw (hold _ _ nw nS e))) (Nat.lt_irrefl _)
    · exact hR h'' tk'' a'' m'' (fun b o hbw hbS e => hk'' b o hbw hbS (kall b o hbw hbS e)) e1 (fun z => by omega) e3 e4 e5
end
section
variable {prog : Program} {w : World} {A : Around} {E : Value → Shared → Prop} {s : Shared}
theorem call_sum_lists {l st : Addr} {bs : List Addr} {nl ns : Nat} {val : Nat → List Value} {Q : Value → Shared → Prop} (hh : A.handled = none)
    (hl : s.heap.get? l = some { cls := .type "list", data := .seq (bs.map Value.ref).toArray nl }) (hs : s.heap.get? st = some { cls := .type "list", data := .seq #[] ns })
    (hb : ∀ i b, bs[i]? = some b → ∃ nb, s.heap.get? b = some { cls := .type "list", data := .seq (val i).toArray nb }) (hfit : ∀ i, i ≤ bs.length → (catTo val i).length ≤ sizeLine)
    (h : ∀ h' tk a m, (∀ b o, s.heap.get? b = some o → h'.get? b = some o) → h'.get? a = some { cls := .type "list", data := .seq (catTo val bs.length).toArray m } → (bs = [] → a = st) → (bs ≠ [] → s.heap.get? a = none) → Q (.ref a) { s with heap := h', toks := tk }) :
    wpAny (model prog w) A (call (.builtin "sum") [.ref l, .ref st]) Q E s := by
  have hls : s.heap.IsList l (bs.map Value.ref).toArray := (show PlainL s.heap l _ from ⟨_, _, hl, rfl, rfl, rfl⟩).isList
  have hlt : l < s.heap.objs.size := Heap.lt_size hl
  have hst : st < s.heap.objs.size := Heap.lt_size hs
  refine call_function_tree F.kind_sum F.plain_sum F.entry_sum (args_sum2 _ _) ?_
  unfold Builtin.«sum»
  simp only [List.length_cons, List.length_nil]
  rw [if_neg (by decide)]
  refine wpAny_bind (wpAny_of_eq (show Builtin.Builtins.bindParams "sum" ["start"] 0 ⟨[.ref st], []⟩ = pure [some (.ref st)] from rfl) ?_)
  refine wpAny_bind (wpAny_pyIter_list hls ?_)
  generalize hs1 : s.heap.push { cls := .type "list_iterator", data := .fields #[.ref l, .int 0 0] } = h1
  have k1 : ∀ b o, s.heap.get? b = some o → h1.get? b = some o := fun b o e => by rw [← hs1]; exact Heap.get?_push_of_some _ e
  have hs1' := k1 _ _ hs
  have hsz1 : h1.objs.size = s.heap.objs.size + 1 := by rw [← hs1, Heap.size_push]
  have hty : Shared.TypeIs { s with heap := h1 } (.ref st) "list" := ⟨_, hs1', rfl⟩
  refine wpAny_bind (wpAny_pure ?_)
  simp only [List.forIn_cons, List.forIn_nil]
  refine wpAny_bind (wpAny_bind (wpAny_bind (wpAny_isInstance (T := "list") (b := false) hty (by rw [isSubtype_type]; kernel_rfl) ?_)))
  simp only [Bool.false_eq_true, if_false]
  refine wpAny_pure (wpAny_bind (wpAny_bind (wpAny_isInstance (T := "list") (b := false) hty (by rw [isSubtype_type]; kernel_rfl) ?_)))
  simp only [Bool.false_eq_true, if_false]
  refine wpAny_pure (wpAny_bind (wpAny_bind (wpAny_isInstance (T := "list") (b := false) hty (by rw [isSubtype_type]; kernel_rfl) ?_)))
  simp only [Bool.false_eq_true, if_false]
  refine wpAny_pure (wpAny_pure ?_)
  refine wpAny_bind (wpAny_newObj_type ?_)
  generalize hs2 : h1.push { cls := .type "list", data := .seq #[.ref st] } = h2
  have k2 : ∀ b o, h1.get? b = some o → h2.get? b = some o := fun b o e => by rw [← hs2]; exact Heap.get?_push_of_some _ e
  have hS : h2.get? h1.objs.size = some { cls := .type "list", data := .seq #[.ref st] } := by rw [← hs2]; exact Heap.get?_push_size _ rfl
  have W := Walks.list (prog := prog) (w := w) (A := A.in1) hh s.heap.objs.size l (Nat.ne_of_lt hlt) (bs.map Value.ref).toArray
  have hsz : ((bs.map Value.ref).toArray).size = bs.length := by simp
  rw [hsz] at W
  have hSf : h1.objs.size ∉ [s.heap.objs.size, l] := by
    intro hm
    rcases List.mem_cons.mp hm with z | z
    · rw [hsz1] at z
      exact Nat.succ_ne_self _ z
    · have z := List.mem_singleton.mp z
      rw [← z, hsz1] at hlt
      exact Nat.not_succ_lt_self hlt
  have nI : ∀ b o, s.heap.get? b = some o → b ∉ [s.heap.objs.size] ∧ b ≠ h1.objs.size := fun b o e => by
    have hb := Heap.lt_size e
    refine ⟨fun hm => ?_, fun z => ?_⟩
    · rw [List.mem_singleton.mp hm] at hb
      exact Nat.lt_irrefl _ hb
    · rw [z, hsz1] at hb
      exact Nat.not_succ_lt_self hb
  have hIt : h1.get? s.heap.objs.size = some { cls := .type "list_iterator", data := .fields #[.ref l, .int 0 0] } := by rw [← hs1]; exact Heap.get?_push_size _ rfl
  refine wpAny_pure ⟨plainId_quiet F.plain_sum_loop _, sum_lists_loop W s.heap val h1.objs.size hSf (fun i v hi hP => ?_) (fun b hm i h hst => ?_) hfit bs.length 0 _ st 0 ns rfl (Nat.zero_le _) ⟨⟨_, k2 _ _ hIt, rfl, rfl⟩, ?_⟩
    (fun b o _ _ e => k2 _ _ (k1 _ _ e)) hS (nI _ _ hs).2 (nI _ _ hs).1 (k2 _ _ hs1') (fun z => absurd z (Nat.lt_irrefl _)) fun h' tk a m hk e1 e2 e3 e4 e5 => ?_⟩
  · have hP : (bs.map Value.ref).toArray[i]? = some v := hP
    have hP : (bs.map Value.ref)[i]? = some v := by simpa using hP
    rw [List.getElem?_map] at hP
    cases e : bs[i]? with
    | none => rw [e] at hP; cases hP
    | some b =>
      rw [e] at hP
      cases hP
      obtain ⟨nb, hb'⟩ := hb i b e
      exact ⟨b, nb, rfl, (nI _ _ hb').1, (nI _ _ hb').2, hb'⟩
  · have e : b = s.heap.objs.size := by simpa using hm
    subst e
    obtain ⟨⟨o, q, _⟩, _⟩ := hst
    exact ⟨o, q⟩
  · exact (show PlainL h2 l _ from ⟨_, _, k2 _ _ (k1 _ _ hl), rfl, rfl, rfl⟩).isList
  · exact h h' tk a m (fun b o e => hk b o (nI _ _ e).1 (nI _ _ e).2 (k2 _ _ (k1 _ _ e))) e1 (fun z => e2 (by rw [z]; rfl)) fun z => e3 (by cases bs with | nil => exact absurd rfl z | cons _ _ => simp)
end
end PySem
namespace Ev
open PySem PySem.Spec PyProof.Rows L2
section
variable {X : Cx} {c : Cfg} {F H : Hp} {P : Addr → Prop}
/-- a builtin by values -/
def rB (c : Cfg) (b : BI) : List V → Hp → VK → Prop := fun xs H Q => ∃ F ws P r, Sub F H ∧ WRs c.K c.G F H ws xs P ∧ biW b ws = some r ∧ ∀ u F' H' Pn, New F H F' H' Pn → WR c.K c.G F' H' r u Pn → Q u H'
def biF : BI → Value
  | .len => .builtin "len"
  | .tuple => .type "tuple"
  | .list => .type "list"
  | .int => .type "int"
  | .abs => .builtin "abs"
  | .max => .builtin "max"
  | .min => .builtin "min"
  | .sum => .builtin "sum"
  | .all => .builtin "all"
  | .any => .builtin "any"
  | .divmod => .builtin "divmod"
  | .sorted => .builtin "sorted"
  | .str => .type "str"
theorem WRs.sgl {w : W} {vs : List V} (h : WRs c.K c.G F H [w] vs P) : ∃ v, vs = [v] ∧ WR c.K c.G F H w v P := by
  cases h with
  | cons h1 h2 h3 h4 => cases h4; exact ⟨_, rfl, h3.big fun a ha => (h1 a ha).1⟩
theorem WRs.dbl {w w' : W} {vs : List V} (h : WRs c.K c.G F H [w, w'] vs P) : ∃ v v', vs = [v, v'] ∧ WR c.K c.G F H w v P ∧ WR c.K c.G F H w' v' P := by
  cases h with
  | cons h1 h2 h3 h4 =>
    obtain ⟨v', rfl, h5⟩ := WRs.sgl h4
    exact ⟨_, _, rfl, h3.big fun a ha => (h1 a ha).1, h5.big h2⟩
theorem WR.ofSoT {w : W} {xs : List D} {v : V} (s : Sub F H) (h : WR c.K c.G F H w v P) (e : seqOrTup w = some xs) :
    ∃ a vs, v = .ref a ∧ DRs c.K c.G F vs xs ∧ (H a = some (.lst vs) ∨ (SqT c.K F a vs ∧ SqT c.K H a vs)) := by
  unfold seqOrTup at e
  split at e
  · cases e
    obtain ⟨a, vs, rfl, h1, h2, da⟩ := h.ofTup s
    exact ⟨a, vs, rfl, da, .inr ⟨h1, h2⟩⟩
  · obtain ⟨a, vs, rfl, h1, da⟩ := h.ofSeq s e
    exact ⟨a, vs, rfl, da, .inl h1⟩
theorem allI_of : ∀ {xs : List D} {is : List Int} {vs : List V}, DRs c.K c.G F vs xs → allI xs = some is → vs = is.map V.int
  | [], is, _, h, e => by cases h; cases e; rfl
  | .int i :: xs, is, _, h, e => by
    cases h with
    | cons h1 h2 =>
      cases h1
      rw [allI] at e
      cases e1 : allI xs with
      | none => rw [e1] at e; cases e
      | some js => rw [e1] at e; cases e; rw [allI_of h2 e1]; rfl
  | .none :: _, _, _, _, e => by simp [allI] at e
  | .bool _ :: _, _, _, _, e => by simp [allI] at e
  | .str _ :: _, _, _, _, e => by simp [allI] at e
  | .list _ :: _, _, _, _, e => by simp [allI] at e
  | .tuple _ :: _, _, _, _, e => by simp [allI] at e
  | .dict _ :: _, _, _, _, e => by simp [allI] at e
theorem allB_of : ∀ {xs : List D} {is : List Bool} {vs : List V}, DRs c.K c.G F vs xs → allB xs = some is → vs = is.map V.bl
  | [], is, _, h, e => by cases h; cases e; rfl
  | .bool i :: xs, is, _, h, e => by
    cases h with
    | cons h1 h2 =>
      cases h1
      rw [allB] at e
      cases e1 : allB xs with
      | none => rw [e1] at e; cases e
      | some js => rw [e1] at e; cases e; rw [allB_of h2 e1]; rfl
  | .none :: _, _, _, _, e => by simp [allB] at e
  | .int _ :: _, _, _, _, e => by simp [allB] at e
  | .str _ :: _, _, _, _, e => by simp [allB] at e
  | .list _ :: _, _, _, _, e => by simp [allB] at e
  | .tuple _ :: _, _, _, _, e => by simp [allB] at e
  | .dict _ :: _, _, _, _, e => by simp [allB] at e
theorem alikes_of {xs : List D} (h : alikes xs = true) {x y : D} (hx : x ∈ xs) (hy : y ∈ xs) : PySem.W.alike x y = true :=
  List.all_eq_true.mp (List.all_eq_true.mp h x hx) y hy
theorem lay_mem : ∀ {xs : List D}, PyData.canLayAll0 xs = true → ∀ x ∈ xs, x.canLay0 = true
  | [], _, _, h => by cases h
  | y :: ys, l, x, h => by
    rw [PyData.canLayAll0, Bool.and_eq_true] at l
    rcases List.mem_cons.mp h with e | h
    · rw [e]; exact l.1
    · exact lay_mem l.2 x h
theorem cr_minD (hK : c.K = X.K) (hc : X.calm = true) (hu : X.A.units + 65 < cLine) : CallR X (.builtin "min") fun xs H Q => ∃ F a vs x ds, Sub F H ∧ xs = [.ref a] ∧ H a = some (.lst vs) ∧ DRs c.K c.G F vs (x :: ds) ∧
    alikes (x :: ds) = true ∧ PyData.canLayAll0 (x :: ds) = true ∧ PyData.depthAll (x :: ds) ≤ 64 ∧ (x :: ds).any (fun y => isNon (.d y)) = false ∧ ∀ v, DR c.K c.G F v (PySem.W.minD x ds) → Q v H := by
  intro pins s σ H xs us Q I r h
  obtain ⟨F, a, vs, x, ds, sb, rfl, ha, da, al, lay, hd, hn, q⟩ := h
  obtain ⟨its, rv, hl, _⟩ := I.list (SqL.of ha)
  rw [Vals.ref1 r]
  have dp : DpAll c.K H vs (x :: ds) := da.dp sb lay
  rw [hK] at dp
  obtain ⟨as, rs⟩ := Dp.readsAll I (x :: ds) vs its dp rv
  refine PySem.W.min_list_data (I.ok.hd hc) hl.isList (by simpa using rs) ⟨fun y hy z hz => alikes_of al hy hz, fun y hy e => ?_⟩ (by omega) fun i v h' tk bs hi hr hk => ?_
  · subst e
    have := List.any_eq_false.mp hn _ hy
    exact this rfl
  · have hi : its[i]? = some v := by simpa using hi
    obtain ⟨hil, _⟩ := List.getElem?_eq_some_iff.mp hi
    have hvl : i < vs.length := by rw [rv.length]; exact hil
    have hdl : i < (x :: ds).length := by rw [← da.length]; exact hvl
    obtain ⟨u', e1, e2⟩ := rv.get (i := i) (List.getElem?_eq_getElem hvl)
    rw [hi] at e1
    cases e1
    have dd := da.get (List.getElem?_eq_getElem hvl) (List.getElem?_eq_getElem hdl)
    have dpi : Dp c.K H vs[i] (x :: ds)[i] := dd.dp sb (lay_mem lay _ (List.getElem_mem hdl))
    rw [hK] at dpi
    obtain ⟨as', r'⟩ := Dp.reads I _ _ _ dpi e2
    have mem : PySem.W.minD x ds ∈ x :: ds := by
      have : ∀ (l : List D) (z : D), z ∈ x :: ds → (∀ y ∈ l, y ∈ x :: ds) → PySem.W.minD z l ∈ x :: ds := by
        intro l
        induction l with
        | nil => intro z hz _; exact hz
        | cons y l ih =>
          intro z hz hl
          show PySem.W.minD (if PySem.W.dataLt y z = true then y else z) l ∈ _
          split
          · exact ih y (hl y (by simp)) fun w hw => hl w (by simp [hw])
          · exact ih z hz fun w hw => hl w (by simp [hw])
      exact this ds x (by simp) fun y hy => by simp [hy]
    have eq : (x :: ds)[i] = PySem.W.minD x ds := PySem.W.alike_unique _ _ v _ _ (alikes_of al (List.getElem_mem hdl) mem) (PyProof.Rows.Reads.keeps hk r') hr
    exact ⟨vs[i], H, I.kept hk, e2, q _ (by rw [← eq]; exact dd)⟩
theorem sortOk_of {xs : List D} (h : sortOk xs = true) : PySem.W.Sortable xs := by
  unfold sortOk at h
  rcases Bool.or_eq_true_iff.mp h with h | h
  · refine .inl fun d hd => ?_
    have := List.all_eq_true.mp h d hd
    cases d with
    | tuple zs =>
      cases zs with
      | nil => cases this
      | cons x r => exact ⟨x, r, rfl⟩
    | _ => cases this
  · refine .inr fun d hd => ?_
    have := List.all_eq_true.mp h d hd
    refine ⟨fun e => ?_, fun zs e => ?_⟩
    · subst e; cases this
    · subst e; cases this
theorem depth_mem : ∀ {xs : List D} {x : D}, x ∈ xs → x.depth ≤ PyData.depthAll xs
  | [], x, h => by cases h
  | y :: ys, x, h => by
    rw [PyData.depthAll]
    rcases List.mem_cons.mp h with e | h
    · subst e; omega
    · have := depth_mem h; omega
theorem each_out : ∀ {xs : List D} {out : List Value}, PySem.W.EachIs (fun (v : Value) (d : D) => ∃ x : V, RelV x v ∧ DR c.K c.G F x d) out xs → ∃ ys : List V, Vals ys out ∧ DRs c.K c.G F ys xs
  | [], _, h => by cases h; exact ⟨[], .nil, .nil⟩
  | d :: ds, _, h => by
    cases h with
    | cons h1 h2 =>
      obtain ⟨x, r, hd⟩ := h1
      obtain ⟨ys, r2, hd2⟩ := each_out h2
      exact ⟨x :: ys, .cons r r2, .cons hd hd2⟩
theorem each_in : ∀ {xs : List D} {vs : List V} {its : List Value}, DRs c.K c.G F vs xs → Vals vs its → PySem.W.EachIs (fun (v : Value) (d : D) => ∃ x : V, RelV x v ∧ DR c.K c.G F x d) its xs
  | [], _, _, h, r => by cases h; cases r; exact .nil
  | d :: ds, _, _, h, r => by
    cases h with
    | cons h1 h2 =>
      cases r with
      | cons r1 r2 => exact .cons ⟨_, r1, h1⟩ (each_in h2 r2)
theorem readsAll_eachD {h : Heap} : ∀ {ds : List D} {vs : List Value} {as : List Addr}, ReadsAll h vs ds as → PySem.W.EachIs (fun v d => ∃ as, Reads h v d as) vs ds
  | [], _, _, r => by cases r; exact .nil
  | d :: ds, _, _, r => by
    cases r with
    | cons h1 h2 => exact .cons ⟨_, h1⟩ (readsAll_eachD h2)
theorem cr_sortD (hK : c.K = X.K) (hu : X.A.units + 65 < cLine) : CallR X (.builtin "sorted") fun xs H Q => ∃ F a vs ds, Sub F H ∧ xs = [.ref a] ∧ H a = some (.lst vs) ∧ DRs c.K c.G F vs ds ∧
    alikes ds = true ∧ PyData.canLayAll0 ds = true ∧ PyData.depthAll ds ≤ 60 ∧ sortOk ds = true ∧ ds.length ≤ big ∧ ∀ ys p, H p = none → DRs c.K c.G F ys (ds.mergeSort (PySem.W.dataLe false id)) → Q (.ref p) (upd H p (.lst ys)) := by
  intro pins s σ H xs us Q I r h
  obtain ⟨F, a, vs, ds, sb, rfl, ha, da, al, lay, hd, hs, hz, q⟩ := h
  obtain ⟨its, rv, hl, _⟩ := I.list (SqL.of ha)
  rw [Vals.ref1 r]
  have dp : DpAll c.K H vs ds := da.dp sb lay
  rw [hK] at dp
  obtain ⟨as, rs⟩ := Dp.readsAll I ds vs its dp rv
  have hid : ds.map id = ds := List.map_id ds
  have rs' := readsAll_eachD (by simpa using rs : ReadsAll s.heap its ds as)
  refine PySem.W.sorted_data (vs := its) (bs := ds) (enc := id) (R := fun (v : Value) (d : D) => ∃ x : V, RelV x v ∧ DR c.K c.G F x d) hl.isList (each_in da rv) rs' (by rw [hid]; exact fun y hy z hz => alikes_of al hy hz) (by rw [hid]; exact sortOk_of hs) (big_line hz) (fun b hb => ?_) fun out ho he => ?_
  · have := depth_mem hb
    show X.A.units + 2 + b.depth < cLine
    omega
  · obtain ⟨ys, ry, dy⟩ := each_out he
    obtain ⟨ep, he'⟩ := PyProof.Rows.sortedAll_at s.heap its out.toArray
    have hlen : ys.length ≤ sizeLine := by rw [ry.length, ho]; exact big_line hz
    exact ⟨.ref _, upd H (s.heap.objs.size + 1) (.lst ys), I.laid (t' := s.toks) (fun _ _ => PyProof.Rows.sortedAll_old) (Nat.le_succ _) ⟨hlen, out, ep, ry, by simpa using he'⟩, rfl, q ys _ (I.hok.fresh (Nat.le_succ _)) dy⟩
theorem kd_len {kvs : List (Key × D)} {vs : List (Key × V)} (h : KD c.K c.G F kvs vs) : vs.length = kvs.length := by
  induction h with
  | nil => rfl
  | cons _ _ ih => simp [ih]
theorem bi_ok (hK : c.K = X.K) (hG : c.On X) (hc : X.calm = true) (hu : X.A.units + 65 < cLine) (b : BI) : CallR X (biF b) (rB c b) := by
  intro pins s σ H xs us Q I r h
  obtain ⟨F, ws, P, z, sb, hw, e, q⟩ := h
  unfold biW at e
  split at e
  · -- len of the script
    cases e
    obtain ⟨v, rfl, h1⟩ := hw.sgl
    cases h1 with
    | @scr _ a vs _ h3 h4 =>
      exact call_len pins s σ H _ us Q I r ⟨_, _, rfl, .inl ⟨vs, by rw [← hK]; exact sb.sqL h3, rfl⟩, by rw [h4.length]; exact q _ F H _ (.refl sb) (.d (.int _))⟩
  · obtain ⟨v, rfl, h1⟩ := hw.sgl
    obtain rfl := h1.ofStr
    split at e
    · rename_i hz
      cases e
      exact call_len pins s σ H _ us Q I r ⟨_, _, rfl, ⟨big_line hz, rfl⟩, q _ F H _ (.refl sb) (.d (.int _))⟩
    · cases e
  · cases e
    obtain ⟨v, rfl, h1⟩ := hw.sgl
    cases h1 with
    | dct h3 h4 h5 => exact call_lenD pins s σ H _ us Q I r ⟨_, _, rfl, h3, by rw [kd_len h5]; exact q _ F H _ (.refl sb) (.d (.int _))⟩
  · cases e
    obtain ⟨v, rfl, h1⟩ := hw.sgl
    cases h1 with
    | @dcn kvs a vs _ h3 h4 h5 =>
      rw [hG.1, hG.2] at h3
      obtain ⟨z, hd, _, ys, rel, dd⟩ := dn_of hK I sb h3 h5
      obtain ⟨u, rfl, rx⟩ := vals1 r
      obtain rfl : u = .ref a := rx
      have hl := Paired.length rel
      refine call_len_dictH hd dd (by rw [← Paired.length rel]; rw [sizeLine_eq] at z; omega) ?_
      rw [← hl, h5.length]
      exact ⟨.int _, H, I.tok _, ⟨_, rfl⟩, q _ F H _ (.refl sb) (.d (.int _))⟩
  · cases e
    obtain ⟨v, rfl, h1⟩ := hw.sgl
    cases h1 with
    | @lst _ a vs _ _ h3 h4 h5 h6 =>
      exact call_len pins s σ H _ us Q I r ⟨_, _, rfl, .inl ⟨vs, SqL.of h3, rfl⟩, by rw [← h6.length]; exact q _ F H _ (.refl sb) (.d (.int _))⟩
  · obtain ⟨v, rfl, h1⟩ := hw.sgl
    rename_i w _ _ _ _ _
    cases es : seqOrTup w with
    | none => rw [es] at e; cases e
    | some zs =>
      rw [es] at e
      cases e
      obtain ⟨a, vs, rfl, da, hh⟩ := h1.ofSoT sb es
      refine call_len pins s σ H _ us Q I r ⟨_, vs.length, rfl, ?_, by rw [da.length]; exact q _ F H _ (.refl sb) (.d (.int _))⟩
      rcases hh with hh | ⟨_, hh⟩
      · exact .inl ⟨vs, SqL.of hh, rfl⟩
      · rw [hK] at hh; exact .inr ⟨vs, hh, rfl⟩
  · -- tuple
    obtain ⟨v, rfl, h1⟩ := hw.sgl
    rename_i w
    cases es : seqOrTup w with
    | none => rw [es] at e; cases e
    | some zs =>
      rw [es] at e
      cases e
      obtain ⟨a, vs, rfl, da, hh⟩ := h1.ofSoT sb es
      rcases hh with hh | ⟨h2, hh⟩
      · exact call_tuple_of pins s σ H _ us Q I r ⟨a, vs, rfl, .inl ⟨SqL.of hh, fun p hp => q _ _ _ _ (.dat sb hp) (WR.newT sb hp da)⟩⟩
      · rw [hK] at hh
        exact call_tuple_of pins s σ H _ us Q I r ⟨a, vs, rfl, .inr ⟨hh, q _ F H _ (.refl sb) (.d (.tup h2 da))⟩⟩
  · -- list
    obtain ⟨v, rfl, h1⟩ := hw.sgl
    rename_i w
    cases es : seqOrTup w with
    | none => rw [es] at e; cases e
    | some zs =>
      rw [es] at e
      cases e
      obtain ⟨a, vs, rfl, da, hh⟩ := h1.ofSoT sb es
      refine call_list_of pins s σ H _ us Q I r ⟨a, vs, rfl, ?_, fun p hp => q _ _ _ _ (.own sb hp) (WR.newL sb da)⟩
      rcases hh with hh | ⟨_, hh⟩
      · exact .inl (SqL.of hh)
      · rw [hK] at hh; exact .inr hh
  · cases e
    obtain ⟨v, rfl, h1⟩ := hw.sgl
    obtain rfl := h1.ofInt
    exact call_int1 pins s σ H _ us Q I r (.inl ⟨_, rfl, q _ F H _ (.refl sb) (.d (.int _))⟩)
  · cases e
    obtain ⟨v, rfl, h1⟩ := hw.sgl
    obtain rfl := h1.ofBool
    exact call_int1 pins s σ H _ us Q I r (.inr ⟨_, rfl, q _ F H _ (.refl sb) (.d (.int _))⟩)
  · cases e
    obtain ⟨v, rfl, h1⟩ := hw.sgl
    obtain rfl := h1.ofInt
    exact call_abs pins s σ H _ us Q I r ⟨_, rfl, q _ F H _ (.refl sb) (.d (.int _))⟩
  · cases e
    obtain ⟨v, v', rfl, h1, h2⟩ := hw.dbl
    obtain rfl := h1.ofInt
    obtain rfl := h2.ofInt
    exact call_max2 hc pins s σ H _ us Q I r ⟨_, _, rfl, q _ F H _ (.refl sb) (.d (.int _))⟩
  · cases e
    obtain ⟨v, v', rfl, h1, h2⟩ := hw.dbl
    obtain rfl := h1.ofInt
    obtain rfl := h2.ofInt
    exact call_min2 hc pins s σ H _ us Q I r ⟨_, _, rfl, q _ F H _ (.refl sb) (.d (.int _))⟩
  · -- min of a list
    obtain ⟨v, rfl, h1⟩ := hw.sgl
    split at e
    · rename_i x xs es
      split at e
      · rename_i hcond
        cases e
        obtain ⟨a, vs, rfl, ha, da⟩ := h1.ofSeq sb es
        simp only [Bool.and_eq_true, Bool.not_eq_true', decide_eq_true_eq] at hcond
        obtain ⟨⟨⟨c1, c2⟩, c3⟩, c4⟩ := hcond
        exact cr_minD hK hc hu pins s σ H _ us Q I r ⟨F, a, vs, x, xs, sb, rfl, ha, da, c1, c2, c3, c4, fun v dv => q v F H _ (.refl sb) (.d dv)⟩
      · cases e
    · cases e
  · -- sum
    obtain ⟨v, rfl, h1⟩ := hw.sgl
    split at e
    · rename_i is es
      cases e
      rename_i w _
      cases e2 : seqD w with
      | none => rw [e2] at es; cases es
      | some xs =>
        rw [e2] at es
        obtain ⟨a, vs, rfl, ha, da⟩ := h1.ofSeq sb e2
        rw [allI_of da es] at ha
        exact cr_sum hc pins s σ H _ us Q I r ⟨a, is, rfl, SqL.of ha, q _ F H _ (.refl sb) (.d (.int _))⟩
    · cases e
  · -- all
    obtain ⟨v, rfl, h1⟩ := hw.sgl
    split at e
    · rename_i is es
      cases e
      rename_i w _
      cases e2 : seqD w with
      | none => rw [e2] at es; cases es
      | some xs =>
        rw [e2] at es
        obtain ⟨a, vs, rfl, ha, da⟩ := h1.ofSeq sb e2
        rw [allB_of da es] at ha
        exact cr_all hc pins s σ H _ us Q I r ⟨a, is, rfl, SqL.of ha, q _ F H _ (.refl sb) (.d (.bl _))⟩
    · cases e
  · -- any
    obtain ⟨v, rfl, h1⟩ := hw.sgl
    split at e
    · rename_i is es
      cases e
      rename_i w _
      cases e2 : seqD w with
      | none => rw [e2] at es; cases es
      | some xs =>
        rw [e2] at es
        obtain ⟨a, vs, rfl, ha, da⟩ := h1.ofSeq sb e2
        rw [allB_of da es] at ha
        exact cr_any hc pins s σ H _ us Q I r ⟨a, is, rfl, SqL.of ha, q _ F H _ (.refl sb) (.d (.bl _))⟩
    · cases e
  · -- sorted
    obtain ⟨v, rfl, h1⟩ := hw.sgl
    split at e
    · rename_i xs es
      split at e
      · rename_i hcond
        cases e
        obtain ⟨a, vs, rfl, ha, da⟩ := h1.ofSeq sb es
        simp only [Bool.and_eq_true, decide_eq_true_eq] at hcond
        obtain ⟨⟨⟨⟨c1, c2⟩, c3⟩, c4⟩, c5⟩ := hcond
        exact cr_sortD hK hu pins s σ H _ us Q I r ⟨F, a, vs, xs, sb, rfl, ha, da, c1, c2, c3, c4, c5, fun ys p hp dy => q _ _ _ _ (.own sb hp) (WR.newL sb dy)⟩
      · cases e
    · cases e
  · -- divmod
    obtain ⟨v, v', rfl, h1, h2⟩ := hw.dbl
    obtain rfl := h1.ofInt
    obtain rfl := h2.ofInt
    split at e
    · rename_i hz
      cases e
      exact call_divmod pins s σ H _ us Q I r ⟨_, _, rfl, hz, fun p hp => q _ _ _ _ (.dat sb hp) (.d (.tup (SqT.of upd_same) (.cons (.int _) (.cons (.int _) .nil))))⟩
    · cases e
  · cases e
end
/-! ### sum(lists, []) -/
section
variable {X : Cx} {c : Cfg} {F H : Hp} {P : Addr → Prop}
theorem allLs_of (s : Sub F H) : ∀ {ws : List W} {zs : List D} {vs : List V} {P : Addr → Prop}, WRs c.K c.G F H ws vs P → allLs ws = some zs →
    ∃ (as : List Addr) (ls : List (List V)), vs = as.map V.ref ∧ as.length = ls.length ∧ (∀ (i : Nat) (a : Addr) (l : List V), as[i]? = some a → ls[i]? = some l → H a = some (.lst l)) ∧ DRs c.K c.G F ls.flatten zs
  | [], zs, _, _, h, e => by cases h; cases e; exact ⟨[], [], rfl, rfl, fun i a l h => by simp at h, .nil⟩
  | w :: ws, zs, _, _, h, e => by
    cases h with
    | cons h1 h2 h3 h4 =>
      rw [allLs] at e
      split at e
      · rename_i xs ys e1 e2
        cases e
        obtain ⟨a, l, rfl, ha, da⟩ := h3.ofSeq s e1
        obtain ⟨as, ls, rfl, el, hl, dl⟩ := allLs_of s h4 e2
        refine ⟨a :: as, l :: ls, rfl, by simp [el], fun i a' l' q1 q2 => ?_, da.append dl⟩
        cases i with
        | zero => simp at q1 q2; subst q1 q2; exact ha
        | succ i => exact hl i a' l' (by simpa using q1) (by simpa using q2)
      · cases e
theorem allLd_of (s : Sub F H) : ∀ {ws : List D} {zs : List D} {vs : List V}, DRs c.K c.G F vs ws → allLd ws = some zs →
    ∃ (as : List Addr) (ls : List (List V)), vs = as.map V.ref ∧ as.length = ls.length ∧ (∀ (i : Nat) (a : Addr) (l : List V), as[i]? = some a → ls[i]? = some l → H a = some (.lst l)) ∧ DRs c.K c.G F ls.flatten zs
  | [], zs, _, h, e => by cases h; cases e; exact ⟨[], [], rfl, rfl, fun i a l h => by simp at h, .nil⟩
  | .list xs :: ws, zs, _, h, e => by
    cases h with
    | cons h3 h4 =>
      rw [allLd] at e
      cases e2 : allLd ws with
      | none => rw [e2] at e; cases e
      | some ys =>
        rw [e2] at e
        cases e
        cases h3 with
        | @lst a l _ ha da =>
          obtain ⟨as, ls, rfl, el, hl, dl⟩ := allLd_of s h4 e2
          refine ⟨a :: as, l :: ls, rfl, by simp [el], fun i a' l' q1 q2 => ?_, da.append dl⟩
          cases i with
          | zero => simp at q1 q2; subst q1 q2; exact s _ _ ha
          | succ i => exact hl i a' l' (by simpa using q1) (by simpa using q2)
  | .none :: _, _, _, _, e => by simp [allLd] at e
  | .bool _ :: _, _, _, _, e => by simp [allLd] at e
  | .int _ :: _, _, _, _, e => by simp [allLd] at e
  | .str _ :: _, _, _, _, e => by simp [allLd] at e
  | .tuple _ :: _, _, _, _, e => by simp [allLd] at e
  | .dict _ :: _, _, _, _, e => by simp [allLd] at e
theorem sumW_of (s : Sub F H) {w : W} {zs : List D} {v : V} (h : WR c.K c.G F H w v P) (e : sumW w = some zs) :
    ∃ (a : Addr) (as : List Addr) (ls : List (List V)), v = .ref a ∧ H a = some (.lst (as.map V.ref)) ∧ as.length = ls.length ∧ (∀ (i : Nat) (a : Addr) (l : List V), as[i]? = some a → ls[i]? = some l → H a = some (.lst l)) ∧ DRs c.K c.G F ls.flatten zs := by
  unfold sumW at e
  split at e
  · cases h with
    | @lst _ a vs _ _ h1 h2 h3 h4 =>
      obtain ⟨as, ls, rfl, r⟩ := allLs_of s h4 e
      exact ⟨a, as, ls, rfl, h1, r⟩
  · cases h with
    | d h =>
      cases h with
      | @lst a vs _ h1 h2 =>
        obtain ⟨as, ls, rfl, r⟩ := allLd_of s h2 e
        exact ⟨a, as, ls, rfl, s _ _ h1, r⟩
  · cases e
theorem catTo_flat : ∀ (its : List (List Value)) (n : Nat), n ≤ its.length → catTo (fun i => (its[i]?).getD []) n = (its.take n).flatten
  | its, 0, _ => by simp [catTo]
  | its, n + 1, h => by
    have e : its[n]? = some its[n] := List.getElem?_eq_getElem (by omega)
    rw [catTo, catTo_flat its n (by omega), List.take_add_one, List.flatten_append, e]
    show (its.take n).flatten ++ its[n] = (its.take n).flatten ++ [its[n]].flatten
    rw [List.flatten_cons, List.flatten_nil, List.append_nil]
theorem live_of {P : Program} {w : World} {H : Hp} {h : Heap} {a : Addr} {o : HO} (x : ObjOk P w H h a o) : ∃ ob, h.get? a = some ob := by
  cases o with
  | lst xs => obtain ⟨_, _, _, _, e⟩ := x; exact ⟨_, e⟩
  | tup xs => obtain ⟨_, _, _, ob, e, _⟩ := x; exact ⟨_, e⟩
  | dK kvs => obtain ⟨_, _, _, _, o, _, _, e, _⟩ := x; exact ⟨_, e⟩
  | dT kvs => obtain ⟨_, _, _, _, o, _, _, e, _⟩ := x; exact ⟨_, e⟩
  | set S n => obtain ⟨o, _, _, _, e, _⟩ := x; exact ⟨_, e⟩
  | ins C dx fs => obtain ⟨_, _, _, e, _⟩ := x; exact ⟨_, e⟩
  | own y => exact x
  | xd fs => obtain ⟨_, ⟨_, _, _, e, _⟩, _⟩ := x; exact ⟨_, e⟩
  | rng lo hi => obtain ⟨_, _, _, e⟩ := x; exact ⟨_, e⟩
  | frz ob u => exact ⟨_, x.1⟩
  | tbl ps => exact ⟨_, x⟩
  | met f y => exact ⟨_, x⟩
  | ext φ => exact x.2.1
theorem inv_laid {pins : List (Addr × Obj)} {σ : L2.St} {s : Shared} {h' : Heap} {a : Addr} {o : HO} {t' : Nat} (I : Inv X pins σ H s) (k : ∀ b u, s.heap.get? b = some u → h'.get? b = some u) (hg : s.heap.get? a = none) (new : ObjOk X.prog X.w (upd H a o) h' a o) :
    H a = none ∧ Inv X pins σ (upd H a o) { s with heap := h', toks := t' } := by
  have hn : H a = none := by
    cases e : H a with
    | none => rfl
    | some u =>
      obtain ⟨ob, q⟩ := live_of (I.hok a u e)
      rw [hg] at q
      cases q
  have ne : ∀ b u, s.heap.get? b = some u → b ≠ a := fun b u q z => by rw [z, hg] at q; cases q
  refine ⟨hn, I.un ⟨fun b u q _ _ _ => k b u q, fun b u q _ _ _ => ⟨u.slots, k b u q⟩, fun b u q n _ => by rw [upd_ne (ne b u q)]; exact n, fun b u q _ => ⟨u, k b u q⟩, fun b xs q => by rw [upd_ne (ne_of_none q hn)]; exact q,
    fun b u xs q => by rw [upd_ne (ne_of_none q hn)]; exact q, fun b ps q => ⟨#[], by rw [upd_ne (ne_of_none q hn), q]; simp⟩⟩ fun b u e => ?_⟩
  by_cases hb : b = a
  · subst hb; rw [upd_same] at e; cases e; exact new
  · rw [upd_ne hb] at e
    exact (I.hok b u e).stay (fun c v _ q => k c v q) (fun c q => by rw [upd_ne (ne_of_none q hn)]; exact q) fun c xs q => by rw [upd_ne (ne_of_none q hn)]; exact q
theorem cr_sumL (hc : X.calm = true) : CallR X (.builtin "sum") fun xs H Q => ∃ (a b : Addr) (as : List Addr) (ls : List (List V)), xs = [.ref a, .ref b] ∧ H a = some (.lst (as.map V.ref)) ∧ H b = some (.lst []) ∧ as.length = ls.length ∧
    (∀ (i : Nat) (a : Addr) (l : List V), as[i]? = some a → ls[i]? = some l → H a = some (.lst l)) ∧ ls.flatten.length ≤ sizeLine ∧ (as = [] → Q (.ref b) H) ∧ (as ≠ [] → ∀ p, H p = none → Q (.ref p) (upd H p (.lst ls.flatten))) := by
  intro pins s σ H xs us Q I r h
  obtain ⟨a, b, as, ls, rfl, ha, hb, el, hl, hz, q1, q2⟩ := h
  have refs : ∀ {as : List Addr} {its : List Value}, Vals (as.map V.ref) its → its = as.map Value.ref := by
    intro as
    induction as with
    | nil => intro its h; cases h; rfl
    | cons a as ih =>
      intro its h
      cases h with
      | cons h1 h2 =>
        rename_i u us
        have e1 : u = Value.ref a := h1
        rw [e1, ih h2]
        rfl
  have parts : ∀ (as : List Addr) (ls : List (List V)), as.length = ls.length → (∀ (i : Nat) (a : Addr) (l : List V), as[i]? = some a → ls[i]? = some l → H a = some (.lst l)) →
      ∃ its : List (List Value), its.length = as.length ∧ Vals ls.flatten its.flatten ∧ ∀ (i : Nat) (a : Addr), as[i]? = some a → ∃ nb, s.heap.get? a = some { cls := .type "list", data := .seq ((its[i]?).getD []).toArray nb } := by
    intro as
    induction as with
    | nil =>
      intro ls e _
      cases ls with
      | nil => exact ⟨[], rfl, .nil, fun i a h => by simp at h⟩
      | cons _ _ => cases e
    | cons x as ih =>
      intro ls e h
      cases ls with
      | nil => cases e
      | cons l ls =>
        obtain ⟨its, e1, e2, e3⟩ := ih ls (by simpa using e) fun i a' l' q1 q2 => h (i + 1) a' l' (by simpa using q1) (by simpa using q2)
        obtain ⟨_, it, n, rv, _, ho⟩ := I.lstM (h 0 x l rfl rfl)
        refine ⟨it :: its, by simp [e1], rv.append e2, fun i a' q => ?_⟩
        cases i with
        | zero =>
          simp at q
          subst q
          exact ⟨n, ho⟩
        | succ i => exact e3 i a' (by simpa using q)
  obtain ⟨ita, e1, e2, e3⟩ := parts as ls el hl
  obtain ⟨_, its, n, rv, _, ho⟩ := I.lstM ha
  obtain ⟨_, itb, nb, rb, _, hob⟩ := I.lstM hb
  cases rb
  have er := refs rv
  subst er
  obtain ⟨u1, u2, rfl, r1, r2⟩ := vals2 r
  obtain rfl : u1 = Value.ref a := r1
  obtain rfl : u2 = Value.ref b := r2
  have fl : ∀ i, i ≤ as.length → (catTo (fun i => (ita[i]?).getD []) i).length ≤ sizeLine := fun i hi => by
    rw [catTo_flat ita i (by rw [e1]; exact hi)]
    have : (ita.take i).flatten.length ≤ ita.flatten.length := by
      have h1 : ita.flatten = (ita.take i).flatten ++ (ita.drop i).flatten := by rw [← List.flatten_append, List.take_append_drop]
      rw [h1, List.length_append]
      omega
    rw [← e2.length] at this
    omega
  refine call_sum_lists (val := fun i => (ita[i]?).getD []) (I.ok.hd hc) ho hob (fun i x hx => e3 i x hx) fl fun h' tk p m hk hp1 hp2 hp3 => ?_
  rw [catTo_flat ita as.length (by rw [e1]; exact Nat.le_refl _), List.take_of_length_le (by rw [e1]; exact Nat.le_refl _)] at hp1
  by_cases hn : as = []
  · rw [hp2 hn]
    exact ⟨.ref b, H, I.kept hk, rfl, q1 hn⟩
  · have hpn := hp3 hn
    obtain ⟨hn', I'⟩ := inv_laid (t' := tk) (o := .lst ls.flatten) I hk hpn ⟨hz, ita.flatten, m, e2, hp1⟩
    exact ⟨.ref p, _, I', rfl, q2 hn p hn'⟩
end
end Ev
end

section
set_option Elab.async false
set_option linter.all false
set_option autoImplicit true
set_option maxRecDepth 100000
set_option maxHeartbeats 4000000
/-! EvH: expressions. -/
namespace Ev
open PySem PySem.Spec PyProof.Rows L2
section
variable {c : Cfg} {Wx : WX} {T : Tb} {X : Cx} {σ : L2.St} {F F1 H H1 F' H' : Hp} {P P1 Pt Pn : Addr → Prop} {env env1 : Env} {rs : List R} {vs : List V}
theorem SR.new (S : SR c.K c.G F H env σ P) (n : New F H F' H' Pn) : SR c.K c.G F' H' env σ P ∧ (∀ a, P a → ¬ Pn a) ∧ Step F H P F' H' (fun a => P a ∨ Pn a) := by
  have dj : ∀ a, P a → ¬ Pn a := fun a h z => S.good.trk a h (n.frP a z)
  refine ⟨⟨S.len, ⟨n.good.sub, fun a h => ?_, fun a h => ?_⟩, ?_⟩, dj, ⟨n.ext, fun a o e _ => n.keep a o e, fun a h => h.imp id (n.frP a), fun a o e => (n.frF a o e).imp id .inr⟩⟩
  · cases e : F' a with
    | none => rfl
    | some o =>
      rcases n.frF a o e with z | z
      · rw [S.good.off a h] at z; cases z
      · exact (S.good.trk a h z).elim
  · cases e : H a with
    | none => exact (S.good.trk a h e).elim
    | some o => rw [n.keep a o e]; simp
  · obtain ⟨Ps, h1, h2, h3⟩ := S.rel
    exact ⟨Ps, h1, h2, fun i p w e => let ⟨v, ev, hw⟩ := h3 i p w e; ⟨v, ev, hw.stay n.ext fun a o _ q => n.keep a o q⟩⟩
theorem rr_toR {w : W} {v : V} (h : WR c.K c.G F H w v P) : RR c.K c.G F H σ (toR w) v P := by
  cases w with
  | d x =>
    cases h with
    | d h => exact .d h
  | _ => exact .own h
/-- an answer comes anew -/
theorem Tm.fin (t : Tm c F1 H1 env1 σ P1 rs vs Pt) (s : Step F H P F1 H1 fun a => P1 a ∨ Pt a) (n : New F1 H1 F' H' Pn) {r : R} {u : V} (hr : RR c.K c.G F' H' σ r u Pn) :
    Tm c F' H' env1 σ P1 [r] [u] Pn ∧ Step F H P F' H' fun a => P1 a ∨ Pn a := by
  obtain ⟨S', dj, st⟩ := t.sr.new n
  exact ⟨⟨S', RRs.mk1 hr, dj, n.good⟩, s.trans (st.wide (fun _ h => .inl h) fun _ h => .inl h)⟩
theorem Tm.finW (t : Tm c F1 H1 env1 σ P1 rs vs Pt) (s : Step F H P F1 H1 fun a => P1 a ∨ Pt a) (n : New F1 H1 F' H' Pn) {w : W} {u : V} (hw : WR c.K c.G F' H' w u Pn) :
    Tm c F' H' env1 σ P1 [toR w] [u] Pn ∧ Step F H P F' H' fun a => P1 a ∨ Pn a := t.fin s n (rr_toR hw)
/-- .. data -/
theorem Tm.finD (t : Tm c F1 H1 env1 σ P1 rs vs Pt) (s : Step F H P F1 H1 fun a => P1 a ∨ Pt a) {x : D} {u : V} (hd : DR c.K c.G F1 u x) :
    Tm c F1 H1 env1 σ P1 [.d x] [u] (fun _ => False) ∧ Step F H P F1 H1 fun a => P1 a ∨ False := t.fin s (New.refl t.sr.good.sub) (.d hd)
/-- .. one of those that are held, all else dropped -/
theorem Tm.keep (t : Tm c F1 H1 env1 σ P1 [r] [v] Pt) : True := trivial

/-! ### names, constants -/
theorem sr_at {i : Nat} {p : Bool} {w : W} (S : SR c.K c.G F H env σ P) (e : env[i]? = some (.ok p w)) : ∃ v, σ[i]? = some (some v) ∧ ∃ P1, WR c.K c.G F H w v P1 ∧ ∀ a, P1 a → P a :=
  let ⟨Ps, h1, _, h3⟩ := S.rel
  let ⟨v, ev, hw⟩ := h3 i p w e
  ⟨v, ev, Ps i, hw, h1 i⟩
theorem nilStep (S : SR c.K c.G F H env σ P) : Step F H P F H fun a => P a ∨ False := Step.nil F H P
theorem e_var {i : Nat} {x : Str} {pos : Pos} (h : PE X (.Name x pos) (tVar i)) : PE X (.Name x pos) (rdE c Wx T (.var i)) := by
  refine h.imp fun σ H Q ⟨F, P, env, S, q⟩ => ?_
  rw [ev] at q
  cases e : env[i]? with
  | none => simp only [e] at q; exact False.elim q
  | some s =>
    cases s with
    | no => simp only [e] at q; exact False.elim q
    | lck => simp only [e] at q; exact False.elim q
    | ok p w =>
      obtain ⟨v, ev, P1, hw, _⟩ := sr_at S e
      refine ⟨v, ev, ?_⟩
      have fin : ∀ r : R, RR c.K c.G F H σ r v (fun _ => False) → Aft c Wx σ F H P (some (.ok [r], env)) (fun vs H' => ∃ v, vs = [v] ∧ Q v H') → Q v H := fun r hr h => by
        obtain ⟨t, s⟩ := (Tm.nil S).fin (nilStep S) (New.refl S.good.sub) hr
        obtain ⟨v', e', q⟩ := h [v] F H P _ t s
        cases e'
        exact q
      cases w with
      | d x =>
        simp only [e] at q
        cases hw with
        | d hd => exact fin _ (.d hd) q
      | lst _ => simp only [e] at q; exact fin _ (.pth (i := i) (sel := []) ev rfl) q
      | dct _ _ => simp only [e] at q; exact fin _ (.pth (i := i) (sel := []) ev rfl) q
      | dcn _ => simp only [e] at q; exact fin _ (.pth (i := i) (sel := []) ev rfl) q
      | scr _ => simp only [e] at q; exact fin _ (.pth (i := i) (sel := []) ev rfl) q
/-- a value that is data whatever stands -/
theorem e_dat {e : Expr} {e' : E} {v : V} {x : D} (h : PE X e (tC v)) (hd : ∀ F, DR c.K c.G F v x) (he : ∀ env, ev T e' env = some (.ok [.d x], env)) : PE X e (rdE c Wx T e') := by
  refine h.imp fun σ H Q ⟨F, P, env, S, q⟩ => ?_
  rw [he] at q
  obtain ⟨t, s⟩ := (Tm.nil S).finD (nilStep S) (hd F)
  obtain ⟨v', e', q⟩ := q [v] F H P _ t s
  cases e'
  exact q
/-! ### operators -/
theorem Tm.look1 {r : R} {v : V} {w : W} (t : Tm c F H env σ P [r] [v] Pt) (e : see env r = some w) : ∃ P0, WR c.K c.G F H w v P0 := by
  obtain ⟨v', ev, hr⟩ := t.rr.one
  cases ev
  obtain ⟨P0, h, _⟩ := hr.see t.sr e
  exact ⟨P0, h⟩
theorem RRs.two {r r' : R} {vs : List V} (h : RRs c.K c.G F H σ [r, r'] vs P) : ∃ v v', vs = [v, v'] ∧ RR c.K c.G F H σ r v P ∧ RR c.K c.G F H σ r' v' P := by
  cases h with
  | cons h1 h2 h3 h4 =>
    obtain ⟨v', rfl, h5⟩ := RRs.one h4
    exact ⟨_, _, rfl, h3.big fun a ha => (h1 a ha).1, h5.big h2⟩
theorem e_bin {a b : Expr} {a' b' : E} {op : Operator} {pos : Pos} (hK : c.K = X.K) (ha : PE X a (rdE c Wx T a')) (hb : PE X b (rdE c Wx T b')) : PE X (.BinOp a op b pos) (rdE c Wx T (.bin op a' b')) := by
  refine (pe_op (op_binW hK op) ha hb).imp fun σ H Q ⟨F, P, env, S, q⟩ => ?_
  rw [ev] at q
  refine ⟨F, P, env, S, Aft.fst q S fun rs env1 vs F1 H1 P1 Pt _ t s q => ?_⟩
  obtain ⟨r, rfl, q⟩ := q.sole
  obtain ⟨v, rfl, hr⟩ := t.rr.one
  refine ⟨v, rfl, ?_⟩
  obtain ⟨r', env2, F2, P2, hd, t, s, q⟩ := q.settle t s
  refine ⟨F2, P2, env2, t.sr, Aft.seq q t (by simpa using hd) s fun rs2 env3 vs2 F3 H3 P3 Pt3 _ t t2 s q => ?_⟩
  obtain ⟨r2, rfl, q⟩ := q.sole
  obtain ⟨u, rfl, hr2⟩ := t2.rr.one
  refine ⟨u, rfl, ?_⟩
  obtain ⟨w1, e1, q⟩ := q.see
  obtain ⟨w2, e2, q⟩ := q.see
  obtain ⟨rr, e3, q⟩ := q.end_
  cases e4 : binop op w1 w2 with
  | none => rw [e4] at e3; cases e3
  | some z =>
    rw [e4] at e3
    cases e3
    obtain ⟨v1, v2, ev, q1, q2⟩ := t.rr.two
    cases ev
    obtain ⟨P4, h1, _⟩ := q1.see t.sr e1
    obtain ⟨P5, h2, _⟩ := q2.see t.sr e2
    refine ⟨F3, w1, w2, fun a => P4 a ∨ P5 a, z, t.sr.good.sub, h1.big fun _ z => .inl z, h2.big fun _ z => .inr z, e4, fun u F' H' Pn n hw => ?_⟩
    obtain ⟨t', s'⟩ := t.finW s n hw
    obtain ⟨v', ev, q⟩ := q [u] F' H' _ _ t' s'
    cases ev
    exact q
theorem rd_cmp {a' b' : E} {op : CmpOp} {Q : VK} (q : rdE c Wx T (.cmp op a' b') σ H Q) : tOp (rC2 c (cmpop op)) (rdE c Wx T a') (rdE c Wx T b') σ H Q := by
  obtain ⟨F, P, env, S, q⟩ := q
  rw [ev] at q
  refine ⟨F, P, env, S, Aft.fst q S fun rs env1 vs F1 H1 P1 Pt _ t s q => ?_⟩
  obtain ⟨r, rfl, q⟩ := q.sole
  obtain ⟨v, rfl, hr⟩ := t.rr.one
  refine ⟨v, rfl, ?_⟩
  obtain ⟨r', env2, F2, P2, hd, t, s, q⟩ := q.settle t s
  refine ⟨F2, P2, env2, t.sr, Aft.seq q t (by simpa using hd) s fun rs2 env3 vs2 F3 H3 P3 Pt3 _ t t2 s q => ?_⟩
  obtain ⟨r2, rfl, q⟩ := q.sole
  obtain ⟨u, rfl, hr2⟩ := t2.rr.one
  refine ⟨u, rfl, ?_⟩
  obtain ⟨w1, e1, q⟩ := q.see
  obtain ⟨w2, e2, q⟩ := q.see
  obtain ⟨rr, e3, q⟩ := q.end_
  cases e4 : cmpop op w1 w2 with
  | none => rw [e4] at e3; cases e3
  | some z =>
    rw [e4] at e3
    cases e3
    obtain ⟨v1, v2, ev, q1, q2⟩ := t.rr.two
    cases ev
    obtain ⟨P4, h1, _⟩ := q1.see t.sr e1
    obtain ⟨P5, h2, _⟩ := q2.see t.sr e2
    refine ⟨F3, w1, w2, P4, P5, z, t.sr.good.sub, h1, h2, e4, ?_⟩
    obtain ⟨t', s'⟩ := t.finD s (DR.bl z)
    obtain ⟨v', ev, q⟩ := q [.bl z] F3 H3 _ _ t' s'
    cases ev
    exact q
theorem e_cmp {a b : Expr} {a' b' : E} {op : CmpOp} {pos : Pos} (hK : c.K = X.K) (hG : c.On X) (hu : X.A.units + 65 < cLine) (hm : behindInMarks op b = false) (ha : PE X a (rdE c Wx T a')) (hb : PE X b (rdE c Wx T b')) :
    PE X (.Compare a [op] [b] pos) (rdE c Wx T (.cmp op a' b')) := (pe_cmpR (op_cmpW hK hG hu op) ha hb hm).imp fun _ _ _ => rd_cmp
theorem e_un {a : Expr} {a' : E} {op : UnaryOp} {pos : Pos} (ha : PE X a (rdE c Wx T a')) : PE X (.UnaryOp op a pos) (rdE c Wx T (.un op a')) := by
  refine (pe_un (un_unW (c := c) op) ha).imp fun σ H Q ⟨F, P, env, S, q⟩ => ?_
  rw [ev] at q
  refine ⟨F, P, env, S, Aft.fst q S fun rs env1 vs F1 H1 P1 Pt _ t s q => ?_⟩
  obtain ⟨r, rfl, q⟩ := q.sole
  obtain ⟨v, rfl, hr⟩ := t.rr.one
  refine ⟨v, rfl, ?_⟩
  obtain ⟨w1, e1, q⟩ := q.see
  obtain ⟨rr, e3, q⟩ := q.end_
  cases e4 : unop op w1 with
  | none => rw [e4] at e3; cases e3
  | some z =>
    rw [e4] at e3
    cases e3
    obtain ⟨P4, h1, _⟩ := hr.see t.sr e1
    refine ⟨F1, w1, P4, z, t.sr.good.sub, h1, e4, fun u F' H' Pn n hw => ?_⟩
    obtain ⟨t', s'⟩ := t.finW s n hw
    obtain ⟨v', ev, q⟩ := q [u] F' H' _ _ t' s'
    cases ev
    exact q
/-! ### truth -/
theorem ev_lft {α : Type} {o : Option α} {env env' : Env} {a : α} (h : lft o env = some (.ok a, env')) : o = some a ∧ env' = env := by
  unfold lft at h
  cases o with
  | none => cases h
  | some b => cases h; exact ⟨rfl, rfl⟩
theorem bnd_ok {α β : Type} {m : M α} {f : α → M β} {env env' : Env} {b : β} (h : bnd m f env = some (.ok b, env')) : ∃ a e, m env = some (.ok a, e) ∧ f a e = some (.ok b, env') := by
  unfold bnd at h
  split at h
  · cases h
  · rename_i a e hm; exact ⟨a, e, hm, h⟩
  · cases h
/-- always a truth value -/
def BoolE (T : Tb) (e : E) : Prop := ∀ env rs env', ev T e env = some (.ok rs, env') → ∃ k, rs = [.d (.bool k)]
theorem bool_cmp {o : CmpOp} {a b : E} : BoolE T (.cmp o a b) := fun env rs env' h => by
  rw [ev] at h
  obtain ⟨_, _, _, h⟩ := bnd_ok h
  obtain ⟨_, _, _, h⟩ := bnd_ok h
  obtain ⟨_, _, _, h⟩ := bnd_ok h
  obtain ⟨_, _, _, h⟩ := bnd_ok h
  obtain ⟨_, _, _, h⟩ := bnd_ok h
  obtain ⟨v, _, _, h⟩ := bnd_ok h
  obtain ⟨w, _, _, h⟩ := bnd_ok h
  obtain ⟨h, _⟩ := ev_lft h
  cases e : cmpop o v w with
  | none => rw [e] at h; cases h
  | some k => rw [e] at h; cases h; exact ⟨k, rfl⟩
theorem bool_chn {o o' : CmpOp} {a b z : E} : BoolE T (.chn o o' a b z) := fun env rs env' h => by
  rw [ev] at h
  obtain ⟨_, _, _, h⟩ := bnd_ok h
  obtain ⟨_, _, _, h⟩ := bnd_ok h
  obtain ⟨_, _, _, h⟩ := bnd_ok h
  obtain ⟨_, _, _, h⟩ := bnd_ok h
  obtain ⟨_, _, _, h⟩ := bnd_ok h
  obtain ⟨y, _, _, h⟩ := bnd_ok h
  obtain ⟨k, _, _, h⟩ := bnd_ok h
  split at h
  · obtain ⟨_, _, _, h⟩ := bnd_ok h
    obtain ⟨_, _, _, h⟩ := bnd_ok h
    obtain ⟨z, _, _, h⟩ := bnd_ok h
    obtain ⟨h, _⟩ := ev_lft h
    cases e : cmpop o' (.d y) (.d z) with
    | none => rw [e] at h; cases h
    | some k => rw [e] at h; cases h; exact ⟨k, rfl⟩
  · cases h; exact ⟨false, rfl⟩
theorem bool_not {a : E} : BoolE T (.not a) := fun env rs env' h => by
  rw [ev] at h
  obtain ⟨_, _, _, h⟩ := bnd_ok h
  obtain ⟨_, _, _, h⟩ := bnd_ok h
  obtain ⟨k, _, _, h⟩ := bnd_ok h
  cases h
  exact ⟨!k, rfl⟩
theorem bool_isi {a : E} {ts : List String} : BoolE T (.isi a ts) := fun env rs env' h => by
  rw [ev] at h
  obtain ⟨_, _, _, h⟩ := bnd_ok h
  obtain ⟨_, _, _, h⟩ := bnd_ok h
  obtain ⟨w, _, _, h⟩ := bnd_ok h
  split at h
  · cases h
  · cases h; exact ⟨_, rfl⟩
/-- a test whose value is a truth value -/
theorem rdT_bool {e : E} (hb : BoolE T e) {Q : Bool → Hp → Prop} (q : rdT c Wx T e σ H Q) : rdE c Wx T e σ H fun v H' => ∃ k, v = .bl k ∧ Q k H' := by
  obtain ⟨F, P, env, S, q⟩ := q
  refine ⟨F, P, env, S, Aft.fst q S fun rs env1 vs F1 H1 P1 Pt e1 t s q => ?_⟩
  obtain ⟨k, rfl⟩ := hb _ _ _ e1
  obtain ⟨v, rfl, hr⟩ := t.rr.one
  obtain ⟨r, er, q⟩ := q.sole
  cases er
  cases hr with
  | d hd =>
    cases hd
    exact ⟨_, rfl, k, rfl, q F1 H1 P1 t.sr (s.wide (fun _ h => h) fun _ h => .inl (.inl h))⟩
/-- any other test -/
theorem rdT_any (hK : c.K = X.K) {e : E} {Q : Bool → Hp → Prop} (q : rdT c Wx T e σ H Q) : rdE c Wx T e σ H fun v H' => ∃ k, TruV X.K v H' k ∧ Q k H' := by
  obtain ⟨F, P, env, S, q⟩ := q
  refine ⟨F, P, env, S, Aft.fst q S fun rs env1 vs F1 H1 P1 Pt e1 t s q => ?_⟩
  obtain ⟨r, rfl, q⟩ := q.sole
  obtain ⟨v, rfl, hr⟩ := t.rr.one
  have q : AftB c Wx σ F H P (truM r env1) Q := q
  unfold truM bnd seeM at q
  cases es : see env1 r with
  | none => rw [es] at q; exact False.elim q
  | some w =>
    rw [es] at q
    simp only [Option.map_some] at q
    obtain ⟨k, ek, q⟩ := AftG.end_ q
    obtain ⟨P0, hw, _⟩ := hr.see t.sr es
    exact ⟨v, rfl, k, by rw [← hK]; exact hw.tru t.sr.good.sub ek, q F1 H1 P1 t.sr (s.wide (fun _ h => h) fun _ h => .inl (.inl h))⟩
theorem t_cmp {a b : Expr} {a' b' : E} {op : CmpOp} {pos : Pos} (hK : c.K = X.K) (hG : c.On X) (hu : X.A.units + 65 < cLine) (hm : behindInMarks op b = false) (ha : PE X a (rdE c Wx T a')) (hb : PE X b (rdE c Wx T b')) :
    PT X (.Compare a [op] [b] pos) (rdT c Wx T (.cmp op a' b')) := (pt_cmpR (op_cmpW hK hG hu op) ha hb hm).imp fun _ _ _ q => rd_cmp (rdT_bool bool_cmp q)
theorem t_any {a : Expr} {a' : E} (hK : c.K = X.K) (ha : PE X a (rdE c Wx T a')) (he : ∀ whole, isTrue a X.env whole = (do let v ← whole; standAt a.pos; holding [v] (truthy v))) : PT X a (rdT c Wx T a') :=
  (pt_truth ha he).imp fun _ _ _ q => rdT_any hK q
theorem AftG.plain {β : Type} {Kp : β → Env → Prop} {r : R} {f : D → M β} (h : AftG c Wx σ F H P (bnd (plainR r) f env1) Kp) : ∃ x, r = .d x ∧ AftG c Wx σ F H P (f x env1) Kp := by
  cases r with
  | d x => exact ⟨x, rfl, h⟩
  | own _ => exact False.elim h
  | pth _ _ => exact False.elim h
theorem RR.ofD {x : D} {v : V} (h : RR c.K c.G F H σ (.d x) v P) : DR c.K c.G F v x := by
  cases h with
  | d h => exact h
theorem rd_chn {a' b' z' : E} {o o' : CmpOp} {Q : VK} (q : rdE c Wx T (.chn o o' a' b' z') σ H Q) : tChain (rC2 c (cmpop o)) (rC2 c (cmpop o')) (rdE c Wx T a') (rdE c Wx T b') (rdE c Wx T z') σ H Q := by
  obtain ⟨F, P, env, S, q⟩ := q
  rw [ev] at q
  refine ⟨F, P, env, S, Aft.fst q S fun rs env1 vs F1 H1 P1 Pt _ t s q => ?_⟩
  obtain ⟨r, rfl, q⟩ := q.sole
  obtain ⟨v, rfl, hr⟩ := t.rr.one
  refine ⟨v, rfl, ?_⟩
  obtain ⟨x, rfl, q⟩ := AftG.plain q
  refine ⟨F1, P1, env1, t.sr, Aft.seq q t (by simp [R.held]) s fun rs2 env2 vs2 F2 H2 P2 Pt2 _ t t2 s q => ?_⟩
  obtain ⟨r2, rfl, q⟩ := q.sole
  obtain ⟨u, rfl, hr2⟩ := t2.rr.one
  refine ⟨u, rfl, ?_⟩
  obtain ⟨y, rfl, q⟩ := AftG.plain q
  obtain ⟨k, ek, q⟩ := q.lft
  obtain ⟨v1, v2, ev, q1, q2⟩ := t.rr.two
  cases ev
  refine ⟨F2, .d x, .d y, fun _ => False, fun _ => False, k, t.sr.good.sub, .d q1.ofD, .d q2.ofD, ek, k, rfl, ?_⟩
  cases k with
  | false =>
    simp only [Bool.false_eq_true, if_false] at q ⊢
    obtain ⟨t', s'⟩ := t.finD s (DR.bl false)
    obtain ⟨v', ev, q⟩ := q [.bl false] F2 H2 _ _ t' s'
    cases ev
    exact q
  | true =>
    simp only [if_true] at q ⊢
    refine ⟨F2, P2, env2, t.sr, Aft.seq q t (by simp [R.held]) s fun rs3 env3 vs3 F3 H3 P3 Pt3 _ t t3 s q => ?_⟩
    obtain ⟨r3, rfl, q⟩ := q.sole
    obtain ⟨z, rfl, hr3⟩ := t3.rr.one
    refine ⟨z, rfl, ?_⟩
    obtain ⟨zz, rfl, q⟩ := AftG.plain q
    obtain ⟨rr, e3, q⟩ := q.end_
    cases e4 : cmpop o' (.d y) (.d zz) with
    | none => rw [e4] at e3; cases e3
    | some k' =>
      rw [e4] at e3
      cases e3
      have dy : DR c.K c.G F3 u y := by
        cases t.rr with
        | cons h1 h2 h3 h4 =>
          cases h4 with
          | cons h5 h6 h7 h8 => exact h7.ofD
      refine ⟨F3, .d y, .d zz, fun _ => False, fun _ => False, k', t.sr.good.sub, .d dy, .d hr3.ofD, e4, ?_⟩
      obtain ⟨t', s'⟩ := t.finD s (DR.bl k')
      obtain ⟨v', ev, q⟩ := q [.bl k'] F3 H3 _ _ t' s'
      cases ev
      exact q
theorem e_chn {a b z : Expr} {a' b' z' : E} {o o' : CmpOp} {pos : Pos} (hK : c.K = X.K) (hG : c.On X) (hu : X.A.units + 65 < cLine) (hm : lastMarks [o, o'] [b, z] = false) (ha : PE X a (rdE c Wx T a')) (hb : PE X b (rdE c Wx T b')) (hz : PE X z (rdE c Wx T z')) :
    PE X (.Compare a [o, o'] [b, z] pos) (rdE c Wx T (.chn o o' a' b' z')) := (pe_chain (op_cmpW hK hG hu o) (op_cmpW hK hG hu o') ha hb hz hm).imp fun _ _ _ => rd_chn
theorem t_chn {a b z : Expr} {a' b' z' : E} {o o' : CmpOp} {pos : Pos} (hK : c.K = X.K) (hG : c.On X) (hu : X.A.units + 65 < cLine) (hm : lastMarks [o, o'] [b, z] = false) (ha : PE X a (rdE c Wx T a')) (hb : PE X b (rdE c Wx T b')) (hz : PE X z (rdE c Wx T z')) :
    PT X (.Compare a [o, o'] [b, z] pos) (rdT c Wx T (.chn o o' a' b' z')) := (pt_chain (op_cmpW hK hG hu o) (op_cmpW hK hG hu o') ha hb hz hm).imp fun _ _ _ q => rd_chn (rdT_bool bool_chn q)
/-! ### not, and, or, if else -/
/-- the value of a test is asked: behind the first part -/
theorem e_not {a : Expr} {a' : E} {pos : Pos} (hK : c.K = X.K) (ha : PE X a (rdE c Wx T a')) : PE X (.UnaryOp .Not a pos) (rdE c Wx T (.not a')) := by
  refine (pe_notT ha).imp fun σ H Q ⟨F, P, env, S, q⟩ => ?_
  rw [ev] at q
  refine ⟨F, P, env, S, Aft.fst q S fun rs env1 vs F1 H1 P1 Pt _ t s q => ?_⟩
  obtain ⟨r, rfl, q⟩ := q.sole
  obtain ⟨v, rfl, hr⟩ := t.rr.one
  refine ⟨v, rfl, ?_⟩
  obtain ⟨w, k, e1, e2, q⟩ := q.tru
  obtain ⟨P0, hw, _⟩ := hr.see t.sr e1
  refine ⟨k, by rw [← hK]; exact hw.tru t.sr.good.sub e2, ?_⟩
  obtain ⟨t', s'⟩ := t.finD s (DR.bl (!k))
  obtain ⟨v', ev, q⟩ := q [.bl (!k)] F1 H1 _ _ t' s'
  cases ev
  exact q
/-- a test, then something by its truth -/
theorem rd_tru {e : E} {β : Type} {Kp : β → Env → Prop} {f : R → Bool → M β} {Q : Bool → Hp → Prop} (S : SR c.K c.G F H env σ P)
    (q : AftG c Wx σ F H P (bnd (ev T e) (fun rs => bnd (sole rs) fun x => bnd (truM x) (f x)) env) Kp)
    (k : ∀ r b env1 F1 H1 P1, SR c.K c.G F1 H1 env1 σ P1 → Step F H P F1 H1 P1 → truM r env1 = some (.ok b, env1) → AftG c Wx σ F H P (f r b env1) Kp → Q b H1) : rdT c Wx T e σ H Q := by
  refine ⟨F, P, env, S, ?_⟩
  unfold bnd at q ⊢
  cases e1 : ev T e env with
  | none => rw [e1] at q; exact q
  | some p =>
    obtain ⟨p, env1⟩ := p
    rw [e1] at q
    cases p with
    | ex x => exact q
    | ok rs =>
      cases rs with
      | nil => exact q
      | cons r rs =>
        cases rs with
        | cons _ _ => exact q
        | nil =>
          have q : AftG c Wx σ F H P (bnd (truM r) (f r) env1) Kp := q
          show AftB c Wx σ F H P (truM r env1) Q
          obtain ⟨w, b, e2, e3, q⟩ := AftG.tru q
          have e4 : truM r env1 = some (.ok b, env1) := by
            unfold truM bnd seeM Ev.lft
            rw [e2]
            simp only [Option.map_some]
            rw [e3]
            rfl
          rw [e4]
          exact fun F1 H1 P1 S1 st => k r b env1 F1 H1 P1 S1 st e4 q
/-- the whole from another state, nothing being held -/
theorem AftG.from_ {β : Type} {Kp Kp' : β → Env → Prop} {res : Option (Res β × Env)} (q : AftG c Wx σ F H P res Kp) (s : Step F H P F1 H1 P1) (k : ∀ a env', Kp a env' → Kp' a env') : AftG c Wx σ F1 H1 P1 res Kp' := by
  cases res with
  | none => exact q
  | some p =>
    obtain ⟨p, env1⟩ := p
    cases p with
    | ok a => exact k a env1 q
    | ex x => exact fun cls d F' H' P' S ex st => q cls d F' H' P' S ex (s.trans st)
theorem Aft.from_ {res : Option (Res (List R) × Env)} {Q : List V → Hp → Prop} (q : Aft c Wx σ F H P res Q) (s : Step F H P F1 H1 P1) : Aft c Wx σ F1 H1 P1 res Q :=
  AftG.from_ q s fun rs env' h vs F' H' P' Pt t st => h vs F' H' P' Pt t (s.trans st)
theorem AftB.from_ {res : Option (Res Bool × Env)} {Q : Bool → Hp → Prop} (q : AftB c Wx σ F H P res Q) (s : Step F H P F1 H1 P1) : AftB c Wx σ F1 H1 P1 res Q :=
  AftG.from_ q s fun b env' h F' H' P' S st => h F' H' P' S (s.trans st)
theorem e_ife {t a b : Expr} {t' a' b' : E} {pos : Pos} (ht : PT X t (rdT c Wx T t')) (ha : PE X a (rdE c Wx T a')) (hb : PE X b (rdE c Wx T b')) : PE X (.IfExp t a b pos) (rdE c Wx T (.ife t' a' b')) := by
  refine (pe_ifExp ht ha hb).imp fun σ H Q ⟨F, P, env, S, q⟩ => ?_
  rw [ev] at q
  refine rd_tru (f := fun _ k => if k = true then ev T a' else ev T b') S q fun r k env1 F1 H1 P1 S1 st _ q => ?_
  cases k with
  | true => exact ⟨F1, P1, env1, S1, Aft.from_ q st⟩
  | false => exact ⟨F1, P1, env1, S1, Aft.from_ q st⟩
theorem e_and {a b : Expr} {rest : List Expr} {a' b' : E} {pos : Pos} (hK : c.K = X.K) (ha : PE X a (rdE c Wx T a')) (hb : PE X (.BoolOp .And (b :: rest) pos) (rdE c Wx T b')) : PE X (.BoolOp .And (a :: b :: rest) pos) (rdE c Wx T (.and a' b')) := by
  refine (pe_andT ha hb).imp fun σ H Q ⟨F, P, env, S, q⟩ => ?_
  rw [ev] at q
  refine ⟨F, P, env, S, Aft.fst q S fun rs env1 vs F1 H1 P1 Pt _ t s q => ?_⟩
  obtain ⟨r, rfl, q⟩ := q.sole
  obtain ⟨v, rfl, hr⟩ := t.rr.one
  refine ⟨v, rfl, ?_⟩
  obtain ⟨w, k, e1, e2, q⟩ := q.tru
  obtain ⟨P0, hw, _⟩ := hr.see t.sr e1
  refine ⟨k, by rw [← hK]; exact hw.tru t.sr.good.sub e2, ?_⟩
  cases k with
  | true => exact ⟨F1, P1, env1, t.sr, Aft.from_ q (s.wide (fun _ h => h) fun _ h => .inl (.inl h))⟩
  | false =>
    obtain ⟨v', ev, q⟩ := q [v] F1 H1 P1 Pt t s
    cases ev
    exact q
theorem e_or {a b : Expr} {rest : List Expr} {a' b' : E} {pos : Pos} (hK : c.K = X.K) (ha : PE X a (rdE c Wx T a')) (hb : PE X (.BoolOp .Or (b :: rest) pos) (rdE c Wx T b')) : PE X (.BoolOp .Or (a :: b :: rest) pos) (rdE c Wx T (.or a' b')) := by
  refine (pe_orT ha hb).imp fun σ H Q ⟨F, P, env, S, q⟩ => ?_
  rw [ev] at q
  refine ⟨F, P, env, S, Aft.fst q S fun rs env1 vs F1 H1 P1 Pt _ t s q => ?_⟩
  obtain ⟨r, rfl, q⟩ := q.sole
  obtain ⟨v, rfl, hr⟩ := t.rr.one
  refine ⟨v, rfl, ?_⟩
  obtain ⟨w, k, e1, e2, q⟩ := q.tru
  obtain ⟨P0, hw, _⟩ := hr.see t.sr e1
  refine ⟨k, by rw [← hK]; exact hw.tru t.sr.good.sub e2, ?_⟩
  cases k with
  | false => exact ⟨F1, P1, env1, t.sr, Aft.from_ q (s.wide (fun _ h => h) fun _ h => .inl (.inl h))⟩
  | true =>
    obtain ⟨v', ev, q⟩ := q [v] F1 H1 P1 Pt t s
    cases ev
    exact q
theorem bnd_assoc {α β γ : Type} (m : M α) (f : α → M β) (g : β → M γ) : bnd (bnd m f) g = bnd m fun a => bnd (f a) g := by
  funext env
  unfold bnd
  cases m env with
  | none => rfl
  | some p =>
    obtain ⟨p, e⟩ := p
    cases p <;> rfl
theorem bnd_if {β γ : Type} (k : Bool) (a b : M β) (g : β → M γ) : bnd (if k = true then a else b) g = if k = true then bnd a g else bnd b g := by cases k <;> rfl
theorem t_and {a b : Expr} {rest : List Expr} {a' b' : E} {pos : Pos} (ha : PT X a (rdT c Wx T a')) (hb : PW X (.BoolOp .And (b :: rest) pos) (rdT c Wx T b')) : PW X (.BoolOp .And (a :: b :: rest) pos) (rdT c Wx T (.and a' b')) := by
  refine ⟨fun wh pins s σ H Q I ⟨F, P, env, S, q⟩ => (pw_and ha hb).run wh pins s σ H Q I ?_⟩
  rw [ev] at q
  simp only [bnd_assoc, bnd_if] at q
  refine rd_tru (f := fun x k => if k = true then bnd (ev T b') fun rs => bnd (sole rs) truM else bnd (ret [x]) fun rs => bnd (sole rs) truM) S q fun r k env1 F1 H1 P1 S1 st e q => ?_
  cases k with
  | true => exact ⟨F1, P1, env1, S1, AftB.from_ q st⟩
  | false =>
    have q : AftB c Wx σ F H P (truM r env1) Q := q
    rw [e] at q
    exact q F1 H1 P1 S1 st
theorem t_or {a b : Expr} {rest : List Expr} {a' b' : E} {pos : Pos} (ha : PT X a (rdT c Wx T a')) (hb : PW X (.BoolOp .Or (b :: rest) pos) (rdT c Wx T b')) : PW X (.BoolOp .Or (a :: b :: rest) pos) (rdT c Wx T (.or a' b')) := by
  refine ⟨fun wh pins s σ H Q I ⟨F, P, env, S, q⟩ => (pw_or ha hb).run wh pins s σ H Q I ?_⟩
  rw [ev] at q
  simp only [bnd_assoc, bnd_if] at q
  refine rd_tru (f := fun x k => if k = true then bnd (ret [x]) fun rs => bnd (sole rs) truM else bnd (ev T b') fun rs => bnd (sole rs) truM) S q fun r k env1 F1 H1 P1 S1 st e q => ?_
  cases k with
  | false => exact ⟨F1, P1, env1, S1, AftB.from_ q st⟩
  | true =>
    have q : AftB c Wx σ F H P (truM r env1) Q := q
    rw [e] at q
    exact q F1 H1 P1 S1 st
theorem t_not {a : Expr} {a' : E} {pos : Pos} (ha : PT X a (rdT c Wx T a')) : PT X (.UnaryOp .Not a pos) (rdT c Wx T (.not a')) := by
  refine (pt_not ha).imp fun σ H Q ⟨F, P, env, S, q⟩ => ?_
  rw [ev] at q
  simp only [bnd_assoc] at q
  refine rd_tru (f := fun _ k => bnd (ret [.d (.bool (!k))]) fun rs => bnd (sole rs) truM) S q fun r k env1 F1 H1 P1 S1 st e q => ?_
  exact q F1 H1 P1 S1 st
end
end Ev
end

section
set_option Elab.async false
set_option linter.all false
set_option autoImplicit true
set_option maxRecDepth 100000
set_option maxHeartbeats 4000000
/-! EvI: argument lists, displays, subscripts, calls of builtins. -/
namespace Ev
open PySem PySem.Spec PyProof.Rows L2
section
variable {c : Cfg} {Wx : WX} {T : Tb} {X : Cx} {σ : L2.St} {F F1 H H1 F' H' : Hp} {P P1 Pt Pn : Addr → Prop} {env env1 : Env} {rs : List R} {vs : List V}
/-! ### argument lists -/
theorem a_nil : PA X [] (rdA c Wx T .nil) := by
  refine pa_nil.imp fun σ H Q ⟨F, P, env, S, q⟩ => ?_
  rw [ev] at q
  exact q [] F H P _ (Tm.nil S) (nilStep S)
theorem a_cons {e : Expr} {es : List Expr} {a b : E} (ha : PE X e (rdE c Wx T a)) (hr : PA X es (rdA c Wx T b)) (hs : starEach (e :: es) X.env = (false, eval e X.env) :: starEach es X.env) : PA X (e :: es) (rdA c Wx T (.cons a b)) := by
  refine (pa_cons ha hr hs).imp fun σ H Q ⟨F, P, env, S, q⟩ => ?_
  rw [ev] at q
  refine ⟨F, P, env, S, Aft.fst q S fun rs env1 vs F1 H1 P1 Pt _ t s q => ?_⟩
  obtain ⟨r, rfl, q⟩ := q.sole
  obtain ⟨v, rfl, hr⟩ := t.rr.one
  refine ⟨v, rfl, ?_⟩
  obtain ⟨r', env2, F2, P2, hd, t, s, q⟩ := q.settle t s
  refine ⟨F2, P2, env2, t.sr, Aft.seq q t (by simpa using hd) s fun rs2 env3 vs2 F3 H3 P3 Pt3 _ t t2 s q => ?_⟩
  exact q _ F3 H3 P3 _ t s
theorem a_star {e : Expr} {es : List Expr} {a b : E} {p : Pos} (hK : c.K = X.K) (he : PE X e (rdE c Wx T a)) (hr : PA X es (rdA c Wx T b)) (hs : starEach (.Starred e p :: es) X.env = (true, eval e X.env) :: starEach es X.env) : PA X (.Starred e p :: es) (rdA c Wx T (.scons a b)) := by
  refine (StX.pa_star he hr hs).imp fun σ H Q ⟨F, P, env, S, q⟩ => ?_
  rw [ev] at q
  refine ⟨F, P, env, S, Aft.fst q S fun rs env1 vs F1 H1 P1 Pt _ t s q => ?_⟩
  obtain ⟨r, rfl, q⟩ := q.sole
  obtain ⟨v, rfl, hr⟩ := t.rr.one
  refine ⟨v, rfl, ?_⟩
  obtain ⟨w, es, q⟩ := q.see
  obtain ⟨zs, ez, q⟩ := q.lft
  obtain ⟨P0, hw, _⟩ := hr.see t.sr es
  obtain ⟨a, xs, rfl, hx, dx⟩ : ∃ a xs, v = .ref a ∧ (SqT X.K H1 a xs ∨ SqL X.K H1 a xs) ∧ DRs c.K c.G F1 xs zs := by
    obtain ⟨a, xs, rfl, dx, h⟩ := hw.ofSoT t.sr.good.sub ez
    rw [← hK]
    exact ⟨a, xs, rfl, h.elim (fun h => .inr (SqL.of h)) fun h => .inl h.2, dx⟩
  refine ⟨a, xs, rfl, hx, ?_⟩
  have t' : Tm c F1 H1 env1 σ P1 (zs.map R.d) xs fun _ => False := ⟨t.sr, RRs.ofD dx, fun _ _ z => z, Good.none t.sr.good.sub⟩
  have s' : Step F H P F1 H1 fun a => P1 a ∨ False := s.wide (fun _ h => h) fun a h => .inl (h.imp id fun z => z.elim)
  refine ⟨F1, P1, env1, t.sr, Aft.seq q t' (fun r hr => ?_) s' fun rs2 env3 vs2 F3 H3 P3 Pt3 _ t t2 s q => ?_⟩
  · obtain ⟨x, _, rfl⟩ := List.mem_map.mp hr
    trivial
  · exact q _ F3 H3 P3 _ t s

/-! ### answers become data, things -/
theorem SR.reF (S : SR c.K c.G F H env σ P) (s : Sub F F') (g : Good F' H P) : SR c.K c.G F' H env σ P := by
  obtain ⟨Ps, h1, h2, h3⟩ := S.rel
  exact ⟨S.len, g, Ps, h1, h2, fun i p w e => let ⟨v, ev, hw⟩ := h3 i p w e; ⟨v, ev, hw.stay s fun _ _ _ q => q⟩⟩
theorem RR.reF {r : R} {v : V} (h : RR c.K c.G F H σ r v P) (s : Sub F F') : RR c.K c.G F' H σ r v P := by
  cases h with
  | d h => exact .d (h.mono s)
  | own h => exact .own (h.stay s fun _ _ _ q => q)
  | pth h1 h2 => exact .pth h1 h2
theorem RRs.reF (s : Sub F F') : ∀ {rs : List R} {vs : List V} {P : Addr → Prop}, RRs c.K c.G F H σ rs vs P → RRs c.K c.G F' H σ rs vs P
  | _, _, _, .nil => .nil
  | _, _, _, .cons h1 h2 h3 h4 => .cons h1 h2 (h3.reF s) (RRs.reF s h4)
theorem dat_ok {r : R} {x : Exc} {env' : Env} : dat r env ≠ some (.ex x, env') := by
  intro h
  cases r with
  | d _ => cases h
  | own w =>
    have h : lft w.frz env = _ := h
    unfold lft at h
    cases e : w.frz <;> rw [e] at h <;> cases h
  | pth i sel => exact frzAt_ok h
theorem toW_ok {r : R} {x : Exc} {env' : Env} : toW r env ≠ some (.ex x, env') := by
  intro h
  cases r with
  | d _ => cases h
  | own w => cases h
  | pth i sel =>
    have h : bnd (frzAt i sel) (fun x => ret (W.d x)) env = _ := h
    unfold bnd at h
    split at h
    · cases h
    · cases h
    · rename_i e; exact frzAt_ok e
theorem dat_run {r : R} {v : V} {x : D} {env' : Env} (t : Tm c F H env σ P (r :: rs) (v :: vs) Pt) (e : dat r env = some (.ok x, env')) :
    ∃ F' P' Pt', DR c.K c.G F' v x ∧ Tm c F' H env' σ P' rs vs Pt' ∧ Step F H (fun a => P a ∨ Pt a) F' H (fun a => P' a ∨ Pt' a) := by
  obtain ⟨S, hr, dj, g⟩ := t
  cases hr with
  | @cons _ _ _ _ _ P1 P2 h1 h2 h3 h4 =>
    have djr : ∀ a, P a → ¬ P2 a := fun a h z => dj a h (h2 a z)
    cases r with
    | d y =>
      cases e
      exact ⟨F, P, P2, h3.ofD, ⟨S, h4, djr, g.less h2⟩, (Step.refl F H _).wide (fun _ h => h) fun a h => .inl (h.imp id (h2 a))⟩
    | own w =>
      cases h3 with
      | own hw =>
        obtain ⟨ew, rfl⟩ := ev_lft (show lft w.frz env = some (.ok x, env') from e)
        obtain ⟨st, gg⟩ := fz_step (Q := P1) (S.good.or g) fun a h => .inr (h1 a h).1
        have dx : DR c.K c.G (fz F H P1) v x := hw.toDR (fz_sub F H P1) (fz_at S.good.sub P1) ew
        have d1 : ∀ a, P a → ¬ P1 a := fun a h z => dj a h (h1 a z).1
        have d2 : ∀ a, P2 a → ¬ P1 a := fun a h z => (h1 a z).2 h
        refine ⟨_, P, P2, dx, ⟨S.reF (fz_sub F H P1) (gg.less fun a h => ⟨.inl h, d1 a h⟩), h4.reF (fz_sub F H P1), djr, gg.less fun a h => ⟨.inr (h2 a h), d2 a h⟩⟩, ?_⟩
        refine st.wide (fun _ h => h) fun a h => ?_
        rcases h with h | h
        · exact .inl ⟨.inl h, d1 a h⟩
        · exact .inl ⟨.inr (h2 a h), d2 a h⟩
    | pth i sel =>
      obtain ⟨F', P', v0, u, S', st, ev, hp, dr⟩ := S.frzAt (show frzAt i sel env = some (.ok x, env') from e)
      obtain ⟨g', dj', _⟩ := st.aside (g.less h2) djr S'.good
      cases h3 with
      | pth q1 q2 =>
        rw [ev] at q1
        cases q1
        rw [hp.fix q2] at dr
        refine ⟨F', P', P2, dr, ⟨S', h4.reF st.ext, dj', g'⟩, st.wide (fun _ h => .inl h) fun a h => ?_⟩
        rcases h with h | h
        · exact .inl h
        · exact .inr (.inl (.inr (h2 a h)))
theorem each_dat : ∀ {rs : List R} {vs : List V} {F : Hp} {P Pt : Addr → Prop} {env env' : Env} {xs : List D}, Tm c F H env σ P rs vs Pt → each dat rs env = some (.ok xs, env') →
    ∃ F' P', SR c.K c.G F' H env' σ P' ∧ DRs c.K c.G F' vs xs ∧ Step F H (fun a => P a ∨ Pt a) F' H P'
  | [], _, F, P, Pt, env, env', xs, t, e => by
    cases e
    obtain ⟨S, hr, _, _⟩ := t
    cases hr
    exact ⟨F, P, S, .nil, (Step.refl F H _).wide (fun _ h => h) fun _ h => .inl (.inl h)⟩
  | r :: rs, vs, F, P, Pt, env, env', xs, t, e => by
    rw [each] at e
    obtain ⟨x, env1, e1, e⟩ := bnd_ok e
    obtain ⟨ys, env2, e2, e⟩ := bnd_ok e
    cases e
    obtain ⟨v, vs', rfl⟩ : ∃ v vs', vs = v :: vs' := by
      cases t.rr with
      | cons => exact ⟨_, _, rfl⟩
    obtain ⟨F1, P1, Pt1, dx, t1, s1⟩ := dat_run t e1
    obtain ⟨F2, P2, S2, ds, s2⟩ := each_dat t1 e2
    exact ⟨F2, P2, S2, .cons (dx.mono s2.ext) ds, s1.trans s2⟩
theorem each_ok {α β : Type} {f : α → M β} (hf : ∀ a env x env', f a env ≠ some (.ex x, env')) : ∀ (as : List α) (env : Env) (x : Exc) (env' : Env), each f as env ≠ some (.ex x, env')
  | [], env, x, env', h => by cases h
  | a :: as, env, x, env', h => by
    rw [each] at h
    unfold bnd at h
    cases e : f a env with
    | none => rw [e] at h; cases h
    | some p =>
      obtain ⟨p, env1⟩ := p
      rw [e] at h
      cases p with
      | ex x => exact hf _ _ _ _ e
      | ok b =>
        simp only at h
        cases e2 : each f as env1 with
        | none => rw [e2] at h; cases h
        | some p =>
          obtain ⟨p, env2⟩ := p
          rw [e2] at h
          cases p with
          | ex x => exact each_ok hf _ _ _ _ e2
          | ok b => cases h
theorem AftG.each_dat {β : Type} {Kp : β → Env → Prop} {f : List D → M β} (h : AftG c Wx σ F H P (bnd (each dat rs) f env1) Kp) (t : Tm c F1 H1 env1 σ P1 rs vs Pt) (s : Step F H P F1 H1 fun a => P1 a ∨ Pt a) :
    ∃ xs env2 F2 P2, SR c.K c.G F2 H1 env2 σ P2 ∧ DRs c.K c.G F2 vs xs ∧ Step F H P F2 H1 P2 ∧ AftG c Wx σ F H P (f xs env2) Kp := by
  unfold bnd at h
  cases e : each dat rs env1 with
  | none => rw [e] at h; exact False.elim h
  | some p =>
    obtain ⟨p, env2⟩ := p
    rw [e] at h
    cases p with
    | ex x => exact (each_ok (fun _ _ _ _ => dat_ok) _ _ _ _ e).elim
    | ok xs =>
      obtain ⟨F2, P2, S2, ds, st⟩ := Ev.each_dat t e
      exact ⟨xs, env2, F2, P2, S2, ds, s.trans st, h⟩
theorem toW_run {r : R} {v : V} {w : W} {env' : Env} (t : Tm c F H env σ P (r :: rs) (v :: vs) Pt) (e : toW r env = some (.ok w, env')) :
    ∃ F' P' P1 Pt', WR c.K c.G F' H w v P1 ∧ Good F' H P1 ∧ (∀ a, P' a ∨ Pt' a → ¬ P1 a) ∧ Tm c F' H env' σ P' rs vs Pt' ∧ Step F H (fun a => P a ∨ Pt a) F' H (fun a => (P' a ∨ Pt' a) ∨ P1 a) := by
  obtain ⟨S, hr, dj, g⟩ := t
  cases hr with
  | @cons _ _ _ _ _ P1 P2 h1 h2 h3 h4 =>
    have djr : ∀ a, P a → ¬ P2 a := fun a h z => dj a h (h2 a z)
    cases r with
    | d y =>
      cases e
      refine ⟨F, P, fun _ => False, P2, .d h3.ofD, Good.none S.good.sub, fun _ _ z => z, ⟨S, h4, djr, g.less h2⟩, (Step.refl F H _).wide (fun _ h => h) fun a h => ?_⟩
      rcases h with (h | h) | h
      · exact .inl (.inl h)
      · exact .inl (.inr (h2 a h))
      · exact h.elim
    | own w0 =>
      cases h3 with
      | own hw =>
        cases e
        refine ⟨F, P, P1, P2, hw, g.less fun a h => (h1 a h).1, fun a h z => ?_, ⟨S, h4, djr, g.less h2⟩, (Step.refl F H _).wide (fun _ h => h) fun a h => ?_⟩
        · rcases h with h | h
          · exact dj a h (h1 a z).1
          · exact (h1 a z).2 h
        · rcases h with (h | h) | h
          · exact .inl (.inl h)
          · exact .inl (.inr (h2 a h))
          · exact .inl (.inr (h1 a h).1)
    | pth i sel =>
      obtain ⟨x, env2, e1, e2⟩ := bnd_ok (show bnd (frzAt i sel) (fun x => ret (W.d x)) env = some (.ok w, env') from e)
      cases e2
      obtain ⟨F', P', v0, u, S', st, ev, hp, dr⟩ := S.frzAt e1
      obtain ⟨g', dj', _⟩ := st.aside (g.less h2) djr S'.good
      cases h3 with
      | pth q1 q2 =>
        rw [ev] at q1
        cases q1
        rw [hp.fix q2] at dr
        refine ⟨F', P', fun _ => False, P2, .d dr, Good.none S'.good.sub, fun _ _ z => z, ⟨S', h4.reF st.ext, dj', g'⟩, st.wide (fun _ h => .inl h) fun a h => ?_⟩
        rcases h with (h | h) | h
        · exact .inl h
        · exact .inr (.inl (.inr (h2 a h)))
        · exact h.elim
theorem each_toW : ∀ {rs : List R} {vs : List V} {F : Hp} {P Pt : Addr → Prop} {env env' : Env} {ws : List W}, Tm c F H env σ P rs vs Pt → each toW rs env = some (.ok ws, env') →
    ∃ F' P' Pw, SR c.K c.G F' H env' σ P' ∧ WRs c.K c.G F' H ws vs Pw ∧ Good F' H Pw ∧ (∀ a, P' a → ¬ Pw a) ∧ Step F H (fun a => P a ∨ Pt a) F' H (fun a => P' a ∨ Pw a)
  | [], _, F, P, Pt, env, env', xs, t, e => by
    cases e
    obtain ⟨S, hr, _, _⟩ := t
    cases hr
    refine ⟨F, P, fun _ => False, S, .nil, Good.none S.good.sub, fun _ _ z => z, (Step.refl F H _).wide (fun _ h => h) fun _ h => .inl (.inl ?_)⟩
    exact h.elim id fun z => z.elim
  | r :: rs, vs, F, P, Pt, env, env', xs, t, e => by
    rw [each] at e
    obtain ⟨w, env1, e1, e⟩ := bnd_ok e
    obtain ⟨ws, env2, e2, e⟩ := bnd_ok e
    cases e
    obtain ⟨v, vs', rfl⟩ : ∃ v vs', vs = v :: vs' := by
      cases t.rr with
      | cons => exact ⟨_, _, rfl⟩
    obtain ⟨F1, P1, Pr, Pt1, hw, gw, dw, t1, s1⟩ := toW_run t e1
    obtain ⟨F2, P2, Pw, S2, hws, gws, dws, s2⟩ := each_toW t1 e2
    obtain ⟨g2, d2, k2⟩ := s2.aside gw dw (S2.good.or gws)
    refine ⟨F2, P2, fun a => Pr a ∨ Pw a, S2, .cons (P1 := Pr) (P2 := Pw) (fun b hb => ⟨.inl hb, fun z => d2 b (.inr z) hb⟩) (fun b hb => .inr hb) (hw.stay s2.ext k2) hws, g2.or gws, fun a h z => ?_, ?_⟩
    · exact z.elim (d2 a (.inl h)) (dws a h)
    · refine s1.trans (s2.wide (fun _ h => .inl h) fun a h => ?_)
      rcases h with h | h | h
      · exact .inl (.inl h)
      · exact .inr (.inl (.inr h))
      · exact .inl (.inr h)
theorem AftG.each_toW {β : Type} {Kp : β → Env → Prop} {f : List W → M β} (h : AftG c Wx σ F H P (bnd (each toW rs) f env1) Kp) (t : Tm c F1 H1 env1 σ P1 rs vs Pt) (s : Step F H P F1 H1 fun a => P1 a ∨ Pt a) :
    ∃ ws env2 F2 P2 Pw, SR c.K c.G F2 H1 env2 σ P2 ∧ WRs c.K c.G F2 H1 ws vs Pw ∧ Good F2 H1 Pw ∧ (∀ a, P2 a → ¬ Pw a) ∧ Step F H P F2 H1 (fun a => P2 a ∨ Pw a) ∧ AftG c Wx σ F H P (f ws env2) Kp := by
  unfold bnd at h
  cases e : each toW rs env1 with
  | none => rw [e] at h; exact False.elim h
  | some p =>
    obtain ⟨p, env2⟩ := p
    rw [e] at h
    cases p with
    | ex x => exact (each_ok (fun _ _ _ _ => toW_ok) _ _ _ _ e).elim
    | ok ws =>
      obtain ⟨F2, P2, Pw, S2, hw, gw, dw, st⟩ := Ev.each_toW t e
      exact ⟨ws, env2, F2, P2, Pw, S2, hw, gw, dw, s.trans st, h⟩
/-! ### displays -/
theorem AftG.guard {β : Type} {Kp : β → Env → Prop} {p : Prop} [Decidable p] {m : M β} (h : AftG c Wx σ F H P ((if p then m else fun _ => none) env1) Kp) : p ∧ AftG c Wx σ F H P (m env1) Kp := by
  by_cases hp : p
  · rw [if_pos hp] at h; exact ⟨hp, h⟩
  · rw [if_neg hp] at h; exact False.elim h
theorem e_tup {es : List Expr} {x1 : Nat} {pos : Pos} {es' : E} (h : PA X es (rdA c Wx T es')) : PE X (.Tuple es x1 pos) (rdE c Wx T (.tup es')) := by
  refine (pe_tup h).imp fun σ H Q ⟨F, P, env, S, q⟩ => ?_
  rw [ev] at q
  refine ⟨F, P, env, S, Aft.fst q S fun rs env1 vs F1 H1 P1 Pt _ t s q => ?_⟩
  obtain ⟨xs, env2, F2, P2, S2, ds, s, q⟩ := q.each_dat t s
  obtain ⟨hz, q⟩ := AftG.guard q
  refine ⟨by rw [ds.length]; exact big_line hz, fun p hp => ?_⟩
  obtain ⟨t', s'⟩ := (Tm.nil S2).fin (s.wide (fun _ h => h) fun a h => .inl (h.elim id fun z => z.elim)) (New.dat S2.good.sub hp (o := .tup vs)) (r := .d (.tuple xs)) (u := .ref p)
    (.d (.tup (.inl (.inl (by unfold upd; simp))) (ds.mono (sub_upd (off_of S2.good.sub hp)))))
  obtain ⟨v', ev, q⟩ := q [.ref p] _ _ _ _ t' s'
  cases ev
  exact q
theorem e_lst {es : List Expr} {pos : Pos} {es' : E} (h : PA X es (rdA c Wx T es')) : PE X (.List es pos) (rdE c Wx T (.lst es')) := by
  refine (pe_lst h).imp fun σ H Q ⟨F, P, env, S, q⟩ => ?_
  rw [ev] at q
  refine ⟨F, P, env, S, Aft.fst q S fun rs env1 vs F1 H1 P1 Pt _ t s q => ?_⟩
  obtain ⟨ws, env2, F2, P2, Pw, S2, hws, gw, dw, s, q⟩ := q.each_toW t s
  obtain ⟨hz, q⟩ := AftG.guard q
  refine ⟨by rw [← hws.length]; exact big_line hz, fun p hp => ?_⟩
  have n := New.own S2.good.sub hp (o := .lst vs)
  obtain ⟨S3, _, st⟩ := S2.new n
  have np : ∀ a, P2 a ∨ Pw a → a ≠ p := fun a h z => by
    subst z
    exact h.elim (fun h => S2.good.trk _ h hp) fun h => gw.trk _ h hp
  have ku : ∀ a o, Pw a → H1 a = some o → upd H1 p (.lst vs) a = some o := fun a o h e => by rw [upd_ne (np a (.inr h))]; exact e
  have hw : WR c.K c.G F2 (upd H1 p (.lst vs)) (.lst ws) (.ref p) (fun a => Pw a ∨ a = p) :=
    .lst (P' := Pw) (by unfold upd; simp) (.inr rfl) (fun b hb => ⟨.inl hb, np b (.inr hb)⟩) (hws.stay (Sub.refl F2) ku)
  have gw' : Good F2 (upd H1 p (.lst vs)) Pw := ⟨n.good.sub, gw.off, fun a h => by rw [upd_ne (np a (.inr h))]; exact gw.trk a h⟩
  obtain ⟨v', ev, q⟩ := q [.ref p] F2 (upd H1 p (.lst vs)) P2 (fun a => Pw a ∨ a = p) ⟨S3, .mk1 (.own hw), fun a h z => z.elim (dw a h) (np a (.inl h)), gw'.or n.good⟩
    (s.trans (st.wide (fun _ h => .inl h) fun a h => by
      rcases h with h | h | h
      · exact .inl (.inl h)
      · exact .inr (.inl (.inr h))
      · exact .inl (.inr h)))
  cases ev
  exact q
end
end Ev
end

section
set_option Elab.async false
set_option linter.all false
set_option autoImplicit true
set_option maxRecDepth 100000
set_option maxHeartbeats 4000000
/-! EvJ: subscripts, slices, builtins. -/
namespace Ev
open PySem PySem.Spec PyProof.Rows L2
section
variable {c : Cfg} {Wx : WX} {T : Tb} {X : Cx} {σ : L2.St} {F F1 H H1 F' H' : Hp} {P P1 Pt Pn Pi : Addr → Prop} {env env1 env' : Env} {rs : List R} {vs : List V} {i : Nat}
/-! ### a slot that is locked, put back -/
theorem SR.lock {p : Bool} {w : W} (S : SR c.K c.G F H env σ P) (e : env[i]? = some (.ok p w)) :
    ∃ v Pi, σ[i]? = some (some v) ∧ WR c.K c.G F H w v Pi ∧ (∀ a, Pi a → P a) ∧ SR c.K c.G F H (env.set i .lck) σ fun a => P a ∧ ¬ Pi a := by
  obtain ⟨Ps, h1, h2, h3⟩ := S.rel
  obtain ⟨v, ev, hw⟩ := h3 i p w e
  have hi : i < env.length := (List.getElem?_eq_some_iff.mp e).1
  refine ⟨v, Ps i, ev, hw, h1 i, by simpa using S.len, S.good.less fun a h => h.1, fun j a => Ps j a ∧ j ≠ i, fun j a h => ⟨h1 j a h.1, fun z => h.2 (h2 j i a h.1 z)⟩, fun j k a h h' => h2 j k a h.1 h'.1, fun j q z ez => ?_⟩
  by_cases hj : j = i
  · subst hj
    rw [List.getElem?_set_self hi] at ez
    cases ez
  · rw [List.getElem?_set_ne (Ne.symm hj)] at ez
    obtain ⟨vj, e1, hw⟩ := h3 j q z ez
    exact ⟨vj, e1, hw.big fun a h => ⟨h, hj⟩⟩
theorem SR.put {p : Bool} {w : W} {v : V} (S : SR c.K c.G F H env σ P) (ev : σ[i]? = some (some v)) (hw : WR c.K c.G F H w v Pi) (g : Good F H Pi) (dj : ∀ a, P a → ¬ Pi a) : SR c.K c.G F H (env.set i (.ok p w)) σ fun a => P a ∨ Pi a := by
  obtain ⟨Ps, h1, h2, h3⟩ := S.rel
  have hi : i < env.length := by rw [S.len]; exact (List.getElem?_eq_some_iff.mp ev).1
  refine ⟨by simpa using S.len, S.good.or g, fun j a => if j = i then Pi a else Ps j a, fun j a h => ?_, fun j k a h h' => ?_, fun j q z ez => ?_⟩
  · by_cases hj : j = i
    · simp only [hj, if_true] at h; exact .inr h
    · simp only [hj, if_false] at h; exact .inl (h1 j a h)
  · by_cases hj : j = i <;> by_cases hk : k = i
    · rw [hj, hk]
    · simp only [hj, if_true] at h; simp only [hk, if_false] at h'; exact (dj a (h1 k a h') h).elim
    · simp only [hj, if_false] at h; simp only [hk, if_true] at h'; exact (dj a (h1 j a h) h').elim
    · simp only [hj, if_false] at h; simp only [hk, if_false] at h'; exact h2 j k a h h'
  · by_cases hj : j = i
    · subst hj
      rw [List.getElem?_set_self hi] at ez
      cases ez
      exact ⟨v, ev, by simpa using hw⟩
    · rw [List.getElem?_set_ne (Ne.symm hj)] at ez
      obtain ⟨vj, e1, hw⟩ := h3 j q z ez
      exact ⟨vj, e1, by simpa only [hj, if_false] using hw⟩
theorem PathV.snoc {H : Hp} {a : Addr} {us : List V} {k : Nat} {z : V} : ∀ {sel : List Nat} {v : V}, PathV H v sel (.ref a) → H a = some (.lst us) → us[k]? = some z → PathV H v (sel ++ [k]) z
  | [], _, h, e1, e2 => by
    obtain rfl := (show _ = V.ref a from h)
    exact ⟨a, us, z, rfl, e1, e2, rfl⟩
  | j :: sel, _, h, e1, e2 => by
    obtain ⟨b, ws, v', rfl, q1, q2, q3⟩ := h
    exact ⟨b, ws, v', rfl, q1, q2, PathV.snoc q3 e1 e2⟩
theorem PathV.stay {H H' : Hp} : ∀ {sel : List Nat} {v u : V}, PathV H v sel u → Sub H H' → PathV H' v sel u
  | [], _, _, h, _ => h
  | j :: sel, _, _, h, s => by
    obtain ⟨b, ws, v', rfl, q1, q2, q3⟩ := h
    exact ⟨b, ws, v', rfl, s _ _ q1, q2, PathV.stay q3 s⟩
theorem idx_cases {r rr : R} {w iw : W} (e : idx r w iw = some rr) : (∃ d, rr = .d d ∧ ∀ r', idx r' w iw = some (.d d)) ∨
    ∃ ws i k w1 j sel, w = .lst ws ∧ iw = .d (.int i) ∧ ixN ws.length i = some k ∧ ws[k]? = some w1 ∧ r = .pth j sel ∧ rr = .pth j (sel ++ [k]) := by
  have opt : ∀ {α : Type} {o : Option α} {f : α → D}, o.map (fun a => R.d (f a)) = some rr → ∃ d, rr = .d d ∧ o.map (fun a => R.d (f a)) = some (.d d) := fun {α o f} h => by
    cases o with
    | none => cases h
    | some a => cases h; exact ⟨_, rfl, rfl⟩
  unfold idx at e
  split at e
  · obtain ⟨d, e1, e2⟩ := opt (f := fun a => a) e
    exact .inl ⟨d, e1, fun _ => e2⟩
  · obtain ⟨d, e1, e2⟩ := opt (f := fun a => a) e
    exact .inl ⟨d, e1, fun _ => e2⟩
  · obtain ⟨d, e1, e2⟩ := opt (f := fun a => a) e
    exact .inl ⟨d, e1, fun _ => e2⟩
  · rename_i s i
    have all : ∀ r', idx r' (.d (.str s)) (.d (.int i)) = if s.length ≤ big then (L2.atI s.cps.toList i).map fun c => .d (.str ⟨#[c]⟩) else none := fun _ => rfl
    split at e
    · rename_i hz
      obtain ⟨d, e1, e2⟩ := opt e
      exact .inl ⟨d, e1, fun r' => by rw [all, if_pos hz]; exact e2⟩
    · cases e
  · rename_i ws i
    have all : ∀ r', idx r' (.lst ws) (.d (.int i)) = match L2.ixN ws.length i with
      | none => none
      | some k => match ws[k]? with
        | none => none
        | some (.d x) => some (.d x)
        | some w => match r' with
          | .pth j sel => some (.pth j (sel ++ [k]))
          | _ => none := fun _ => rfl
    split at e
    · cases e
    · rename_i k ek
      split at e
      · cases e
      · rename_i x ew
        cases e
        exact .inl ⟨x, rfl, fun r' => by rw [all, ek]; simp only; rw [ew]⟩
      · rename_i w1 hn ew
        split at e
        · rename_i j sel
          cases e
          exact .inr ⟨ws, i, k, w1, j, sel, rfl, rfl, ek, ew, rfl, rfl⟩
        · cases e
  · rename_i lk kvs k
    have all : ∀ r', idx r' (.dct lk kvs) (.d k) = match keyD k with
      | some k => (getK kvs k).map .d
      | none => none := fun _ => rfl
    split at e
    · rename_i kk ek
      obtain ⟨d, e1, e2⟩ := opt (f := fun a => a) e
      exact .inl ⟨d, e1, fun r' => by rw [all, ek]; exact e2⟩
    · cases e
  · rename_i kvs k
    have all : ∀ r', idx r' (.dcn kvs) (.d k) = match tupK k with
      | some k => (getN kvs k).map .d
      | none => none := fun _ => rfl
    split at e
    · rename_i kk ek
      obtain ⟨d, e1, e2⟩ := opt (f := fun a => a) e
      exact .inl ⟨d, e1, fun r' => by rw [all, ek]; exact e2⟩
    · cases e
  · cases e
/-- the end of a subscript -/
theorem ix_end {r : R} {v u : V} {w iw : W} {Q : VK} {rr : R} {P0 P0' : Addr → Prop} (t : Tm c F1 H1 env1 σ P1 rs vs Pt) (s : Step F H P F1 H1 fun a => P1 a ∨ Pt a) (hr : RR c.K c.G F1 H1 σ r v Pt) (hw : WR c.K c.G F1 H1 w v P0) (hi : WR c.K c.G F1 H1 iw u P0') (e : idx r w iw = some rr)
    (q : ∀ vs F' H' P' Pt, Tm c F' H' env1 σ P' [rr] vs Pt → Step F H P F' H' (fun a => P' a ∨ Pt a) → ∃ v, vs = [v] ∧ Q v H') : rIx c v u H1 Q := by
  refine ⟨F1, w, iw, P0, P0', t.sr.good.sub, hw, hi, ?_⟩
  rcases idx_cases e with ⟨d, rfl, ed⟩ | ⟨ws, i, k, w1, j, sel, rfl, rfl, ek, ew, rfl, rfl⟩
  · refine .inl ⟨d, ed _, fun z dz => ?_⟩
    obtain ⟨t', s'⟩ := t.finD s dz
    obtain ⟨v', ev, q⟩ := q _ _ _ _ _ t' s'
    cases ev
    exact q
  · cases hw with
    | @lst _ a us _ P' h3 h4 h5 h6 =>
      obtain ⟨z, Pz, ez, hz, _⟩ := h6.nth ew
      refine .inr ⟨ws, i, k, w1, a, us, z, rfl, rfl, ek, ew, rfl, h3, ez, ?_⟩
      cases hr with
      | pth q1 q2 =>
        obtain ⟨t', s'⟩ := t.fin s (New.refl t.sr.good.sub) (.pth q1 (q2.snoc h3 ez))
        obtain ⟨v', ev, q⟩ := q _ _ _ _ _ t' s'
        cases ev
        exact q
theorem AftG.assoc {α β γ : Type} {Kp : γ → Env → Prop} {m : M α} {f : α → M β} {g : β → M γ} (h : AftG c Wx σ F H P (bnd (bnd m f) g env) Kp) : AftG c Wx σ F H P (bnd m (fun a => bnd (f a) g) env) Kp := by rw [bnd_assoc] at h; exact h
theorem AftG.locked {α β : Type} {Kp : β → Env → Prop} {j k : Nat} {sel : List Nat} {m : M α} {f : α → M β} (h : AftG c Wx σ F H P (bnd (Ev.locked j (k :: sel) m) f env1) Kp) :
    ∃ s a e, env1[j]? = some s ∧ m (env1.set j .lck) = some (.ok a, e) ∧ e[j]? = some .lck ∧ AftG c Wx σ F H P (f a (e.set j s)) Kp := by
  have e0 : ∀ r, Ev.locked j (k :: sel) m env1 = r → (match env1[j]? with
    | some s => match m (env1.set j .lck) with
      | some (.ok a, e) => match e[j]? with
        | some .lck => some (.ok a, e.set j s)
        | _ => none
      | _ => none
    | none => none) = r := fun r h => h
  unfold bnd at h
  cases el : Ev.locked j (k :: sel) m env1 with
  | none => rw [el] at h; exact False.elim h
  | some p =>
    rw [el] at h
    have e1 := e0 _ el
    split at e1
    · rename_i s es
      split at e1
      · rename_i a e em
        split at e1
        · rename_i el2
          cases e1
          exact ⟨s, a, e, es, em, el2, h⟩
        · cases e1
      · cases e1
    · cases e1
/-- evaluated while a slot is locked -/
theorem locked_run {β : Type} {Kp : β → Env → Prop} {j k : Nat} {sel : List Nat} {m : M (List R)} {g : List R → M W} {f : W → M β} {r : R} {v : V} (h : AftG c Wx σ F H P (bnd (locked j (k :: sel) (bnd m g)) f env1) Kp) (t : Tm c F1 H1 env1 σ P1 [.pth j (k :: sel)] [v] Pt) (s : Step F H P F1 H1 fun a => P1 a ∨ Pt a) {w0 : W} (e0 : look env1 j (k :: sel) = some w0)
    {Q' : List V → Hp → Prop}
    (hq : ∀ rs2 env2 vs2 F2 H2 P2 Pt2 w env3 env4 P4, m (env1.set j .lck) = some (.ok rs2, env2) → Tm c F2 H2 env2 σ P2 rs2 vs2 Pt2 → g rs2 env2 = some (.ok w, env3) → (env3 = env2 → Tm c F2 H2 env4 σ P4 ([.pth j (k :: sel)] ++ rs2) ([v] ++ vs2) Pt2) → Step F H P F2 H2 (fun a => P4 a ∨ Pt2 a) →
      (env3 = env2 → see env4 (.pth j (k :: sel)) = some w0) → AftG c Wx σ F H P (f w env4) Kp → Q' vs2 H2) :
    ∃ P', SR c.K c.G F1 H1 (env1.set j .lck) σ P' ∧ Aft c Wx σ F1 H1 P' (m (env1.set j .lck)) Q' := by
  unfold look at e0
  split at e0
  · rename_i p w ei
    obtain ⟨v0, Pj, ev, hw, hs, S'⟩ := t.sr.lock ei
    refine ⟨_, S', ?_⟩
    obtain ⟨sl, ww, env3, ej, em, el, h⟩ := AftG.locked h
    rw [ei] at ej
    cases ej
    obtain ⟨rs2, env2, em, eg⟩ := bnd_ok em
    rw [em]
    intro vs2 F2 H2 P2 Pt2 t2 s2
    have gj : Good F1 H1 Pj := t.sr.good.less hs
    obtain ⟨g2, d2, k2⟩ := s2.aside gj (fun a h => h.2) (t2.sr.good.or t2.gt)
    have hw2 : WR c.K c.G F2 H2 w v0 Pj := hw.stay s2.ext k2
    have hj : j < env1.length := (List.getElem?_eq_some_iff.mp ei).1
    refine hq rs2 env2 vs2 F2 H2 P2 Pt2 ww env3 (env3.set j (.ok p w)) (fun a => P2 a ∨ Pj a) em t2 eg (fun e3 => ?_) ?_ (fun e3 => ?_) h
    · subst e3
      have S4 := t2.sr.put (p := p) ev hw2 g2 fun a h => d2 a (.inl h)
      refine ⟨S4, ?_, fun a h z => h.elim (fun h => t2.dj a h z) (d2 a (.inr z)), t2.gt⟩
      have e0' : w.at (k :: sel) = some w0 := e0
      obtain ⟨u1, P1', hp, hw1, hs1, _⟩ := hw.hole e0'
      obtain ⟨u2, P2', hp2, hw2', hs2, _⟩ := hw2.hole e0'
      obtain ⟨v', ev', hr⟩ := t.rr.one
      cases ev'
      cases hr with
      | pth q1 q2 =>
        rw [ev] at q1
        cases q1
        have : v = u2 := by
          have h1 : PathV H2 v0 (k :: sel) v := by
            have keep : ∀ (sel : List Nat) (w : W) (v0 u : V) (Pj : Addr → Prop) (w0 : W), WR c.K c.G F1 H1 w v0 Pj → (∀ a o, Pj a → H1 a = some o → H2 a = some o) → w.at sel = some w0 → PathV H1 v0 sel u → PathV H2 v0 sel u := by
              intro sel
              induction sel with
              | nil => intro _ _ _ _ _ _ _ _ h; exact h
              | cons k sel ih =>
                intro w v0 u Pj w0 hw kp ea hp
                obtain ⟨a, us, v', rfl, q1, q2, q3⟩ := hp
                cases w with
                | lst ws =>
                  cases hw with
                  | @lst _ _ vs' _ P' z1 z2 z3 z4 =>
                    rw [q1] at z1
                    cases z1
                    rw [W.at] at ea
                    cases ek : ws[k]? with
                    | none => rw [ek] at ea; cases ea
                    | some wk =>
                      rw [ek] at ea
                      obtain ⟨y, Py, ey, hy, hsy⟩ := z4.nth ek
                      rw [q2] at ey
                      cases ey
                      exact ⟨a, us, v', rfl, kp _ _ z2 q1, q2, ih wk v' u Py w0 hy (fun b o hb eb => kp b o (z3 b (hsy b hb)).1 eb) ea q3⟩
                | d _ => simp [W.at] at ea
                | dct _ _ => simp [W.at] at ea
                | dcn _ => simp [W.at] at ea
                | scr _ => simp [W.at] at ea
            exact keep (k :: sel) w v0 v Pj w0 hw k2 e0' q2
          exact h1.fix hp2
        subst this
        exact .cons (P1 := fun _ => False) (P2 := Pt2) (fun _ z => z.elim) (fun _ z => z) (.pth ev hp2) t2.rr
    · refine s.trans (s2.wide (fun a h => .inl h.1) fun a h => ?_)
      rcases h with (h | h) | h
      · exact .inl (.inl h)
      · exact .inr (.inl (.inl (hs a h)))
      · exact .inl (.inr h)
    · subst e3
      show look _ j (k :: sel) = _
      unfold look
      rw [List.getElem?_set_self (by
        have := (List.getElem?_eq_some_iff.mp el).1
        exact this)]
      exact e0
  · cases e0
theorem seeM_ok {r : R} {w : W} (h : seeM r env = some (.ok w, env')) : see env r = some w ∧ env' = env := by
  unfold seeM at h
  cases e : see env r with
  | none => rw [e] at h; cases h
  | some x => rw [e] at h; cases h; exact ⟨rfl, rfl⟩
theorem sole_ok {α : Type} {xs : List α} {a : α} (h : sole xs env = some (.ok a, env')) : xs = [a] ∧ env' = env := by
  cases xs with
  | nil => cases h
  | cons x xs =>
    cases xs with
    | nil => cases h; exact ⟨rfl, rfl⟩
    | cons _ _ => cases h
theorem e_idx {a b : Expr} {a' b' : E} {pos : Pos} (hK : c.K = X.K) (hG : c.On X) (hu : X.A.units + 65 < cLine) (hs : PlainIx b) (ha : PE X a (rdE c Wx T a')) (hb : PE X b (rdE c Wx T b')) : PE X (.Subscript a b pos) (rdE c Wx T (.idx a' b')) := by
  refine (pe_ix (ix_W hK hG hu) ha hb hs).imp fun σ H Q ⟨F, P, env, S, q⟩ => ?_
  rw [ev] at q
  refine ⟨F, P, env, S, Aft.fst q S fun rs env1 vs F1 H1 P1 Pt _ t s q => ?_⟩
  obtain ⟨r, rfl, q⟩ := q.sole
  obtain ⟨v, rfl, hr⟩ := t.rr.one
  refine ⟨v, rfl, ?_⟩
  have plain : r.held → AftG c Wx σ F H P (bnd (bnd (ev T b') fun ys => bnd (sole ys) fun y => seeM y) (fun iw => bnd (seeM r) fun w => lft ((idx r w iw).map fun r => [r])) env1)
      (fun rs env' => ∀ vs F' H' P' Pt, Tm c F' H' env' σ P' rs vs Pt → Step F H P F' H' (fun a => P' a ∨ Pt a) → ∃ v, vs = [v] ∧ Q v H') → rdE c Wx T b' σ H1 fun u H2 => rIx c v u H2 Q := fun hd q => by
    refine ⟨F1, P1, env1, t.sr, Aft.seq q.assoc t (by simpa using hd) s fun rs2 env3 vs2 F3 H3 P3 Pt3 _ t t2 s q => ?_⟩
    obtain ⟨r2, rfl, q⟩ := q.assoc.sole
    obtain ⟨u, rfl, hr2⟩ := t2.rr.one
    refine ⟨u, rfl, ?_⟩
    obtain ⟨iw, e1, q⟩ := q.see
    obtain ⟨w, e2, q⟩ := q.see
    obtain ⟨rr, e3, q⟩ := q.end_
    cases e4 : idx r w iw with
    | none => rw [e4] at e3; cases e3
    | some z =>
      rw [e4] at e3
      cases e3
      obtain ⟨v1, v2, ev, q1, q2⟩ := t.rr.two
      cases ev
      obtain ⟨P4, h1, _⟩ := q1.see t.sr e2
      obtain ⟨P5, h2, _⟩ := q2.see t.sr e1
      exact ix_end t s q1 h1 h2 e4 q
  cases r with
  | d x => exact plain trivial q
  | own x => exact plain trivial q
  | pth j sel =>
    cases sel with
    | nil => exact plain trivial q
    | cons k sel =>
      have q : AftG c Wx σ F H P (bnd (locked j (k :: sel) (bnd (ev T b') fun ys => bnd (sole ys) fun y => seeM y)) (fun iw => bnd (seeM (.pth j (k :: sel))) fun w => lft ((idx (.pth j (k :: sel)) w iw).map fun r => [r])) env1)
        (fun rs env' => ∀ vs F' H' P' Pt, Tm c F' H' env' σ P' rs vs Pt → Step F H P F' H' (fun a => P' a ∨ Pt a) → ∃ v, vs = [v] ∧ Q v H') := q
      -- the place is there: it is looked at behind
      have e0 : ∃ w0, look env1 j (k :: sel) = some w0 := by
        obtain ⟨sl, a, e, ej, em, el, q⟩ := AftG.locked q
        obtain ⟨w0, e1, _⟩ := AftG.see q
        have hlen := (List.getElem?_eq_some_iff.mp el).1
        have e1 : look (e.set j sl) j (k :: sel) = some w0 := e1
        refine ⟨w0, ?_⟩
        unfold look at e1 ⊢
        rw [List.getElem?_set_self hlen] at e1
        rw [ej]
        exact e1
      obtain ⟨w0, e0⟩ := e0
      obtain ⟨P', S', q⟩ := locked_run (r := .pth j (k :: sel)) (Q' := fun vs H' => ∃ u, vs = [u] ∧ rIx c v u H' Q) q t s e0 fun rs2 env2 vs2 F2 H2 P2 Pt2 w env3 env4 P4 _ t2 eg t4 s4 e4 q => by
        obtain ⟨y, e5, e6, e7⟩ := bnd_ok eg
        obtain ⟨rfl, rfl⟩ := sole_ok e6
        obtain ⟨es, rfl⟩ := seeM_ok e7
        obtain ⟨u, rfl, hr2⟩ := t2.rr.one
        refine ⟨u, rfl, ?_⟩
        have t4 := t4 rfl
        have e4 := e4 rfl
        obtain ⟨w1, e8, q⟩ := q.see
        rw [e4] at e8
        cases e8
        obtain ⟨rr, e3, q⟩ := q.end_
        cases e9 : idx (.pth j (k :: sel)) w0 w with
        | none => rw [e9] at e3; cases e3
        | some z =>
          rw [e9] at e3
          cases e3
          obtain ⟨v1, v2, ev, q1, q2⟩ := t4.rr.two
          cases ev
          obtain ⟨P5, h1, _⟩ := q1.see t4.sr e4
          obtain ⟨P6, h2, _⟩ := hr2.see t2.sr es
          exact ix_end t4 s4 q1 h1 h2 e9 q
      exact ⟨F1, P', _, S', q⟩
end
end Ev
end

section
set_option Elab.async false
set_option linter.all false
set_option autoImplicit true
set_option maxRecDepth 100000
set_option maxHeartbeats 4000000
/-! EvK: slices, builtins. -/
namespace Ev
open PySem PySem.Spec PyProof.Rows L2
section
variable {c : Cfg} {Wx : WX} {T : Tb} {X : Cx} {σ : L2.St} {F F1 H H1 F' H' : Hp} {P P1 Pt Pn Pi : Addr → Prop} {env env1 env' : Env} {rs : List R} {vs : List V} {i : Nat}
/-! ### slices -/
def partM (T : Tb) (lo : E) : M (Option Int) := if lo.isNil = true then ret none else bnd (ev T lo) fun ls => bnd (sole ls) fun l => bnd (seeM l) fun w => lft (intW w)
theorem ev_slc {a lo hi : E} : ev T (.slc a lo hi) = bnd (ev T a) fun xs => bnd (sole xs) fun x => bnd (settle x) fun x => bnd (partM T lo) fun l => bnd (partM T hi) fun h => bnd (seeM x) fun w => lft ((slc w l h).map fun r => [toR r]) := by
  rw [ev]
  rfl
theorem isNil_iff {e : E} : e.isNil = true ↔ e = .nil := by cases e <;> simp [E.isNil]
/-- a slice's part behind what is held -/
def rdO (c : Cfg) (Wx : WX) (T : Tb) : E → TO
  | .nil => tNoPart
  | e => tPart (rdE c Wx T e)
theorem o_none : PO X none (rdO c Wx T .nil) := po_none
theorem o_some {e : Expr} {e' : E} (hn : e' ≠ .nil) (h : PE X e (rdE c Wx T e')) : PO X (some e) (rdO c Wx T e') := by
  cases e' <;> first | exact (hn rfl).elim | exact po_some h
theorem rdO_run {β : Type} {Kp : β → Env → Prop} {lo : E} {f : Option Int → M β} {Q : Option Int → Hp → Prop} (h : AftG c Wx σ F H P (bnd (partM T lo) f env1) Kp) (t : Tm c F1 H1 env1 σ P1 rs vs Pt) (hr : ∀ r ∈ rs, r.held) (s : Step F H P F1 H1 fun a => P1 a ∨ Pt a)
    (k : ∀ o env2 F2 H2 P2 Pt2, Tm c F2 H2 env2 σ P2 rs vs Pt2 → Step F H P F2 H2 (fun a => P2 a ∨ Pt2 a) → AftG c Wx σ F H P (f o env2) Kp → Q o H2) : rdO c Wx T lo σ H1 Q := by
  by_cases hn : lo = .nil
  · subst hn
    exact k none env1 F1 H1 P1 Pt t s h
  · have e1 : partM T lo = bnd (ev T lo) fun ls => bnd (sole ls) fun l => bnd (seeM l) fun w => lft (intW w) := by
      unfold partM
      rw [if_neg fun z => hn (isNil_iff.mp z)]
    have e2 : rdO c Wx T lo = tPart (rdE c Wx T lo) := by cases lo <;> first | exact (hn rfl).elim | rfl
    rw [e1] at h
    rw [e2]
    refine ⟨F1, P1, env1, t.sr, Aft.seq h.assoc t hr s fun rs2 env2 vs2 F2 H2 P2 Pt2 _ t' t2 s2 q0 => ?_⟩
    obtain ⟨r2, rfl, q1⟩ := q0.assoc.sole
    obtain ⟨u, rfl, hr2⟩ := t2.rr.one
    refine ⟨u, rfl, ?_⟩
    obtain ⟨w, e3, q⟩ := q1.assoc.see
    obtain ⟨o, e4, q⟩ := q.lft
    obtain ⟨P0, hw, _⟩ := hr2.see t2.sr e3
    unfold intW at e4
    split at e4
    · rename_i i
      cases e4
      obtain rfl := hw.ofInt
      refine ⟨i, rfl, k (some i) env2 F2 H2 P2 (fun a => Pt a ∨ Pt2 a) ⟨t'.sr, ?_, t'.dj, t'.gt⟩ s2 q⟩
      have cut : ∀ {rs : List R} {vs : List V} {P : Addr → Prop} {r2 : R} {v2 : V}, RRs c.K c.G F2 H2 σ (rs ++ [r2]) (vs ++ [v2]) P → rs.length = vs.length → RRs c.K c.G F2 H2 σ rs vs P := by
        intro rs
        induction rs with
        | nil => intro vs P r2 v2 h e; cases vs with
          | nil => exact .nil
          | cons _ _ => cases e
        | cons r rs ih =>
          intro vs P r2 v2 h e
          cases vs with
          | nil => cases e
          | cons v vs =>
            cases h with
            | cons h1 h2 h3 h4 => exact .cons h1 h2 h3 (ih h4 (by simpa using e))
      exact cut t'.rr t.rr.length
    · cases e4
theorem e_slc {a : Expr} {lo hi : Option Expr} {a' lo' hi' : E} {p2 pos : Pos} (hK : c.K = X.K) (ha : PE X a (rdE c Wx T a')) (hl : PO X lo (rdO c Wx T lo')) (hh : PO X hi (rdO c Wx T hi')) : PE X (.Subscript a (.Slice lo hi none p2) pos) (rdE c Wx T (.slc a' lo' hi')) := by
  refine (pe_slice (sl_W (c := c) hK) ha hl hh).imp fun σ H Q ⟨F, P, env, S, q⟩ => ?_
  rw [ev_slc] at q
  refine ⟨F, P, env, S, Aft.fst q S fun rs env1 vs F1 H1 P1 Pt _ t s q => ?_⟩
  obtain ⟨r, rfl, q⟩ := q.sole
  obtain ⟨v, rfl, hr⟩ := t.rr.one
  refine ⟨v, rfl, ?_⟩
  obtain ⟨r', env2, F2, P2, hd, t, s, q⟩ := q.settle t s
  refine rdO_run q t (by simpa using hd) s fun o env3 F3 H3 P3 Pt3 t s q => ?_
  refine rdO_run q t (by simpa using hd) s fun o2 env4 F4 H4 P4 Pt4 t s q => ?_
  obtain ⟨w, e1, q⟩ := q.see
  obtain ⟨rr, e3, q⟩ := q.end_
  cases e4 : slc w o o2 with
  | none => rw [e4] at e3; cases e3
  | some z =>
    rw [e4] at e3
    cases e3
    obtain ⟨P0, hw⟩ := t.look1 e1
    refine ⟨F4, w, P0, z, t.sr.good.sub, hw, e4, fun u F' H' Pn n hz => ?_⟩
    obtain ⟨t', s'⟩ := t.finW s n hz
    obtain ⟨v', ev, q⟩ := q [u] F' H' _ _ t' s'
    cases ev
    exact q

/-! ### builtins -/
theorem each_see : ∀ {rs : List R} {vs : List V} {ws : List W} {Pt : Addr → Prop}, SR c.K c.G F H env σ P → RRs c.K c.G F H σ rs vs Pt → each seeM rs env = some (.ok ws, env') → env' = env ∧ Paired (fun w v => ∃ P0, WR c.K c.G F H w v P0) ws vs
  | [], _, ws, Pt, S, h, e => by
    cases e
    cases h
    exact ⟨rfl, .nil⟩
  | r :: rs, _, ws, Pt, S, h, e => by
    rw [each] at e
    obtain ⟨w, env1, e1, e⟩ := bnd_ok e
    obtain ⟨ws', env2, e2, e⟩ := bnd_ok e
    cases e
    obtain ⟨es, e5⟩ := seeM_ok e1
    rw [e5] at e2
    cases h with
    | cons h1 h2 h3 h4 =>
      obtain ⟨e6, hp⟩ := each_see S h4 e2
      obtain ⟨P0, hw, _⟩ := h3.see S es
      exact ⟨e6, .cons ⟨P0, hw⟩ hp⟩
theorem see_ok {r : R} {x : Exc} {env' : Env} : seeM r env ≠ some (.ex x, env') := by
  intro h
  unfold seeM at h
  cases e : see env r <;> rw [e] at h <;> cases h
theorem AftG.each_see {β : Type} {Kp : β → Env → Prop} {f : List W → M β} (h : AftG c Wx σ F H P (bnd (each seeM rs) f env1) Kp) (t : Tm c F1 H1 env1 σ P1 rs vs Pt) :
    ∃ ws, Paired (fun w v => ∃ P0, WR c.K c.G F1 H1 w v P0) ws vs ∧ AftG c Wx σ F H P (f ws env1) Kp := by
  unfold bnd at h
  cases e : each seeM rs env1 with
  | none => rw [e] at h; exact False.elim h
  | some p =>
    obtain ⟨p, env2⟩ := p
    rw [e] at h
    cases p with
    | ex x => exact (each_ok (fun _ _ _ _ => see_ok) _ _ _ _ e).elim
    | ok ws =>
      obtain ⟨rfl, hp⟩ := Ev.each_see t.sr t.rr e
      exact ⟨ws, hp, h⟩
theorem biW_args {b : BI} {ws : List W} {r : W} (e : biW b ws = some r) : (∃ w, ws = [w]) ∨ ∃ x y, ws = [.d x, .d y] := by
  unfold biW at e
  split at e
  all_goals first
    | exact .inl ⟨_, rfl⟩
    | exact .inr ⟨_, _, rfl⟩
    | cases e
theorem wrs_bi {b : BI} {ws : List W} {r : W} (e : biW b ws = some r) (h : Paired (fun w v => ∃ P0, WR c.K c.G F H w v P0) ws vs) : ∃ P0, WRs c.K c.G F H ws vs P0 := by
  rcases biW_args e with ⟨w, rfl⟩ | ⟨x, y, rfl⟩
  · cases h with
    | cons h1 h2 =>
      cases h2
      obtain ⟨P0, h1⟩ := h1
      exact ⟨P0, .cons (P1 := P0) (P2 := fun _ => False) (fun b hb => ⟨hb, id⟩) (fun _ z => z.elim) h1 .nil⟩
  · cases h with
    | cons h1 h2 =>
      cases h2 with
      | cons h2 h3 =>
        cases h3
        obtain ⟨_, h1⟩ := h1
        obtain ⟨_, h2⟩ := h2
        cases h1 with
        | d h1 =>
          cases h2 with
          | d h2 => exact ⟨fun _ => False, WRs.ofD (ds := [x, y]) (.cons h1 (.cons h2 .nil))⟩
theorem rd_bi {b : BI} {es : E} {Q : VK} (q : rdE c Wx T (.bi b es) σ H Q) : tCB (rB c b) (rdA c Wx T es) σ H Q := by
  obtain ⟨F, P, env, S, q⟩ := q
  rw [ev] at q
  refine ⟨F, P, env, S, Aft.fst q S fun rs env1 vs F1 H1 P1 Pt _ t s q => ?_⟩
  obtain ⟨ws, hp, q⟩ := AftG.each_see q t
  obtain ⟨rr, e3, q⟩ := q.end_
  cases e4 : biW b ws with
  | none => rw [e4] at e3; cases e3
  | some z =>
    rw [e4] at e3
    cases e3
    obtain ⟨P0, hws⟩ := wrs_bi e4 hp
    refine ⟨F1, ws, P0, z, t.sr.good.sub, hws, e4, fun u F' H' Pn n hz => ?_⟩
    obtain ⟨t', s'⟩ := t.finW s n hz
    obtain ⟨v', ev, q⟩ := q [u] F' H' _ _ t' s'
    cases ev
    exact q
theorem e_bi {b : BI} {x : Str} {e : Expr} {es : List Expr} {es' : E} {p pos : Pos} (hK : c.K = X.K) (hG : c.On X) (hc : X.calm = true) (hu : X.A.units + 65 < cLine) (hg : Gl X x) (hm : X.mg x = none) (hv : bootBuiltins x = some (biF b)) (hn : x ≠ "__name__") (hdb : (x == ("__debug__" : Str)) = false)
    (ha : PA X (e :: es) (rdA c Wx T es')) (he : starEach (e :: es) X.env = (false, eval e X.env) :: starEach es X.env) (hpl : (backTo pos (starEach es X.env)).any (·.1) = false) : PE X (.Call (.Name x p) (e :: es) [] pos) (rdE c Wx T (.bi b es')) := by
  have H := bi_ok (c := c) hK hG hc hu b
  cases b <;> first
    | exact (pe_callB H hg hm hv ha hn hdb he hpl).imp fun _ _ _ => rd_bi
    | exact (pe_callTy H hg hm hv ha hn hdb he hpl).imp fun _ _ _ => rd_bi
/-! ### isinstance -/
def tyNames : List String := ["NoneType", "bool", "int", "str", "tuple", "list", "dict"]
theorem kit_all : ∀ a ∈ tyNames, ∀ b ∈ tyNames, kitB a b = some (isTy a b) := by decide +kernel
theorem tyOf_mem {w : W} (h : tyOf w ≠ "?") : tyOf w ∈ tyNames := by
  unfold tyOf at h ⊢
  split <;> first | decide | exact (h rfl).elim
theorem ty_of (s : Sub F H) {w : W} {v : V} (hw : WR c.K c.G F H w v P) (h : tyOf w ≠ "?") : TyX c.K H v (.type (tyOf w)) := by
  cases hw with
  | d hd =>
    cases hd with
    | non => exact .base .non
    | bl b => exact .base (.bl b)
    | int i => exact .base (.int i)
    | str x => exact .base (.str x)
    | lst h1 _ => exact .base (.lst (s _ _ h1))
    | tup h1 _ =>
      rcases h1 with h1 | ⟨o, its, n, e1, e2, _⟩
      · rcases h1 with h1 | ⟨o, h1⟩
        · exact .base (.tup (s _ _ h1))
        · exact .fTuple (s _ _ h1)
      · exact .kTuple e1 e2
    | fn _ => exact (h rfl).elim
  | lst h1 _ _ _ => exact .base (.lst h1)
  | dct h1 _ _ => exact .base (.dK h1)
  | scr _ _ => exact (h rfl).elim
  | dlk h1 _ _ => exact .fDict h1
  | dcn _ _ _ => exact (h rfl).elim
theorem e_isi {a : Expr} {a' : E} {n : String} {xn : Str} {p p2 pos : Pos} (hK : c.K = X.K) (hg : Gl X "isinstance") (hm : X.mg "isinstance" = none) (hgt : Gl X xn) (hmt : X.mg xn = none) (hvt : bootBuiltins xn = some (.type n)) (hnt : n ∈ tyNames) (hn1 : xn ≠ "__name__") (hn2 : (xn == ("__debug__" : Str)) = false)
    (ha : PE X a (rdE c Wx T a')) (hs1 : starEach [a, .Name xn p2] X.env = (false, eval a X.env) :: starEach [.Name xn p2] X.env) (hs2 : starEach [.Name xn p2] X.env = (false, eval (.Name xn p2) X.env) :: starEach [] X.env)
    (hpl : (backTo pos (starEach [.Name xn p2] X.env)).any (·.1) = false) : PE X (.Call (.Name "isinstance" p) [a, .Name xn p2] [] pos) (rdE c Wx T (.isi a' [n])) := by
  have hargs : PA X [a, .Name xn p2] (tCons (rdE c Wx T a') (tCons (tC (.ty n)) tNil)) := pa_cons ha (pa_cons (pe_bltn hgt hmt hvt (show RelV (.ty n) (.type n) from rfl) hn1 hn2) pa_nil hs2) hs1
  refine (pe_callB call_isi hg hm (by rfl) hargs (he := hs1) (hpl := hpl)).imp fun σ H Q ⟨F, P, env, S, q⟩ => ?_
  rw [ev] at q
  refine ⟨F, P, env, S, Aft.fst q S fun rs env1 vs F1 H1 P1 Pt _ t s q => ?_⟩
  obtain ⟨r, rfl, q⟩ := q.sole
  obtain ⟨v, rfl, hr⟩ := t.rr.one
  refine ⟨v, rfl, ?_⟩
  obtain ⟨w, e1, q⟩ := q.see
  have h0 : tyOf w ≠ "?" := fun z => by rw [if_pos z] at q; exact q
  rw [if_neg h0] at q
  obtain ⟨P0, hw, _⟩ := hr.see t.sr e1
  refine ⟨v, .ty n, .type (tyOf w), .type n, isTy (tyOf w) n, rfl, .ty n, ?_, kit_ty (kit_all _ (tyOf_mem h0) _ hnt), ?_⟩
  · rw [← hK]; exact ty_of t.sr.good.sub hw h0
  · obtain ⟨t', s'⟩ := t.finD s (DR.bl (isTy (tyOf w) n))
    have e : ([n] : List String).any (isTy (tyOf w)) = isTy (tyOf w) n := by simp
    rw [e] at q
    obtain ⟨v', ev, q⟩ := q [.bl _] F1 H1 _ _ t' s'
    cases ev
    exact q
/-! ### sum(lists, []), list(range(..)) -/
theorem e_sumL {a : Expr} {a' : E} {p pl pos : Pos} (hK : c.K = X.K) (hc : X.calm = true) (hg : Gl X "sum") (hm : X.mg "sum" = none) (ha : PE X a (rdE c Wx T a'))
    (hs1 : starEach [a, .List [] pl] X.env = (false, eval a X.env) :: starEach [.List [] pl] X.env) (hs2 : starEach [.List [] pl] X.env = (false, eval (.List [] pl) X.env) :: starEach [] X.env) (hpl : (backTo pos (starEach [.List [] pl] X.env)).any (·.1) = false) :
    PE X (.Call (.Name "sum" p) [a, .List [] pl] [] pos) (rdE c Wx T (.sumL a')) := by
  have hargs : PA X [a, .List [] pl] (tCons (rdE c Wx T a') (tCons (tLst tNil) tNil)) := pa_cons ha (pa_cons (pe_lst pa_nil) pa_nil hs2) hs1
  refine (pe_callB (cr_sumL hc) hg hm (by rfl) hargs (he := hs1) (hpl := hpl)).imp fun σ H Q ⟨F, P, env, S, q⟩ => ?_
  rw [ev] at q
  refine ⟨F, P, env, S, Aft.fst q S fun rs env1 vs F1 H1 P1 Pt _ t s q => ?_⟩
  obtain ⟨r, rfl, q⟩ := q.sole
  obtain ⟨v, rfl, hr⟩ := t.rr.one
  refine ⟨v, rfl, Nat.zero_le _, fun b hb => ?_⟩
  obtain ⟨w, e1, q⟩ := q.see
  obtain ⟨rr, e3, q⟩ := q.end_
  cases ew : sumW w with
  | none => rw [ew] at e3; cases e3
  | some xs =>
    rw [ew] at e3
    simp only at e3
    split at e3
    · rename_i hz
      cases e3
      obtain ⟨P0, hw, _⟩ := hr.see t.sr e1
      obtain ⟨a, as, ls, rfl, h1, h2, h3, h4⟩ := sumW_of t.sr.good.sub hw ew
      have n := New.own t.sr.good.sub hb (o := .lst [])
      have kp : ∀ a o, H1 a = some o → upd H1 b (.lst []) a = some o := fun a o e => by rw [upd_ne (ne_of_none e hb)]; exact e
      have sb : Sub F1 (upd H1 b (.lst [])) := n.good.sub
      refine ⟨a, b, as, ls, rfl, kp _ _ h1, by unfold upd; simp, h2, fun i a l e1 e2 => kp _ _ (h3 i a l e1 e2), by rw [h4.length]; exact big_line hz, fun hn => ?_, fun hn p hp => ?_⟩
      · subst hn
        have hl : ls = [] := by cases ls with
          | nil => rfl
          | cons _ _ => cases h2
        subst hl
        cases h4
        obtain ⟨t', s'⟩ := t.fin s n (r := .own (.lst [])) (u := .ref b) (.own (.lst (P' := fun _ => False) (by unfold upd; simp) rfl (fun _ z => z.elim) .nil))
        obtain ⟨v', ev, q⟩ := q [.ref b] _ _ _ _ t' s'
        cases ev
        exact q
      · obtain ⟨S2, _, st⟩ := t.sr.new n
        have n2 := New.own sb hp (o := .lst ls.flatten)
        obtain ⟨t', s'⟩ := (Tm.nil (c := c) (S2.reF (Sub.refl F1) (S2.good))).fin (F := F) (H := H) (P := P) ((s.trans (st.wide (fun _ h => .inl h) fun a h => .inl (.inl (h.elim id fun z => z.elim))))) n2
          (r := .own (.lst (xs.map .d))) (u := .ref p) (.own (WR.newL sb h4))
        obtain ⟨v', ev, q⟩ := q [.ref p] _ _ _ _ t' s'
        cases ev
        exact q
    · cases e3
theorem ev_one {a : E} : ev T (.cons a .nil) = bnd (ev T a) fun xs => bnd (sole xs) fun x => bnd (settle x) fun x => ret [x] := by
  rw [ev]
  have e : ∀ x : R, (bnd (ev T .nil) fun ys => ret (x :: ys)) = ret [x] := fun x => by rw [ev]; rfl
  simp only [e]
theorem rng_drs {lo : Int} {n : Int} : DRs c.K c.G F (rgV lo n) (rngD lo (n - lo).toNat) := by
  unfold rgV rngD
  have all : ∀ xs : List Nat, DRs c.K c.G F (xs.map fun i => V.int (lo + (i : Nat))) (xs.map fun (i : Nat) => PyData.int (lo + (i : Int))) := by
    intro xs
    induction xs with
    | nil => exact .nil
    | cons x xs ih => exact .cons (.int _) ih
  exact all _
/-- the range's bounds -/
def rdR (c : Cfg) (Wx : WX) (T : Tb) (es : E) : L2.St → Hp → (Int → Int → Hp → Prop) → Prop := fun σ H Q => ∃ F P env, SR c.K c.G F H env σ P ∧ AftG c Wx σ F H P (bnd (ev T es) (fun rs => bnd (each seeM rs) fun ws => lft (rngW ws)) env)
  fun xs env' => ∀ a b F' H' P', SR c.K c.G F' H' env' σ P' → Step F H P F' H' P' → xs = rngD a (b - a).toNat → RgOk a b → (b - a).toNat ≤ 2 * big → Q a b H'
theorem prg1 {a : Expr} {a' : E} {p pos : Pos} (hg : Gl X "range") (hm : X.mg "range" = none) (ha : PE X a (rdE c Wx T a')) (na : starEach [a] X.env = (false, eval a X.env) :: starEach [] X.env) : PRg X (.Call (.Name "range" p) [a] [] pos) (rdR c Wx T (.cons a' .nil)) := by
  intro pins s σ H Q I ⟨F, P, env, S, q⟩
  refine prg_1 hg hm ha na pins s σ H Q I ?_
  rw [ev_one] at q
  simp only [bnd_assoc] at q
  refine ⟨F, P, env, S, Aft.fst q S fun rs env1 vs F1 H1 P1 Pt _ t s q => ?_⟩
  obtain ⟨r, rfl, q⟩ := q.sole
  obtain ⟨v, rfl, hr⟩ := t.rr.one
  refine ⟨v, rfl, ?_⟩
  obtain ⟨r', env2, F2, P2, hd, t, s, q⟩ := q.settle t s
  obtain ⟨w, e1, q⟩ : ∃ w, see env2 r' = some w ∧ AftG c Wx σ F H P (lft (rngW [w]) env2) (fun xs env' => ∀ a b F' H' P', SR c.K c.G F' H' env' σ P' → Step F H P F' H' P' → xs = rngD a (b - a).toNat → RgOk a b → (b - a).toNat ≤ 2 * big → Q a b H') := by
    have q : AftG c Wx σ F H P (bnd (each seeM [r']) (fun ws => lft (rngW ws)) env2) _ := q
    simp only [each, bnd_assoc] at q
    obtain ⟨w, e, q⟩ := AftG.see q
    exact ⟨w, e, q⟩
  obtain ⟨xs, e3, q⟩ := AftG.end_ q
  obtain ⟨P0, hw⟩ := t.look1 e1
  unfold rngW at e3
  split at e3
  · rename_i n hh
    cases hh
    split at e3
    · rename_i hz
      cases e3
      obtain rfl := hw.ofInt
      have hz : -(1000000 : Int) ≤ n ∧ n ≤ (1000000 : Int) := hz
      exact ⟨n, rfl, q 0 n F2 H1 P2 t.sr (s.wide (fun _ h => h) fun _ h => .inl (.inl h)) (by simp) ⟨by omega, by omega, by omega, by omega, by omega⟩ (by show _ ≤ 2 * 1000000; omega)⟩
    · cases e3
  · rename_i hh; cases hh
  · cases e3
theorem ev_two {a b : E} : ev T (.cons a (.cons b .nil)) = bnd (ev T a) fun xs => bnd (sole xs) fun x => bnd (settle x) fun x => bnd (ev T b) fun ys => bnd (sole ys) fun y => bnd (settle y) fun y => ret [x, y] := by
  rw [ev]
  simp only [ev_one, bnd_assoc]
  rfl
theorem prg2 {a b : Expr} {a' b' : E} {p pos : Pos} (hg : Gl X "range") (hm : X.mg "range" = none) (ha : PE X a (rdE c Wx T a')) (hb : PE X b (rdE c Wx T b')) (na : starEach [a, b] X.env = (false, eval a X.env) :: starEach [b] X.env)
    (nb : starEach [b] X.env = (false, eval b X.env) :: starEach [] X.env) (hp : (backTo pos (starEach [b] X.env)).any (·.1) = false) : PRg X (.Call (.Name "range" p) [a, b] [] pos) (rdR c Wx T (.cons a' (.cons b' .nil))) := by
  intro pins s σ H Q I ⟨F, P, env, S, q⟩
  refine prg_2 hg hm ha hb na nb hp pins s σ H Q I ?_
  rw [ev_two] at q
  simp only [bnd_assoc] at q
  refine ⟨F, P, env, S, Aft.fst q S fun rs env1 vs F1 H1 P1 Pt _ t s q => ?_⟩
  obtain ⟨r, rfl, q⟩ := q.sole
  obtain ⟨v, rfl, hr⟩ := t.rr.one
  refine ⟨v, rfl, ?_⟩
  obtain ⟨r', env2, F2, P2, hd, t, s, q⟩ := q.settle t s
  refine ⟨F2, P2, env2, t.sr, Aft.seq q t (by simpa using hd) s fun rs2 env3 vs2 F3 H3 P3 Pt3 _ t t2 s q => ?_⟩
  obtain ⟨r2, rfl, q5⟩ := q.sole
  obtain ⟨u, rfl, hr2⟩ := t2.rr.one
  refine ⟨u, rfl, ?_⟩
  have s2 : Step F H P F3 H3 fun a => P3 a ∨ Pt3 a := s.wide (fun _ h => h) fun a h => .inl (h.imp id .inr)
  -- the second is settled: only F changes
  unfold bnd at q5
  cases es : settle r2 env3 with
  | none => rw [es] at q5; exact False.elim q5
  | some pr =>
    obtain ⟨pr, env4⟩ := pr
    rw [es] at q5
    cases pr with
    | ex x => exact (settle_ok es).elim
    | ok r2' =>
      obtain ⟨F4, P4, S4, st, hr4, hd4⟩ := settle_run t2.sr hr2 es
      obtain ⟨v1, v2, ev, q1, q2⟩ := t.rr.two
      cases ev
      have hr1 : RR c.K c.G F4 H3 σ r' v _ := q1.stay st.ext (fun _ _ _ e => e) hd
      have q : AftG c Wx σ F H P (bnd (each seeM [r', r2']) (fun ws => lft (rngW ws)) env4) (fun xs env' => ∀ a b F' H' P', SR c.K c.G F' H' env' σ P' → Step F H P F' H' P' → xs = rngD a (b - a).toNat → RgOk a b → (b - a).toNat ≤ 2 * big → Q a b H') := q5
      simp only [each, bnd_assoc] at q
      obtain ⟨w1, e1, q⟩ := AftG.see q
      have q : AftG c Wx σ F H P (bnd (seeM r2') (fun w => lft (rngW [w1, w])) env4) (fun xs env' => ∀ a b F' H' P', SR c.K c.G F' H' env' σ P' → Step F H P F' H' P' → xs = rngD a (b - a).toNat → RgOk a b → (b - a).toNat ≤ 2 * big → Q a b H') := by
        exact q
      obtain ⟨w2, e2, q⟩ := AftG.see q
      obtain ⟨xs, e3, q⟩ := AftG.end_ q
      obtain ⟨P5, hw1, _⟩ := hr1.see S4 e1
      obtain ⟨P6, hw2, _⟩ := hr4.see S4 e2
      unfold rngW at e3
      split at e3
      · rename_i n hh
        cases hh
      · rename_i a b hh
        cases hh
        split at e3
        · rename_i hz
          cases e3
          obtain rfl := hw1.ofInt
          obtain rfl := hw2.ofInt
          have hz : -(1000000 : Int) ≤ a ∧ a ≤ (1000000 : Int) ∧ -(1000000 : Int) ≤ b ∧ b ≤ (1000000 : Int) := hz
          exact ⟨a, b, rfl, rfl, q a b F4 H3 P4 S4 (s2.trans (st.wide (fun _ h => .inl h) fun _ h => .inl h)) rfl ⟨by omega, by omega, by omega, by omega, by omega⟩ (by show _ ≤ 2 * 1000000; omega)⟩
        · cases e3
      · cases e3
theorem AftG.map {α β : Type} {Kp : β → Env → Prop} {m : M α} {g : α → β} (h : AftG c Wx σ F H P (bnd m (fun a => ret (g a)) env) Kp) : AftG c Wx σ F H P (m env) fun a e => Kp (g a) e := by
  unfold bnd at h
  cases e : m env with
  | none => rw [e] at h; exact h
  | some p =>
    obtain ⟨p, env2⟩ := p
    rw [e] at h
    cases p with
    | ex x => exact h
    | ok a => exact h
theorem lft_map {α β : Type} {o : Option α} {g : α → β} : lft (o.map g) = bnd (lft o) fun a => ret (g a) := by
  funext env
  cases o <;> rfl
theorem e_lrng {e : Expr} {es : E} {p pos : Pos} (hc : X.calm = true) (hg : Gl X "list") (hm : X.mg "list" = none) (he : PRg X e (rdR c Wx T es)) (na : starEach [e] X.env = (false, eval e X.env) :: starEach [] X.env) : PE X (.Call (.Name "list" p) [e] [] pos) (rdE c Wx T (.lrng es)) := by
  refine (pe_listRg hc hg hm he na).imp fun σ H Q ⟨F, P, env, S, q⟩ => ?_
  rw [ev] at q
  refine ⟨F, P, env, S, ?_⟩
  simp only [lft_map] at q
  have q2 : AftG c Wx σ F H P (bnd (bnd (ev T es) fun rs => bnd (each seeM rs) fun ws => lft (rngW ws)) (fun xs => ret [R.own (.lst (xs.map .d))]) env) (fun vs env' => ∀ us F' H' P' Pt, Tm c F' H' env' σ P' vs us Pt → Step F H P F' H' (fun a => P' a ∨ Pt a) → ∃ v, us = [v] ∧ Q v H') := by
    rw [bnd_assoc]; simp only [bnd_assoc]; exact q
  refine AftG.from_ q2.map (Step.refl F H P) fun xs env' h a b F' H' P' S' st ex ok _ => ⟨ok, fun p hp => ?_⟩
  subst ex
  obtain ⟨t', s'⟩ := (Tm.nil S').fin (st.wide (fun _ h => h) fun a h => .inl (h.elim id fun z => z.elim)) (New.own S'.good.sub hp) (r := .own (.lst ((rngD a (b - a).toNat).map .d))) (u := .ref p) (.own (WR.newL S'.good.sub rng_drs))
  obtain ⟨v', ev, q⟩ := h _ _ _ _ _ t' s'
  cases ev
  exact q
theorem e_tupRg {e : Expr} {es : E} {p pos : Pos} (hc : X.calm = true) (hg : Gl X "tuple") (hm : X.mg "tuple" = none) (he : PRg X e (rdR c Wx T es)) (na : starEach [e] X.env = (false, eval e X.env) :: starEach [] X.env) : PE X (.Call (.Name "tuple" p) [e] [] pos) (rdE c Wx T (.bi .tuple (.cons (.lrng es) .nil))) := by
  refine (pe_tupRg hc hg hm he na).imp fun σ H Q ⟨F, P, env, S, q⟩ => ?_
  rw [ev, ev_one, ev] at q
  refine ⟨F, P, env, S, ?_⟩
  simp only [lft_map, bnd_assoc] at q
  have q2 : AftG c Wx σ F H P (bnd (bnd (ev T es) fun rs => bnd (each seeM rs) fun ws => lft (rngW ws)) (fun xs => ret [R.d (.tuple xs)]) env) (fun vs env' => ∀ us F' H' P' Pt, Tm c F' H' env' σ P' vs us Pt → Step F H P F' H' (fun a => P' a ∨ Pt a) → ∃ v, us = [v] ∧ Q v H') := by
    rw [bnd_assoc]; simp only [bnd_assoc]
    have e : ∀ xs : List D, (bnd (ret [R.own (.lst (xs.map .d))]) fun a => bnd (sole a) fun a => bnd (settle a) fun a => bnd (ret [a]) fun a => bnd (each seeM a) fun a => bnd (lft (biW .tuple a)) fun a => ret [toR a]) = ret [R.d (.tuple xs)] := fun xs => by
      funext env
      show (bnd (bnd (ret (W.lst (xs.map .d))) fun w => bnd (ret []) fun ws => ret (w :: ws)) fun a => bnd (lft (biW .tuple a)) fun a => ret [toR a]) env = _
      show (bnd (lft ((seqOrTup (.lst (xs.map .d))).map fun xs => W.d (.tuple xs))) fun a => ret [toR a]) env = _
      have : seqOrTup (.lst (xs.map .d)) = some xs := allD_map xs
      rw [this]
      rfl
    have z := q
    simp only [e] at z
    exact z
  refine AftG.from_ q2.map (Step.refl F H P) fun xs env' h a b F' H' P' S' st ex ok _ => ⟨ok, fun p hp => ?_⟩
  subst ex
  obtain ⟨t', s'⟩ := (Tm.nil S').fin (st.wide (fun _ h => h) fun a h => .inl (h.elim id fun z => z.elim)) (New.dat S'.good.sub hp (o := .tup (rgV a b))) (r := .d (.tuple (rngD a (b - a).toNat))) (u := .ref p)
    (.d (.tup (.inl (.inl (by unfold upd; simp))) (rng_drs.mono (sub_upd (off_of S'.good.sub hp)))))
  obtain ⟨v', ev, q⟩ := h _ _ _ _ _ t' s'
  cases ev
  exact q
end
end Ev
end

section
set_option Elab.async false
set_option linter.all false
set_option autoImplicit true
set_option maxRecDepth 100000
set_option maxHeartbeats 4000000
/-! EwN: x[::-1] of a list, of a tuple. -/
namespace Ev
open PySem PySem.Spec PyProof.Rows L2 HT
section
variable {prog : Program} {w : World} {A : Around} {E : Value → Shared → Prop} {s : Shared}
theorem adjust_rev (n : Nat) : Builtin.Slice.sliceAdjust none none (-1) (n : Int) = ((n : Int) - 1, -1) := by
  unfold Builtin.Slice.sliceAdjust
  simp
theorem places_rev (n : Nat) : Builtin.Slice.slicePlaces ((n : Int) - 1) (-1) (-1) = n := by
  unfold Builtin.Slice.slicePlaces
  have h1 : ¬ ((-1 : Int) > 0) := by omega
  simp only [h1, if_false]
  split
  · rw [show (-(-1) : Int) = 1 by decide, Int.ediv_one]; omega
  · omega
theorem fmR_congr {α β : Type} {f g : α → Option β} : ∀ {l : List α}, (∀ x ∈ l, f x = g x) → l.filterMap f = l.filterMap g
  | [], _ => rfl
  | x :: l, h => by
    rw [List.filterMap_cons, List.filterMap_cons, h x (by simp), fmR_congr fun y hy => h y (by simp [hy])]
theorem pick_rev (xs : Array Value) : ((List.range xs.size).filterMap fun (k : Nat) => xs[((xs.size : Int) - 1 + (k : Int) * -1).toNat]?) = xs.toList.reverse := by
  have h := PySem.W.krv_all xs
  rw [← h, ← List.filterMap_reverse, ← PySem.W.krv_range, List.filterMap_map]
  refine fmR_congr fun k hk => ?_
  have hk := List.mem_range.mp hk
  show xs[((xs.size : Int) - 1 + (k : Int) * -1).toNat]? = xs[xs.size - 1 - k]?
  rw [show ((xs.size : Int) - 1 + (k : Int) * -1).toNat = xs.size - 1 - k by omega]
theorem sliceApplied_rev {sl : Addr} {vl vu vs : Value} {n : Nat} {Q : Int × Int × Nat → Shared → Prop} (hs : s.heap.IsSliceOf sl vl vu vs) (pl : IsPart vl none) (pu : IsPart vu none) (ps : IsPart vs (some (-1)))
    (h : Q ((n : Int) - 1, -1, n) s) : wpAny (model prog w) A (Builtin.Slice.sliceApplied (.ref sl) (pure (n : Int))) Q E s := by
  obtain ⟨os, hos, hcs, hds⟩ := id hs
  unfold Builtin.Slice.sliceApplied Builtin.Slice.sliceFields
  refine wpAny_bind (wpAny_bind (wpAny_field hos hds (x := vl) rfl (wpAny_bind (wpAny_field hos hds (x := vu) rfl (wpAny_bind (wpAny_field hos hds (x := vs) rfl (wpAny_pure ?_)))))))
  refine wpAny_bind (slicePart_ ps ?_)
  show wpAny _ _ (if ((-1 : Int) == 0) = true then _ else _) _ _ s
  rw [if_neg (by decide)]
  refine wpAny_bind (slicePart_ pl (wpAny_bind (slicePart_ pu (wpAny_bind (wpAny_pure ?_)))))
  show wpAny _ _ (match Builtin.Slice.sliceAdjust none none (-1) (n : Int) with | (lo, hi) => pure (lo, (-1 : Int), Builtin.Slice.slicePlaces lo hi (-1))) _ _ s
  rw [adjust_rev n]
  show wpAny _ _ (pure ((n : Int) - 1, (-1 : Int), Builtin.Slice.slicePlaces ((n : Int) - 1) (-1) (-1))) _ _ s
  rw [places_rev]
  exact wpAny_pure h
theorem getItem_tuple_rev {t sl : Addr} {items : Array Value} {vl vu vs : Value} {Q : Value → Shared → Prop} (ht : IsTup s.heap t items) (hs : s.heap.IsSliceOf sl vl vu vs) (pl : IsPart vl none) (pu : IsPart vu none) (ps : IsPart vs (some (-1)))
    (h : Q (.ref s.heap.objs.size) { s with heap := s.heap.push { cls := .type "tuple", data := .seq items.toList.reverse.toArray } })
    (hsz : items.size ≤ sizeLine) : wpAny (model prog w) A (getItem (.ref t) (.ref sl)) Q E s := by
  have htake : sizeOk (.seq items.toList.reverse.toArray) := by
    show items.toList.reverse.toArray.size ≤ sizeLine
    rw [List.size_toArray, List.length_reverse, Array.length_toList]
    exact hsz
  obtain ⟨os, hos, hcs, hds⟩ := id hs
  have hTs : s.TypeIs (.ref sl) "slice" := ⟨os, hos, hcs⟩
  unfold getItem
  try with_reducible refine wpAny_holding ?_
  first | refine wpAny_bind (wpAny_pure ?_) | skip
  refine wpAny_bind (wpAny_sequenceKey ht.typeIs (by decide) ?_)
  refine wpAny_bind (wpAny_callSpecial?_slot (name := Str.ofString "__getitem__") ht.typeIs PyProof.Rows.slot_tuple_getitem
    (wpAny_call_entry PyProof.Rows.slot_tuple_getitem ht.typeIs entry_tuple_getitem ?_ (args_tuple_getitem _ _)))
  show wpAny _ _ (Builtin.Tuple.tupleItemsOf (.ref t) >>= _) _ _ s
  refine wpAny_bind (tupleItemsOf_ ht ?_)
  refine wpAny_bind (wpAny_typeOf hTs ?_)
  rw [if_pos (by decide)]
  refine wpAny_bind (sliceApplied_rev hs pl pu ps ?_)
  have hno : ¬ ((((items.size : Int) - 1) == 0 && (-1 : Int) == 1 && items.size == items.size) = true) := by
    rw [show ((-1 : Int) == 1) = false by decide]
    simp
  show wpAny _ _ (if ((((items.size : Int) - 1) == 0 && (-1 : Int) == 1 && items.size == items.size) = true) then _ else _) _ _ s
  rw [if_neg hno, pick_rev]
  first
    | exact wpAny_bind (m := Builtin.Tuple.tupleExact _) (wpAny_newObj_type (wpAny_pure ⟨_, rfl, wpAny_pure h⟩) htake)
    | exact wpAny_bind (m := Builtin.Tuple.tupleExact _) (wpAny_newObj_type (wpAny_bind (wpAny_pure (wpAny_pure ⟨_, rfl, wpAny_pure h⟩))) htake)
    | exact wpAny_bind (wpAny_bind (m := Builtin.Tuple.tupleExact _) (wpAny_newObj_type (wpAny_pure (wpAny_pure ⟨_, rfl, wpAny_pure h⟩)) htake))
    | exact wpAny_bind (wpAny_bind (m := Builtin.Tuple.tupleExact _) (wpAny_newObj_type (wpAny_pure ⟨_, rfl, wpAny_pure h⟩) htake))
end
section
variable {c : Cfg} {Wx : WX} {T : Tb} {X : Cx}
def tRevA (K : PySem.W.Frag) (te : TE) : TE := fun σ H Q => te σ H fun x H1 => ∃ a xs, x = .ref a ∧
  ((SqL K H1 a xs ∧ ∀ p, H1 p = none → Q (.ref p) (upd H1 p (.lst xs.reverse))) ∨ (SqT K H1 a xs ∧ ∀ p, H1 p = none → Q (.ref p) (upd H1 p (.tup xs.reverse))))
theorem pe_revA {e : Expr} {te : TE} {k : Nat} {p1 p2 p3 pos : Pos} (he : PE X e te) : PE X (.Subscript e (.Slice none none (some (.UnaryOp .USub (.Constant (.int 1) k p1) p2)) p3) pos) (tRevA X.K te) := by
  refine ⟨fun pins s σ H Q I h => ?_⟩
  refine Subscript_ (thn (he.run pins s σ H _ I h) fun v s1 ⟨x, H1, I1, r1, q1⟩ => ?_)
  obtain ⟨a, xs, ex, q⟩ := q1
  subst ex
  cases r1
  have hst : PO X (some (.UnaryOp .USub (.Constant (.int 1) k p1) p2)) (tPart (tUn (rU fun i => .int (-i)) (tC (.int 1)))) := po_some (pe_un un_neg pe_int)
  refine wpAny_Slice (thn (po_none.run pins s1 σ H1 (fun o H2 => o = none ∧ H2 = H1) I1 ⟨rfl, rfl⟩) fun vl s2 ⟨l, H2, I2, pl, el, e2⟩ => ?_)
  subst el e2
  refine thn (po_none.run pins s2 σ H2 (fun o H3 => o = none ∧ H3 = H2) I2 ⟨rfl, rfl⟩) fun vu s3 ⟨u, H3, I3, pu, eu, e3⟩ => ?_
  subst eu e3
  refine thn (hst.run pins s3 σ H3 (fun o H4 => o = some (-1) ∧ H4 = H3) I3 ⟨1, rfl, -1, rfl, rfl, rfl⟩) fun vs s4 ⟨o, H4, I4, ps, eo, e4⟩ => ?_
  subst eo e4
  have I5 : Inv X pins σ H4 { s4 with heap := s4.heap.push { cls := .type "slice", data := .fields #[vl, vu, vs] } } := I4.kept (t' := s4.toks) fun b ob q => Heap.get?_push_of_some _ q
  show wpAny (model X.prog X.w) X.A (subscriptTail e (.Slice none none (some (.UnaryOp .USub (.Constant (.int 1) k p1) p2)) p3) (.ref a) (.ref s4.heap.objs.size)) (EP X pins σ Q) X.xe { s4 with heap := s4.heap.push { cls := .type "slice", data := .fields #[vl, vu, vs] } }
  rcases q with ⟨hx, q⟩ | ⟨hx, q⟩
  · obtain ⟨its, r, ht, hz⟩ := I5.list hx
    have hlen := r.length
    refine tail_any (ops := [.ref a, .ref s4.heap.objs.size]) ht.isList.typeIs (PySem.slot_list_getitem.lookup) ?_ (by with_unfolding_all rfl)
    refine wpAny_getItem_list_slice ht.isList (Heap.IsSliceOf.new _ vl vu vs) pl pu ps (by decide) ?_ (by rw [List.size_toArray]; omega)
    rw [PySem.W.krv_pick]
    refine ⟨.ref _, _, I5.laid (t' := s4.toks) (o := .lst xs.reverse) (fun b ob q => Heap.get?_push_of_some _ q) (Nat.le_refl _) ?_, rfl, q _ (I5.hok.fresh (Nat.le_refl _))⟩
    exact ⟨by rw [List.length_reverse]; exact hz, _, 0, r.reverse, Heap.get?_push_size _ rfl⟩
  · obtain ⟨its, r, ht, hz⟩ := I5.tuple hx
    have hlen := r.length
    refine tail_any (ops := [.ref a, .ref s4.heap.objs.size]) ht.typeIs PyProof.Rows.slot_tuple_getitem.lookup ?_ (by with_unfolding_all rfl)
    refine getItem_tuple_rev ht (Heap.IsSliceOf.new _ vl vu vs) pl pu ps ?_ (by rw [List.size_toArray]; omega)
    refine ⟨.ref _, _, I5.laid (t' := s4.toks) (o := .tup xs.reverse) (fun b ob q => Heap.get?_push_of_some _ q) (Nat.le_refl _) ?_, rfl, q _ (I5.hok.fresh (Nat.le_refl _))⟩
    exact ⟨by rw [List.length_reverse]; exact hz, _, r.reverse, IsTup.new _ _⟩
theorem DRs.rev {F : Hp} : ∀ {ds : List Ev.D} {vs : List V}, DRs c.K c.G F vs ds → DRs c.K c.G F vs.reverse ds.reverse
  | [], _, h => by cases h; exact .nil
  | d :: ds, _, h => by
    cases h with
    | cons h1 h2 =>
      rw [List.reverse_cons, List.reverse_cons]
      exact (DRs.rev h2).append (.cons h1 .nil)
theorem e_rev {a : Expr} {a' : E} {k : Nat} {p1 p2 p3 pos : Pos} (hK : c.K = X.K) (ha : PE X a (rdE c Wx T a')) : PE X (.Subscript a (.Slice none none (some (.UnaryOp .USub (.Constant (.int 1) k p1) p2)) p3) pos) (rdE c Wx T (.rev a')) := by
  refine (pe_revA ha).imp fun σ H Q ⟨F, P, env, S, q⟩ => ?_
  rw [ev] at q
  refine ⟨F, P, env, S, Aft.fst q S fun rs env1 vs F1 H1 P1 Pt _ t s q => ?_⟩
  obtain ⟨r, rfl, q⟩ := q.sole
  obtain ⟨v, rfl, hr⟩ := t.rr.one
  refine ⟨v, rfl, ?_⟩
  obtain ⟨w1, e1, q⟩ := q.see
  obtain ⟨rr, e3, q⟩ := q.end_
  cases e4 : revW w1 with
  | none => rw [e4] at e3; cases e3
  | some z =>
    rw [e4] at e3
    cases e3
    obtain ⟨P4, h1, _⟩ := hr.see t.sr e1
    have sb := t.sr.good.sub
    have fin : ∀ u F' H' Pn, New F1 H1 F' H' Pn → WR c.K c.G F' H' z u Pn → Q u H' := fun u F' H' Pn n hw => by
      obtain ⟨t', s'⟩ := t.finW s n hw
      obtain ⟨v', ev, q⟩ := q [u] F' H' _ _ t' s'
      cases ev
      exact q
    unfold revW at e4
    split at e4
    · rename_i xs
      cases e4
      obtain ⟨b, us, rfl, _, hb, db⟩ := h1.ofTup sb
      rw [hK] at hb
      exact ⟨b, us, rfl, .inr ⟨hb, fun p hp => fin _ _ _ _ (.dat sb hp) (WR.newT sb hp db.rev)⟩⟩
    · cases es : seqD w1 with
      | none => rw [es] at e4; cases e4
      | some xs =>
        rw [es] at e4
        cases e4
        obtain ⟨b, us, rfl, hb, db⟩ := h1.ofSeq sb es
        exact ⟨b, us, rfl, .inl ⟨SqL.of hb, fun p hp => fin _ _ _ _ (.own sb hp) (WR.newL sb db.rev)⟩⟩
end
end Ev
end

section
set_option Elab.async false
set_option linter.all false
set_option autoImplicit true
set_option maxRecDepth 100000
set_option maxHeartbeats 4000000
/-! EvL: methods, stores at places. -/
namespace Ev
open PySem PySem.Spec PyProof.Rows L2
section
variable {c : Cfg} {Wx : WX} {T : Tb} {X : Cx} {σ : L2.St} {F F1 H H1 F' H' : Hp} {P P1 P2 Pt Pn Pi Pw Pr : Addr → Prop} {env env1 env' : Env} {rs : List R} {vs : List V} {i : Nat}
/-! ### a thing is turned in its place -/
theorem Step.updP {l : Addr} {o o' : HO} (hl : P l) (e : H l = some o) (hf : ¬ IsFrz o) (hs : ∀ a, P1 a → P a) : Step F H P F (upd H l o') P1 := by
  refine ⟨Sub.refl F, fun a u ea hn => ?_, fun a h => .inl (hs a h), fun a u e => .inl e⟩
  have : a ≠ l := by
    rintro rfl
    rcases hn with hn | hn
    · exact hn hl
    · rw [e] at ea; cases ea; exact hf hn
  rw [upd_ne this]
  exact ea
theorem Good.updP {l : Addr} {o' : HO} (g : Good F H P) (hl : P l) (hs : ∀ a, P1 a → P a) : Good F (upd H l o') P1 := by
  refine ⟨fun a o e => ?_, fun a h => g.off a (hs a h), fun a h => ?_⟩
  · have : a ≠ l := by rintro rfl; rw [g.off a hl] at e; cases e
    rw [upd_ne this]
    exact g.sub a o e
  · by_cases e : a = l
    · subst e; unfold upd; simp
    · rw [upd_ne e]; exact g.trk a (hs a h)
theorem WRs.append {ws' : List W} {us : List V} {P2 : Addr → Prop} : ∀ {ws : List W} {vs : List V} {P1 : Addr → Prop}, WRs c.K c.G F H ws vs P1 → WRs c.K c.G F H ws' us P2 → (∀ a, P1 a → ¬ P2 a) → WRs c.K c.G F H (ws ++ ws') (vs ++ us) fun a => P1 a ∨ P2 a
  | _, _, _, .nil, h, _ => h.big fun _ z => .inr z
  | _, _, _, .cons (P1 := Q1) (P2 := Q2) h1 h2 h3 h4, h, dj => by
    refine .cons (P1 := Q1) (P2 := fun a => Q2 a ∨ P2 a) (fun b hb => ⟨.inl (h1 b hb).1, fun z => z.elim (h1 b hb).2 (dj b (h1 b hb).1)⟩) (fun b hb => hb.imp (h2 b) id) h3 (WRs.append h4 h fun a z => dj a (h2 a z))
theorem WRs.erase : ∀ {ws : List W} {vs : List V} {P : Addr → Prop} {k : Nat} {w : W}, WRs c.K c.G F H ws vs P → ws[k]? = some w → ∃ v Pk, vs[k]? = some v ∧ WR c.K c.G F H w v Pk ∧ (∀ a, Pk a → P a) ∧ WRs c.K c.G F H (ws.eraseIdx k) (vs.eraseIdx k) fun a => P a ∧ ¬ Pk a
  | [], _, _, k, w, h, e => by simp at e
  | w0 :: ws, _, _, 0, w, h, e => by
    cases h with
    | cons h1 h2 h3 h4 =>
      simp at e
      subst e
      exact ⟨_, _, rfl, h3, fun a h => (h1 a h).1, by simpa using h4.big fun a h => ⟨h2 a h, fun z => (h1 a z).2 h⟩⟩
  | w0 :: ws, _, _, k + 1, w, h, e => by
    cases h with
    | @cons _ _ _ _ P Q1 Q2 h1 h2 h3 h4 =>
      obtain ⟨v, Pk, ev, hw, hs, hr⟩ := WRs.erase (k := k) h4 (by simpa using e)
      refine ⟨v, Pk, by simpa using ev, hw, fun a h => h2 a (hs a h), ?_⟩
      rw [List.eraseIdx_cons_succ, List.eraseIdx_cons_succ]
      exact .cons (P1 := Q1) (P2 := fun a => Q2 a ∧ ¬ Pk a) (fun b hb => ⟨⟨(h1 b hb).1, fun z => (h1 b hb).2 (hs b z)⟩, fun z => (h1 b hb).2 z.1⟩) (fun b hb => ⟨h2 b hb.1, hb.2⟩) h3 hr
theorem kd_put {k : Key} {d : D} {v : V} (hd : DR c.K c.G F v d) : ∀ {ds : List (Key × D)} {vs : List (Key × V)}, KD c.K c.G F ds vs → KD c.K c.G F (setK ds k d) (putK vs k v) := by
  have any_eq : ∀ {ds : List (Key × D)} {vs : List (Key × V)}, KD c.K c.G F ds vs → (ds.any fun kv => decide (kv.1 = k)) = (vs.any fun kv => decide (kv.1 = k)) := by
    intro ds vs h
    induction h with
    | nil => rfl
    | cons _ _ ih => simp only [List.any_cons, ih]
  have map_ok : ∀ {ds : List (Key × D)} {vs : List (Key × V)}, KD c.K c.G F ds vs → KD c.K c.G F (ds.map fun kv => if kv.1 = k then (kv.1, d) else kv) (vs.map fun kv => if kv.1 = k then (kv.1, v) else kv) := by
    intro ds vs h
    induction h with
    | nil => exact .nil
    | @cons k' d' v' ds vs h1 h2 ih =>
      simp only [List.map_cons]
      by_cases hk : k' = k
      · simp only [hk, if_true]; exact .cons hd ih
      · simp only [hk, if_false]; exact .cons h1 ih
  have app_ok : ∀ {ds : List (Key × D)} {vs : List (Key × V)}, KD c.K c.G F ds vs → KD c.K c.G F (ds ++ [(k, d)]) (vs ++ [(k, v)]) := by
    intro ds vs h
    induction h with
    | nil => exact .cons hd .nil
    | cons h1 h2 ih => exact .cons h1 ih
  intro ds vs h
  unfold setK putK
  rw [any_eq h]
  split
  · exact map_ok h
  · exact app_ok h
/-- a method's arguments -/
def ArgOk (c : Cfg) (m : MI) (F H : Hp) (ws : List W) (xs : List V) (Pw : Addr → Prop) : Prop :=
  if m.takes = true then WRs c.K c.G F H ws xs Pw else Paired (fun w v => ∃ P0, WR c.K c.G F H w v P0) ws xs
/-- a method by values -/
def rM (c : Cfg) (m : MI) : V → List V → Hp → VK → Prop := fun x xs H Q => ∃ F w P ws Pw w2 r, Good F H (fun a => P a ∨ Pw a) ∧ (∀ a, P a → ¬ Pw a) ∧ WR c.K c.G F H w x P ∧ ArgOk c m F H ws xs Pw ∧ meW m w ws = some (w2, r) ∧
  ∀ u F' H' P2 Pr, WR c.K c.G F' H' w2 x P2 → WR c.K c.G F' H' r u Pr → (∀ a, P2 a → ¬ Pr a) → Good F' H' (fun a => P2 a ∨ Pr a) → Step F H (fun a => P a ∨ Pw a) F' H' (fun a => P2 a ∨ Pr a) → Q u H'
def miT (m : MI) : String := if m.ofL = true then "list" else "dict"
def miId : MI → String
  | .append => "list.append"
  | .extend => "list.extend"
  | .pop => "list.pop"
  | .setdefault => "dict.setdefault"
  | .get => "dict.get"
def miName : MI → Str
  | .append => "append"
  | .extend => "extend"
  | .pop => "pop"
  | .setdefault => "setdefault"
  | .get => "get"
theorem mi_slot (m : MI) : PlainAttrs (miT m) ∧ PySem.Slot (miT m) (miName m) (miId m) ∧ typeOf (.builtin (miId m)) = pure (.type "method_descriptor") := by
  cases m with
  | append => exact ⟨PySem.F.plainAttrs_list, PySem.F.slot_list_append, PySem.F.type_list_append⟩
  | extend => exact ⟨PySem.F.plainAttrs_list, PySem.F.slot_list_extend, PySem.F.type_list_extend⟩
  | pop => exact ⟨PySem.F.plainAttrs_list, PySem.F.slot_list_pop, PySem.F.type_list_pop⟩
  | setdefault => exact ⟨PySem.F.plainAttrs_dict, PySem.F.slot_dict_setdefault, PySem.F.type_dict_setdefault⟩
  | get => exact ⟨PySem.F.plainAttrs_dict, PySem.F.slot_dict_get, PySem.F.type_dict_get⟩
theorem paired1 {α β : Type} {R : α → β → Prop} {a : α} {bs : List β} (h : Paired R [a] bs) : ∃ b, bs = [b] ∧ R a b := by
  cases h with
  | cons h1 h2 => cases h2; exact ⟨_, rfl, h1⟩
theorem paired2 {α β : Type} {R : α → β → Prop} {a a' : α} {bs : List β} (h : Paired R [a, a'] bs) : ∃ b b', bs = [b, b'] ∧ R a b ∧ R a' b' := by
  cases h with
  | cons h1 h2 =>
    cases h2 with
    | cons h2 h3 => cases h3; exact ⟨_, _, rfl, h1, h2⟩
theorem isz {i : Int} {n k : Nat} (h : ixN n i = some k) (hz : n ≤ sizeLine) : -(2 ^ 63) ≤ i ∧ i < 2 ^ 63 := by
  obtain ⟨_, _, h1, h2⟩ := ixN_seq h
  rw [sizeLine_eq] at hz
  omega
theorem WR.ofD {x : D} {v : V} (h : WR c.K c.G F H (.d x) v P) : DR c.K c.G F v x := by
  cases h with
  | d h => exact h
theorem upd_at {H : Hp} {l : Addr} {o : HO} : upd H l o l = some o := by unfold upd; simp
theorem lst_up {l : Addr} {us : List V} {o' : HO} {P' : Addr → Prop} {ws : List W} (h : WRs c.K c.G F H ws us P') (hn : ∀ b, P' b → b ≠ l) : WRs c.K c.G F (upd H l o') ws us P' :=
  h.stay (Sub.refl F) fun a o ha e => by rw [upd_ne (hn a ha)]; exact e
theorem wr_up {l : Addr} {o' : HO} {v : V} {w : W} {P' : Addr → Prop} (h : WR c.K c.G F H w v P') (hn : ∀ b, P' b → b ≠ l) : WR c.K c.G F (upd H l o') w v P' :=
  h.stay (Sub.refl F) fun a o ha e => by rw [upd_ne (hn a ha)]; exact e
theorem mt_app : MtR X "list.append" (rM c .append) := by
  intro pins s σ H x xs v us Q I rx rxs ⟨F, w, P, ws, Pw, w2, r, g, dj, hw, ha0, e, q⟩
  have ha : WRs c.K c.G F H ws xs Pw := ha0
  clear ha0
  change meApp w ws = some (w2, r) at e
  unfold meApp at e
  split at e
  · rename_i ws0 x0
    split at e
    · rename_i hz
      cases e
      cases hw with
      | @lst _ l vs _ P' h1 h2 h3 h4 =>
        obtain ⟨y, rfl, hy⟩ := WRs.sgl ha
        have nl : ∀ b, Pw b → b ≠ l := fun b hb z => by subst z; exact dj b h2 hb
        have nl' : ∀ b, P' b → b ≠ l := fun b hb => (h3 b hb).2
        refine mt_append pins s σ H _ _ v us Q I rx rxs ⟨l, vs, y, rfl, rfl, h1, by rw [← h4.length]; exact big_lt hz, ?_⟩
        refine q .non F _ (fun a => P a ∨ Pw a) (fun _ => False) ?_ (.d .non) (fun _ _ z => z) ?_ ?_
        · refine .lst (P' := fun a => P' a ∨ Pw a) upd_at (.inl h2) (fun b hb => ⟨hb.imp (fun h => (h3 b h).1) id, hb.elim (nl' b) (nl b)⟩) ?_
          exact WRs.append (lst_up h4 nl') (.cons (P1 := Pw) (P2 := fun _ => False) (fun b hb => ⟨hb, id⟩) (fun _ z => z.elim) (wr_up hy nl) .nil) fun a z1 z2 => dj a (h3 a z1).1 z2
        · exact g.updP (.inl h2) fun a h => h.elim id fun z => z.elim
        · exact Step.updP (.inl h2) h1 (fun z => z) fun a h => h.elim id fun z => z.elim
    · cases e
  all_goals cases e
theorem mt_ext : MtR X "list.extend" (rM c .extend) := by
  intro pins s σ H x xs v us Q I rx rxs ⟨F, w, P, ws, Pw, w2, r, g, dj, hw, ha0, e, q⟩
  have ha : Paired (fun w v => ∃ P0, WR c.K c.G F H w v P0) ws xs := ha0
  clear ha0
  change meExt w ws = some (w2, r) at e
  unfold meExt at e
  split at e
  · rename_i ws0 x0
    split at e
    · rename_i ys ey
      split at e
      · rename_i hz
        cases e
        cases hw with
        | @lst _ l vs _ P' h1 h2 h3 h4 =>
          obtain ⟨y, rfl, P0, hy⟩ := paired1 ha
          obtain ⟨b, zs, rfl, hb, dz⟩ := hy.ofSeq g.sub ey
          have nl' : ∀ b, P' b → b ≠ l := fun b hb => (h3 b hb).2
          refine mt_extend pins s σ H _ _ v us Q I rx rxs ⟨l, b, vs, zs, rfl, rfl, h1, hb, by rw [← h4.length, dz.length]; exact big_line hz, ?_⟩
          refine q .non F _ (fun a => P a ∨ Pw a) (fun _ => False) ?_ (.d .non) (fun _ _ z => z) ?_ ?_
          · refine .lst (P' := P') upd_at (.inl h2) (fun b hb => ⟨.inl (h3 b hb).1, nl' b hb⟩) ?_
            exact (WRs.append (P2 := fun _ => False) (lst_up h4 nl') (WRs.ofD dz) fun a _ z => z).big fun a h => h.elim id fun z => z.elim
          · exact g.updP (.inl h2) fun a h => h.elim id fun z => z.elim
          · exact Step.updP (.inl h2) h1 (fun z => z) fun a h => h.elim id fun z => z.elim
      · cases e
    · cases e
  all_goals cases e
theorem mt_pops : MtR X "list.pop" (rM c .pop) := by
  intro pins s σ H x xs v us Q I rx rxs ⟨F, w, P, ws, Pw, w2, r, g, dj, hw, ha0, e, q⟩
  have ha : Paired (fun w v => ∃ P0, WR c.K c.G F H w v P0) ws xs := ha0
  clear ha0
  have fin : ∀ {ws0 : List W} {k : Nat} {l : Addr} {vs : List V} {P' : Addr → Prop}, (ws0[k]?).map (fun x => (W.lst (ws0.eraseIdx k), x)) = some (w2, r) → x = .ref l → H l = some (.lst vs) → P l → (∀ b, P' b → P b ∧ b ≠ l) → WRs c.K c.G F H ws0 vs P' →
      ∃ y, vs[k]? = some y ∧ Q y (upd H l (.lst (vs.eraseIdx k))) := by
    intro ws0 k l vs P' e ex h1 h2 h3 h4
    cases ew : ws0[k]? with
    | none => rw [ew] at e; cases e
    | some w0 =>
      rw [ew] at e
      cases e
      subst ex
      obtain ⟨y, Pk, ey, hy, hs, hr⟩ := h4.erase ew
      have nk : ∀ b, Pk b → b ≠ l := fun b hb => (h3 b (hs b hb)).2
      refine ⟨y, ey, q y F _ (fun a => P a ∧ ¬ Pk a) Pk ?_ (wr_up hy nk) (fun a h => h.2) ?_ ?_⟩
      · exact .lst (P' := fun a => P' a ∧ ¬ Pk a) upd_at ⟨h2, fun z => nk l z rfl⟩ (fun b hb => ⟨⟨(h3 b hb.1).1, hb.2⟩, (h3 b hb.1).2⟩) (lst_up hr fun b hb => (h3 b hb.1).2)
      · exact g.updP (.inl h2) fun a h => h.elim (fun h => .inl h.1) fun h => .inl (h3 a (hs a h)).1
      · exact Step.updP (.inl h2) h1 (fun z => z) fun a h => h.elim (fun h => .inl h.1) fun h => .inl (h3 a (hs a h)).1
  change mePop w ws = some (w2, r) at e
  unfold mePop at e
  split at e
  · rename_i ws0 i
    split at e
    · rename_i k ek
      cases hw with
      | @lst _ l vs _ P' h1 h2 h3 h4 =>
        obtain ⟨y, rfl, P0, hy⟩ := paired1 ha
        obtain rfl := hy.ofInt
        obtain ⟨z, ez, qz⟩ := fin e rfl h1 h2 h3 h4
        rw [h4.length] at ek
        have b := isz ek (I.lstM h1).1
        exact mt_popAt pins s σ H _ _ v us Q I rx rxs ⟨l, vs, i, k, z, rfl, rfl, h1, b.1, b.2, (ixN_seq ek).1, ez, qz⟩
    · cases e
  · rename_i ws0
    split at e
    · rename_i k ek
      cases hw with
      | @lst _ l vs _ P' h1 h2 h3 h4 =>
        cases ha
        obtain ⟨z, ez, qz⟩ := fin e rfl h1 h2 h3 h4
        rw [h4.length] at ek
        have hk : k = vs.length - 1 := by
          unfold ixN at ek
          rw [if_neg (by omega)] at ek
          split at ek
          · cases ek; omega
          · cases ek
        subst hk
        have e5 : vs.eraseIdx (vs.length - 1) = vs.dropLast := PyProof.Rows.Copied.eraseIdx_last vs
        rw [e5] at qz
        exact mt_pop pins s σ H _ _ v us Q I rx rxs ⟨l, vs, z, rfl, rfl, h1, ez, qz⟩
    · cases e
  all_goals cases e
theorem mt_setd : MtR X "dict.setdefault" (rM c .setdefault) := by
  intro pins s σ H x xs v us Q I rx rxs ⟨F, w, P, ws, Pw, w2, r, g, dj, hw, ha0, e, q⟩
  have ha : Paired (fun w v => ∃ P0, WR c.K c.G F H w v P0) ws xs := ha0
  clear ha0
  change meSetd w ws = some (w2, r) at e
  unfold meSetd at e
  split at e
  · rename_i kvs k d
    split at e
    · rename_i kk ek
      split at e
      · rename_i hz
        cases hw with
        | @dct _ l us' _ h1 h2 h3 =>
          obtain ⟨y, z, rfl, ⟨Py, hy⟩, ⟨Pz, hz'⟩⟩ := paired2 ha
          obtain rfl := kV_of hy ek
          have dz := hz'.ofD
          obtain ⟨u1, u2, rfl, r1, r2⟩ := vals2 rxs
          cases rx
          have hlen := (valV_kd (k := kk) h3)
          have hn : us'.length = kvs.length := kd_len h3
          split at e
          · rename_i x0 eg
            cases e
            obtain ⟨v0, ev0, dv0⟩ := hlen.1 _ eg
            have qq := q v0 F H (fun a => P a ∨ Pw a) (fun _ => False) (.dct h1 (.inl h2) h3) (.d dv0) (fun _ _ z => z) (g.less fun a h => h.elim id fun z => z.elim) ((Step.refl F H _).wide (fun _ h => h) fun a h => .inl (h.elim id fun z => z.elim))
            refine d_setd I h1 r1 r2 (by rw [hn]; exact big_lt hz) (fun v1 ev1 w' s' I' rw' => ?_) fun en => ?_
            · rw [ev0] at ev1; cases ev1; exact ⟨v0, H, I', rw', qq⟩
            · rw [ev0] at en; cases en
          · rename_i eg
            cases e
            have nn := hlen.2 eg
            refine d_setd I h1 r1 r2 (by rw [hn]; exact big_lt hz) (fun v1 ev1 => by rw [nn] at ev1; cases ev1) fun _ w' s' I' rw' => ?_
            refine ⟨z, _, I', rw', ?_⟩
            refine q z F _ (fun a => P a ∨ Pw a) (fun _ => False) (.dct upd_at (.inl h2) (kd_put dz h3)) (.d dz) (fun _ _ z => z) ?_ ?_
            · exact g.updP (.inl h2) fun a h => h.elim id fun z => z.elim
            · exact Step.updP (.inl h2) h1 (fun z => z) fun a h => h.elim id fun z => z.elim
      · cases e
    · cases e
  all_goals cases e
theorem mt_get (hK : c.K = X.K) (hG : c.On X) (hu0 : X.A.units + 65 < cLine) : MtR X "dict.get" (rM c .get) := by
  intro pins s σ H x xs v us Q I rx rxs ⟨F, w, P, ws, Pw, w2, r, g, dj, hw, ha0, e, q⟩
  have hu : X.A.units + 1 < cLine := by omega
  have rm : X.A.in1.units + 8 < cLine := by show X.A.units + 1 + 8 < cLine; omega
  have ha : Paired (fun w v => ∃ P0, WR c.K c.G F H w v P0) ws xs := ha0
  clear ha0
  have same : ∀ {u : V} {d : D}, w2 = w → r = .d d → DR c.K c.G F u d → Q u H := fun e1 e2 du => by
    subst e1 e2
    exact q _ F H P (fun _ => False) hw (.d du) (fun _ _ z => z) (g.less fun a h => .inl (h.elim id fun z => z.elim)) ((Step.refl F H _).wide (fun _ h => h) fun a h => .inl (.inl (h.elim id fun z => z.elim)))
  have keyIs : ∀ {k : D} {kk : NestedKey} {y : V} {u : Value} {P0 : Addr → Prop}, tupK k = some kk → WR c.K c.G F H (.d k) y P0 → RelV y u → ∃ b, u = .ref b ∧ (nestedKind X.prog X.w).is s.heap kk b := fun {k kk y u P0} et hy ry => by
    obtain ⟨⟨xs, rfl⟩, hk, hdp⟩ := tupK_ok et
    cases hy with
    | d hy =>
      cases hy with
      | @tup b _ _ h8 h9 =>
        obtain rfl := (show u = .ref b from ry)
        exact ⟨b, rfl, nk_is I g.sub kk (.ref b) _ (by rw [← hK, hk]; exact .tup h8 h9) (show L2.RelV (.ref b) (.ref b) from rfl), hdp⟩
  have get2N : ∀ {a b : Addr} {kk : NestedKey} {ys : List (NestedKey × Addr × Value)} {u2 : Value} {Q' : Value → Shared → Prop}, (a == sysModules) = false → (nestedKind X.prog X.w).is s.heap kk b → s.heap.DictOfH (nestedKind X.prog X.w) a ys → (∀ t, Q' (((atKey ys kk).map (·.2)).getD u2) { s with toks := t }) →
      wpAny (model X.prog X.w) X.A (call (.builtin "dict.get") [.ref a, .ref b, u2]) Q' X.xe s := fun {a b kk ys u2 Q'} hd hn dd h =>
    call_meetsIn PySem.F.slot_dict_get dd.typeIs PySem.F.entry_dict_get (PySem.F.args_dict_get_3 _ _ _) (meetsH_dict_get_default (nestedKind X.prog X.w) a b hd u2) ⟨rm, kk, ys, hn, dd, h _⟩
  have get1N : ∀ {a b : Addr} {kk : NestedKey} {ys : List (NestedKey × Addr × Value)} {Q' : Value → Shared → Prop}, (a == sysModules) = false → (nestedKind X.prog X.w).is s.heap kk b → s.heap.DictOfH (nestedKind X.prog X.w) a ys → (∀ t, Q' (((atKey ys kk).map (·.2)).getD .none) { s with toks := t }) →
      wpAny (model X.prog X.w) X.A (call (.builtin "dict.get") [.ref a, .ref b]) Q' X.xe s := fun {a b kk ys Q'} hd hn dd h =>
    call_meetsIn PySem.F.slot_dict_get dd.typeIs PySem.F.entry_dict_get (PySem.F.args_dict_get_2 _ _) (meetsH_dict_get (nestedKind X.prog X.w) a b hd) ⟨rm, kk, ys, hn, dd, h _⟩
  change meGet w ws = some (w2, r) at e
  unfold meGet at e
  split at e
  · rename_i lk kvs k d
    obtain ⟨l, us', rfl, hr, kd⟩ := hw.ofDct
    obtain ⟨y, z, rfl, ⟨Py, hy⟩, ⟨Pz, hz⟩⟩ := paired2 ha
    obtain ⟨u1, u2, rfl, r1, r2⟩ := vals2 rxs
    cases rx
    cases ek : keyD k with
    | none =>
      rw [ek] at e
      dsimp only at e
      split at e
      · rename_i he
        obtain ⟨kk, et, e⟩ := Option.map_eq_some_iff.mp e
        cases e
        obtain ⟨b, rfl, hn⟩ := keyIs et hy r1
        obtain rfl : kvs = [] := by simpa using he
        obtain ⟨hd, dd⟩ := dn_empty I hr (by cases kd; rfl)
        exact get2N hd hn dd fun t => ⟨z, H, I.tok _, r2, same rfl rfl hz.ofD⟩
      · cases e
    | some kk =>
      rw [ek] at e
      cases e
      obtain rfl := kV_of hy ek
      have hv := valV_kd (k := kk) kd
      refine d_get2 hu I (o := valV us' kk) (.inl ⟨us', kk, hr, rfl, rfl⟩) r1 r2 fun w' s' I' rw' => ⟨_, H, I', rw', same rfl rfl ?_⟩
      cases eg : getK kvs kk with
      | none => rw [hv.2 eg]; exact hz.ofD
      | some d' => obtain ⟨v0, ev0, dv0⟩ := hv.1 _ eg; rw [ev0]; exact dv0
  · rename_i lk kvs k
    obtain ⟨l, us', rfl, hr, kd⟩ := hw.ofDct
    obtain ⟨y, rfl, Py, hy⟩ := paired1 ha
    obtain ⟨u1, rfl, r1⟩ := rxs.one
    cases rx
    cases ek : keyD k with
    | none =>
      rw [ek] at e
      dsimp only at e
      split at e
      · rename_i he
        obtain ⟨kk, et, e⟩ := Option.map_eq_some_iff.mp e
        cases e
        obtain ⟨b, rfl, hn⟩ := keyIs et hy r1
        obtain rfl : kvs = [] := by simpa using he
        obtain ⟨hd, dd⟩ := dn_empty I hr (by cases kd; rfl)
        exact get1N hd hn dd fun t => ⟨.non, H, I.tok _, rfl, same rfl rfl .non⟩
      · cases e
    | some kk =>
      rw [ek] at e
      cases e
      obtain rfl := kV_of hy ek
      have hv := valV_kd (k := kk) kd
      refine d_get1 hu I (o := valV us' kk) (.inl ⟨us', kk, hr, rfl, rfl⟩) r1 fun w' s' I' rw' => ⟨_, H, I', rw', same rfl rfl ?_⟩
      cases eg : getK kvs kk with
      | none => rw [hv.2 eg]; exact .non
      | some d' => obtain ⟨v0, ev0, dv0⟩ := hv.1 _ eg; rw [ev0]; exact dv0
  · rename_i kvs k d
    obtain ⟨kk, et, e⟩ := Option.map_eq_some_iff.mp e
    cases e
    have hw' := hw
    cases hw' with
    | @dcn _ a us0 _ h5 h6 h7 =>
      rw [hG.1, hG.2] at h5
      obtain ⟨_, hd, _, ys, rel, dd⟩ := dn_of hK I g.sub h5 h7
      obtain ⟨y, z, rfl, ⟨Py, hy⟩, ⟨Pz, hz⟩⟩ := paired2 ha
      obtain ⟨u1, u2, rfl, r1, r2⟩ := vals2 rxs
      obtain rfl := (show v = .ref a from rx)
      obtain ⟨b, rfl, hn⟩ := keyIs et hy r1
      refine get2N hd hn dd fun t => ?_
      cases eg : getN kvs kk with
      | none =>
        rw [(nd_get h7 rel).2 eg]
        exact ⟨z, H, I.tok _, r2, same rfl rfl (by rw [eg]; exact hz.ofD)⟩
      | some d' =>
        obtain ⟨p, z', ep, rz, dz⟩ := (nd_get h7 rel).1 _ eg
        rw [ep]
        exact ⟨z', H, I.tok _, rz, same rfl rfl (by rw [eg]; exact dz)⟩
  · rename_i kvs k
    obtain ⟨kk, et, e⟩ := Option.map_eq_some_iff.mp e
    cases e
    have hw' := hw
    cases hw' with
    | @dcn _ a us0 _ h5 h6 h7 =>
      rw [hG.1, hG.2] at h5
      obtain ⟨_, hd, _, ys, rel, dd⟩ := dn_of hK I g.sub h5 h7
      obtain ⟨y, rfl, Py, hy⟩ := paired1 ha
      obtain ⟨u1, rfl, r1⟩ := rxs.one
      obtain rfl := (show v = .ref a from rx)
      obtain ⟨b, rfl, hn⟩ := keyIs et hy r1
      refine get1N hd hn dd fun t => ?_
      cases eg : getN kvs kk with
      | none =>
        rw [(nd_get h7 rel).2 eg]
        exact ⟨.non, H, I.tok _, rfl, same rfl rfl (by rw [eg]; exact .non)⟩
      | some d' =>
        obtain ⟨p, z', ep, rz, dz⟩ := (nd_get h7 rel).1 _ eg
        rw [ep]
        exact ⟨z', H, I.tok _, rz, same rfl rfl (by rw [eg]; exact dz)⟩
  all_goals cases e
theorem mt_ok (hK : c.K = X.K) (hG : c.On X) (hu : X.A.units + 65 < cLine) (m : MI) : MtR X (miId m) (rM c m) := by
  cases m with
  | append => exact mt_app
  | extend => exact mt_ext
  | pop => exact mt_pops
  | setdefault => exact mt_setd
  | get => exact mt_get hK hG hu
end
end Ev
end

section
set_option Elab.async false
set_option linter.all false
set_option autoImplicit true
set_option maxRecDepth 100000
set_option maxHeartbeats 4000000
/-! EvM: calls of methods, targets. -/
namespace Ev
open PySem PySem.Spec PyProof.Rows L2
section
variable {c : Cfg} {Wx : WX} {T : Tb} {X : Cx} {σ : L2.St} {F F1 F2 F3 H H1 H2 H3 F' H' : Hp} {P P1 P2 P3 Pt Pn Pi Pw Pr : Addr → Prop} {env env1 env3 env' : Env} {rs : List R} {vs : List V} {i : Nat}
/-- the arguments of a method -/
def argsM (m : MI) (rs : List R) : M (List W) := if m.takes = true then each toW rs else each seeM rs
theorem args_run {m : MI} {ws : List W} (t : Tm c F H env σ P rs vs Pt) (e : argsM m rs env = some (.ok ws, env')) :
    ∃ F' P' Pw, SR c.K c.G F' H env' σ P' ∧ ArgOk c m F' H ws vs Pw ∧ Good F' H Pw ∧ (∀ a, P' a → ¬ Pw a) ∧ Step F H (fun a => P a ∨ Pt a) F' H (fun a => P' a ∨ Pw a) := by
  unfold argsM at e
  unfold ArgOk
  cases hm : m.takes with
  | true =>
    rw [hm, if_pos rfl] at e
    obtain ⟨F', P', Pw, S, hw, g, dj, st⟩ := Ev.each_toW t e
    exact ⟨F', P', Pw, S, by simpa using hw, g, dj, st⟩
  | false =>
    rw [hm, if_neg (by decide)] at e
    obtain ⟨rfl, hp⟩ := Ev.each_see t.sr t.rr e
    exact ⟨F, P, fun _ => False, t.sr, by simpa using hp, Good.none t.sr.good.sub, fun _ _ z => z, (Step.refl F H _).wide (fun _ h => h) fun a h => .inl (h.elim .inl fun z => z.elim)⟩
theorem argsM_ok {m : MI} {x : Exc} : argsM m rs env ≠ some (.ex x, env') := by
  unfold argsM
  split
  · exact each_ok (fun _ _ _ _ => toW_ok) _ _ _ _
  · exact each_ok (fun _ _ _ _ => see_ok) _ _ _ _
/-- a place is turned -/
theorem turn_run {α : Type} {j : Nat} {sel : List Nat} {f : W → Option (W × α)} {a : α} (S : SR c.K c.G F H env σ P) (g : Good F H Pw) (dj : ∀ a, P a → ¬ Pw a) {v0 x : V} (ev : σ[j]? = some (some v0)) (hp : PathV H v0 sel x) (e : turnAt j sel f env = some (.ok a, env')) :
    ∃ w1 P1 w2, WR c.K c.G F H w1 x P1 ∧ Good F H (fun a => P1 a ∨ Pw a) ∧ (∀ a, P1 a → ¬ Pw a) ∧ f w1 = some (w2, a) ∧ ∀ (F' H' : Hp) (P2 Pr : Addr → Prop), WR c.K c.G F' H' w2 x P2 → (∀ a, P2 a → ¬ Pr a) → Good F' H' (fun a => P2 a ∨ Pr a) → Step F H (fun a => P1 a ∨ Pw a) F' H' (fun a => P2 a ∨ Pr a) →
      ∃ P', SR c.K c.G F' H' env' σ P' ∧ (∀ a, P' a → ¬ Pr a) ∧ Step F H (fun a => P a ∨ Pw a) F' H' (fun a => P' a ∨ Pr a) := by
  unfold turnAt at e
  split at e
  · rename_i p w ei
    split at e
    · rename_i w1 ea
      split at e
      · rename_i w2 r ef
        split at e
        · rename_i w' ep
          cases e
          obtain ⟨v, u, P1, ev', hp', hw1, hs, hk⟩ := S.hole ei ea
          rw [ev] at ev'
          cases ev'
          obtain rfl := hp.fix hp'
          have gP1 : Good F H P1 := S.good.less hs
          refine ⟨w1, P1, w2, hw1, gP1.or g, fun a h => dj a (hs a h), ef, fun F' H' P2 Pr hw2 dj2 g2 st => ?_⟩
          have gQ : Good F H fun a => P a ∧ ¬ P1 a := S.good.less fun a h => h.1
          have djQ : ∀ a, (P1 a ∨ Pw a) → ¬ (P a ∧ ¬ P1 a) := fun a h z => h.elim z.2 (dj a z.1)
          obtain ⟨gQ', dQ', kQ⟩ := st.aside gQ djQ g2
          obtain ⟨w'', ep', S'⟩ := hk F' H' w2 P2 st.ext (fun a o ha hn eo => st.keep a o eo (.inl fun z => z.elim hn (dj a ha))) (fun a h2 h3 => by
            rcases st.frP a (.inl h2) with z | z
            · exact z.elim id fun z => (dj a h3 z).elim
            · exact (S.good.trk a h3 z).elim) hw2 (gQ'.or (g2.less fun a h => .inl h))
          rw [ep] at ep'
          cases ep'
          refine ⟨_, S', fun a h z => ?_, st.wide (fun a h => h.imp (hs a) id) fun a h => ?_⟩
          · rcases h with h | h
            · exact dQ' a (.inr z) h
            · exact dj2 a h z
          · rcases h with (h | h) | h
            · exact .inr (.inl (.inl h.1))
            · exact .inl (.inl h)
            · exact .inl (.inr h)
        · cases e
      · cases e
    · cases e
  · cases e
theorem turn_ok {α : Type} {j : Nat} {sel : List Nat} {f : W → Option (W × α)} {x : Exc} : turnAt j sel f env ≠ some (.ex x, env') := by
  intro h
  unfold turnAt at h
  split at h
  · split at h
    · split at h
      · split at h <;> cases h
      · cases h
    · cases h
  · cases h
theorem ag_ok {α β : Type} {Kp : β → Env → Prop} {m : M α} {f : α → M β} (hm : ∀ x env', m env1 ≠ some (.ex x, env')) (h : AftG c Wx σ F H P (bnd m f env1) Kp) : ∃ a env2, m env1 = some (.ok a, env2) ∧ AftG c Wx σ F H P (f a env2) Kp := by
  unfold bnd at h
  cases e : m env1 with
  | none => rw [e] at h; exact False.elim h
  | some p =>
    obtain ⟨p, env2⟩ := p
    rw [e] at h
    cases p with
    | ex x => exact (hm _ _ e).elim
    | ok a => exact ⟨a, env2, rfl, h⟩
/-- the end of a method's call -/
theorem meth_end {m : MI} {j : Nat} {sel : List Nat} {v0 x : V} {xs : List V} {ws : List W} {Q : VK} (S : SR c.K c.G F3 H3 env3 σ P3) (ha : ArgOk c m F3 H3 ws xs Pw) (g : Good F3 H3 Pw) (dj : ∀ a, P3 a → ¬ Pw a) (s : Step F H P F3 H3 fun a => P3 a ∨ Pw a)
    (ev : σ[j]? = some (some v0)) (hp : PathV H3 v0 sel x) (q : AftG c Wx σ F H P (bnd (turnAt j sel fun w => meW m w ws) (fun r => ret [toR r]) env3) fun rs env' => ∀ vs F' H' P' Pt, Tm c F' H' env' σ P' rs vs Pt → Step F H P F' H' (fun a => P' a ∨ Pt a) → ∃ v, vs = [v] ∧ Q v H') : rM c m x xs H3 Q := by
  obtain ⟨r, env4, e, q⟩ := ag_ok (fun _ _ => turn_ok) q
  obtain ⟨w1, P1, w2, hw1, g1, dj1, ef, k⟩ := turn_run S g dj ev hp e
  refine ⟨F3, w1, P1, ws, Pw, w2, r, g1, dj1, hw1, ha, ef, fun u F' H' P2 Pr hw2 hr dj2 g2 st => ?_⟩
  obtain ⟨P', S', dj', st'⟩ := k F' H' P2 Pr hw2 dj2 g2 st
  obtain ⟨v', ev, q⟩ := q [u] F' H' P' Pr ⟨S', RRs.mk1 (rr_toR hr), dj', g2.less fun a h => .inr h⟩ (s.trans st')
  cases ev
  exact q
theorem ev_meth {m : MI} {o es : E} : ev T (.meth m o es) = bnd (ev T o) fun xs => bnd (sole xs) fun x => match x with
    | .pth j sel => bnd (seeM (.pth j sel)) fun w0 => if m.fits w0 = false then fun _ => none else bnd (locked j sel (bnd (ev T es) (argsM m))) fun ws => bnd (turnAt j sel fun w => meW m w ws) fun r => ret [toR r]
    | _ => fun _ => none := by
  rw [ev]
  rfl
/-- the type that a method is looked up in -/
def tyX (X : Cx) (T : String) (x : V) (H : Hp) : Prop := ∀ (pins : List (Addr × Obj)) (σ : L2.St) (s : Shared) (v : Value), Inv X pins σ H s → RelV x v → s.TypeIs v T ∧ ∀ a, v = .ref a → ∃ ob, s.heap.get? a = some ob ∧ ob.dict = none
def tBX0 (X : Cx) (T : String) (r : V → List V → Hp → VK → Prop) (to : TE) : TE := fun σ H Q => to σ H fun x H1 => tyX X T x H1 ∧ r x [] H1 Q
def tBX (X : Cx) (T : String) (r : V → List V → Hp → VK → Prop) (to : TE) (t : TA) : TE := fun σ H Q => to σ H fun x H1 => tyX X T x H1 ∧ t σ H1 fun xs H2 => r x xs H2 Q
theorem pe_bx0 {T id : String} {name : Str} {o : Expr} {to : TE} {apos cpos : Pos} {r : V → List V → Hp → VK → Prop} (pa : PlainAttrs T) (slot : PySem.Slot T name id) (hty : typeOf (.builtin id) = pure (.type "method_descriptor")) (hm : MtR X id r) (ho : PE X o to)
    (hbase : attributeBase o name X.env (eval o X.env) = eval o X.env) (hline : (apos.endLine == cpos.line) = true) : PE X (.Call (.Attribute o name apos) [] [] cpos) (tBX0 X T r to) := by
  refine ⟨fun pins s σ H Q I h => ?_⟩
  refine wpAny_Call_method0_late hbase hline (thn (ho.run pins s σ H _ I h) fun v s1 ⟨x, H1, I1, r1, ty, q1⟩ => ?_)
  obtain ⟨h1, h2⟩ := ty _ _ _ _ I1 r1
  exact ⟨T, id, pa, slot, hty, h1, h2, Calls.callWith_builtin rfl (PySem.evalArgs_none (hm pins s1 σ H1 x [] v [] Q I1 r1 .nil q1))⟩
theorem pe_bx {T id : String} {name : Str} {o e : Expr} {es : List Expr} {to : TE} {t : TA} {apos cpos : Pos} {r : V → List V → Hp → VK → Prop} (pa : PlainAttrs T) (slot : PySem.Slot T name id) (hty : typeOf (.builtin id) = pure (.type "method_descriptor")) (hm : MtR X id r) (ho : PE X o to) (ha : PA X (e :: es) t)
    (hbase : attributeBase o name X.env (eval o X.env) = eval o X.env)
    (hfew : ((backTo cpos (starEach (e :: es) X.env)).all (fun x => !x.1) && (backToKw cpos (keywordEach [] X.env)).all (fun x => x.1.isSome)
      && decide ((e :: es).length + ([] : List Keyword).length + (if ([] : List Keyword).isEmpty then 0 else 1) < 30)) = true)
    (hline : (apos.endLine == cpos.line) = true) (hs : starEach (e :: es) X.env = (false, eval e X.env) :: starEach es X.env) (hplain : (backTo cpos (starEach es X.env)).any (·.1) = false) :
    PE X (.Call (.Attribute o name apos) (e :: es) [] cpos) (tBX X T r to t) := by
  refine ⟨fun pins s σ H Q I h => ?_⟩
  refine wpAny_Call_method_late hbase hfew hline rfl (thn (ho.run pins s σ H _ I h) fun v s1 ⟨x, H1, I1, r1, ty, q1⟩ => ?_)
  obtain ⟨h1, h2⟩ := ty _ _ _ _ I1 r1
  refine ⟨T, id, pa, slot, hty, h1, h2, ?_⟩
  have hA := ha.run cpos pins s1 σ H1 _ I1 q1
  rw [hs] at hA ⊢
  refine Calls.callWith_builtin (by show (false || (backTo cpos (starEach es X.env)).any (·.1)) = false; rw [hplain] <;> rfl) (Calls.evalArgs_plain ?_)
  exact thn hA fun us s2 ⟨vs, H2, I2, r2, q2⟩ => hm pins s2 σ H2 x vs v us Q I2 r1 r2 q2
theorem fits_ty {m : MI} {w : W} {v : V} {P0 : Addr → Prop} (hK : c.K = X.K) (hG : c.On X) (sb : Sub F H) (h : WR c.K c.G F H w v P0) (hf : m.fits w = true) : tyX X (miT m) v H := by
  unfold MI.fits at hf
  split at hf
  · cases h with
    | lst h1 h2 h3 h4 => exact fun pins σ s u I r => tyV_is I r (.inl ⟨by unfold miT; rw [hf]; rfl, _, SqL.of h1⟩)
  · cases h with
    | dct h1 h2 h3 =>
      refine fun pins σ s u I r => tyV_is I r (.inr (.inr (.inl ⟨?_, .inl ⟨_, h1⟩⟩)))
      unfold miT
      cases hm : m.ofL with
      | true => rw [hm] at hf; cases hf
      | false => rfl
  · cases h with
    | dcn h5 h6 h7 =>
      intro pins σ s u I r
      obtain rfl := (show u = .ref _ from r)
      rw [hG.1, hG.2] at h5
      obtain ⟨_, _, _, ys, _, dd⟩ := dn_of hK I sb h5 h7
      have em : miT m = "dict" := by
        unfold miT
        cases hm : m.ofL with
        | true => rw [hm] at hf; cases hf
        | false => rfl
      rw [em]
      refine ⟨dd.typeIs, fun a ea => ?_⟩
      cases ea
      obtain ⟨o, _, _, e1, e2, _⟩ := dd
      exact ⟨o, e1, e2.2.1⟩
  · cases hf
theorem rd_meth {m : MI} {o es : E} {Q : VK} (hK : c.K = X.K) (hG : c.On X) (q : rdE c Wx T (.meth m o es) σ H Q) : tBX X (miT m) (rM c m) (rdE c Wx T o) (rdA c Wx T es) σ H Q := by
  obtain ⟨F, P, env, S, q⟩ := q
  rw [ev_meth] at q
  refine ⟨F, P, env, S, Aft.fst q S fun rs env1 vs F1 H1 P1 Pt _ t s q => ?_⟩
  obtain ⟨r, rfl, q⟩ := q.sole
  obtain ⟨v, rfl, hr⟩ := t.rr.one
  refine ⟨v, rfl, ?_⟩
  cases r with
  | d x => exact False.elim q
  | own w => exact False.elim q
  | pth j sel =>
    have q : AftG c Wx σ F H P (bnd (seeM (.pth j sel)) (fun w0 => if m.fits w0 = false then fun _ => none else bnd (locked j sel (bnd (ev T es) (argsM m))) fun ws => bnd (turnAt j sel fun w => meW m w ws) fun r => ret [toR r]) env1) _ := q
    obtain ⟨w0, e0, q⟩ := q.see
    by_cases hf : m.fits w0 = false
    · rw [if_pos hf] at q; exact False.elim q
    rw [if_neg hf] at q
    have hf : m.fits w0 = true := by simpa using hf
    obtain ⟨P0, hw0, _⟩ := hr.see t.sr e0
    refine ⟨fits_ty hK hG t.sr.good.sub hw0 hf, ?_⟩
    cases hr with
    | @pth _ _ v0 _ _ q1 q2 =>
      cases sel with
      | nil =>
        refine ⟨F1, P1, env1, t.sr, Aft.seq (AftG.assoc (show AftG c Wx σ F H P (bnd (bnd (ev T es) (argsM m)) _ env1) _ from q)) t (by simp [R.held]) s fun rs2 env2 vs2 F2 H2 P2 Pt2 _ t' t2 s2 q => ?_⟩
        obtain ⟨ws, env3, e3, q⟩ := ag_ok (fun _ _ => argsM_ok) q
        obtain ⟨F3, P3, Pw, S3, ha, g3, dj3, st3⟩ := args_run t2 e3
        have s2' : Step F H P F2 H2 fun a => P2 a ∨ Pt2 a := s2.wide (fun _ h => h) fun a h => .inl (h.imp id .inr)
        exact meth_end S3 ha g3 dj3 (s2'.trans st3) q1 (show PathV H2 v0 [] v from q2) q
      | cons k sel =>
        obtain ⟨sl, ws, e, ej, em, el, q⟩ := AftG.locked q
        have e0' : look env1 j (k :: sel) = some w0 := e0
        unfold look at e0'
        rw [ej] at e0'
        obtain ⟨p, w, rfl⟩ : ∃ p w, sl = .ok p w := by
          cases sl with
          | no => cases e0'
          | lck => cases e0'
          | ok p w => exact ⟨p, w, rfl⟩
        have e0' : w.at (k :: sel) = some w0 := e0'
        obtain ⟨v0', Pj, ev, hw, hs, S'⟩ := t.sr.lock ej
        rw [q1] at ev
        cases ev
        obtain ⟨rs2, env2, em, eg⟩ := bnd_ok em
        refine ⟨F1, _, _, S', ?_⟩
        rw [em]
        intro vs2 F2 H2 P2 Pt2 t2 s2
        obtain ⟨F3, P3, Pw, S3, ha, g3, dj3, st3⟩ := args_run t2 eg
        have st := s2.trans st3
        obtain ⟨g2, d2, k2⟩ := st.aside (t.sr.good.less hs) (fun a h => h.2) (S3.good.or g3)
        have hw2 : WR c.K c.G F3 H2 w v0 Pj := hw.stay st.ext k2
        have S4 := S3.put (p := p) q1 hw2 g2 fun a h => d2 a (.inl h)
        have hp2 : PathV H2 v0 (k :: sel) v := by
          obtain ⟨u1, P1', hp, hw1, hs1, _⟩ := hw.hole e0'
          have keep : ∀ (sel : List Nat) (w : W) (v0 u : V) (Pj : Addr → Prop) (w0 : W), WR c.K c.G F1 H1 w v0 Pj → (∀ a o, Pj a → H1 a = some o → H2 a = some o) → w.at sel = some w0 → PathV H1 v0 sel u → PathV H2 v0 sel u := by
            intro sel
            induction sel with
            | nil => intro _ _ _ _ _ _ _ _ h; exact h
            | cons k sel ih =>
              intro w v0 u Pj w0 hw kp ea hp
              obtain ⟨a, us, v', rfl, q1, q2, q3⟩ := hp
              cases w with
              | lst ws =>
                cases hw with
                | @lst _ _ vs' _ P' z1 z2 z3 z4 =>
                  rw [q1] at z1
                  cases z1
                  rw [W.at] at ea
                  cases ek : ws[k]? with
                  | none => rw [ek] at ea; cases ea
                  | some wk =>
                    rw [ek] at ea
                    obtain ⟨y, Py, ey, hy, hsy⟩ := z4.nth ek
                    rw [q2] at ey
                    cases ey
                    exact ⟨a, us, v', rfl, kp _ _ z2 q1, q2, ih wk v' u Py w0 hy (fun b o hb eb => kp b o (z3 b (hsy b hb)).1 eb) ea q3⟩
              | d _ => simp [W.at] at ea
              | dct _ _ => simp [W.at] at ea
              | dcn _ => simp [W.at] at ea
              | scr _ => simp [W.at] at ea
          exact keep (k :: sel) w v0 v Pj w0 hw k2 e0' q2
        refine meth_end S4 ha g3 (fun a h z => ?_) (s.trans (st.wide (fun a h => .inl h.1) fun a h => ?_)) q1 hp2 q
        · rcases h with h | h
          · exact dj3 a h z
          · exact d2 a (.inr z) h
        · rcases h with (h | h) | h
          · exact .inl (.inl h)
          · exact .inr (.inl (.inl (hs a h)))
          · exact .inl (.inr h)
theorem e_meth {m : MI} {o e : Expr} {es : List Expr} {o' es' : E} {apos cpos : Pos} (hK : c.K = X.K) (hG : c.On X) (hu : X.A.units + 65 < cLine) (ho : PE X o (rdE c Wx T o')) (ha : PA X (e :: es) (rdA c Wx T es'))
    (hbase : attributeBase o (miName m) X.env (eval o X.env) = eval o X.env)
    (hfew : ((backTo cpos (starEach (e :: es) X.env)).all (fun x => !x.1) && (backToKw cpos (keywordEach [] X.env)).all (fun x => x.1.isSome)
      && decide ((e :: es).length + ([] : List Keyword).length + (if ([] : List Keyword).isEmpty then 0 else 1) < 30)) = true)
    (hline : (apos.endLine == cpos.line) = true) (hs : starEach (e :: es) X.env = (false, eval e X.env) :: starEach es X.env) (hplain : (backTo cpos (starEach es X.env)).any (·.1) = false) :
    PE X (.Call (.Attribute o (miName m) apos) (e :: es) [] cpos) (rdE c Wx T (.meth m o' es')) :=
  let ⟨pa, sl, ty⟩ := mi_slot m
  (pe_bx pa sl ty (mt_ok hK hG hu m) ho ha hbase hfew hline hs hplain).imp fun _ _ _ => rd_meth hK hG
theorem e_meth0 {m : MI} {o : Expr} {o' : E} {apos cpos : Pos} (hK : c.K = X.K) (hG : c.On X) (hu : X.A.units + 65 < cLine) (ho : PE X o (rdE c Wx T o'))
    (hbase : attributeBase o (miName m) X.env (eval o X.env) = eval o X.env) (hline : (apos.endLine == cpos.line) = true) : PE X (.Call (.Attribute o (miName m) apos) [] [] cpos) (rdE c Wx T (.meth m o' .nil)) := by
  obtain ⟨pa, sl, ty⟩ := mi_slot m
  refine (pe_bx0 pa sl ty (mt_ok (c := c) hK hG hu m) ho hbase hline).imp fun σ H Q q => ?_
  obtain ⟨F, P, env, S, q⟩ := rd_meth hK hG q
  refine ⟨F, P, env, S, AftG.from_ q (Step.refl F H P) fun rs env1 k vs F1 H1 P1 Pt t s => ?_⟩
  obtain ⟨v, ev, ty, F2, P2, env2, S2, q⟩ := k vs F1 H1 P1 Pt t s
  refine ⟨v, ev, ty, ?_⟩
  rw [Ev.ev] at q
  exact q [] F2 H1 P2 _ (Tm.nil S2) (nilStep S2)
end
end Ev
end

section
set_option Elab.async false
set_option linter.all false
set_option autoImplicit true
set_option maxRecDepth 100000
set_option maxHeartbeats 4000000
/-! EvN: targets. -/
namespace Ev
open PySem PySem.Spec PyProof.Rows L2
section
variable {c : Cfg} {Wx : WX} {T : Tb} {X : Cx} {σ : L2.St} {F F1 F2 F3 H H1 H2 H3 F' H' : Hp} {P P1 P2 P3 Pt Pn Pi Pw Pr : Addr → Prop} {env env1 env3 env' : Env} {rs : List R} {vs : List V} {i : Nat}
/-- o[i] = x by values -/
def rS (c : Cfg) : TSet := fun o i v H Q => ∃ F w P iw P0 x Pw w2, Good F H (fun a => P a ∨ Pw a) ∧ (∀ a, P a → ¬ Pw a) ∧ WR c.K c.G F H w o P ∧ WR c.K c.G F H iw i P0 ∧ WR c.K c.G F H x v Pw ∧ stW w iw x = some w2 ∧
  ∀ H' P2, WR c.K c.G F H' w2 o P2 → Good F H' P2 → Step F H (fun a => P a ∨ Pw a) F H' P2 → Q H'
theorem WRs.put {x : W} {y : V} : ∀ {ws : List W} {vs : List V} {P : Addr → Prop} {k : Nat}, WRs c.K c.G F H ws vs P → k < ws.length → WR c.K c.G F H x y Pw → (∀ a, P a → ¬ Pw a) → WRs c.K c.G F H (ws.set k x) (vs.set k y) fun a => P a ∨ Pw a
  | [], _, _, k, h, hk, _, _ => by simp at hk
  | w0 :: ws, _, _, 0, h, hk, hx, dj => by
    cases h with
    | cons h1 h2 h3 h4 => exact .cons (P1 := Pw) (fun b hb => ⟨.inr hb, fun z => dj b (h2 b z) hb⟩) (fun b hb => .inl (h2 b hb)) hx h4
  | w0 :: ws, _, _, k + 1, h, hk, hx, dj => by
    cases h with
    | @cons _ _ _ _ P Q1 Q2 h1 h2 h3 h4 =>
      exact .cons (P1 := Q1) (P2 := fun a => Q2 a ∨ Pw a) (fun b hb => ⟨.inl (h1 b hb).1, fun z => z.elim (h1 b hb).2 (dj b (h1 b hb).1)⟩) (fun b hb => hb.imp (h2 b) id) h3 (WRs.put h4 (by simpa using hk) hx fun a h => dj a (h2 a h))
theorem set_W (hK : c.K = X.K) (hG : c.On X) (hu0 : X.A.units + 65 < cLine) : PSet X (rS c) := by
  have hu : X.A.units + 1 < cLine := by omega
  intro pins s σ H o i v ov iv u Q I ro ri rv ⟨F, w, P, iw, P0, x, Pw, w2, g, dj, hw, hi, hx, e, q⟩
  unfold stW at e
  split at e
  · rename_i ws j
    cases ek : ixN ws.length j with
    | none => rw [ek] at e; cases e
    | some k =>
      rw [ek] at e
      cases e
      obtain rfl := hi.ofInt
      cases hw with
      | @lst _ l us _ P' h1 h2 h3 h4 =>
        have nl : ∀ b, Pw b → b ≠ l := fun b hb z => by subst z; exact dj b h2 hb
        refine set_list pins s σ H _ _ v ov iv u Q I ro ri rv ⟨l, us, j, k, rfl, rfl, h1, by rw [← h4.length]; exact ek, ?_⟩
        refine q _ (fun a => P a ∨ Pw a) ?_ (g.updP (.inl h2) fun a h => h) (Step.updP (.inl h2) h1 (fun z => z) fun a h => h)
        refine .lst (P' := fun a => P' a ∨ Pw a) upd_at (.inl h2) (fun b hb => ⟨hb.imp (fun h => (h3 b h).1) id, hb.elim (fun h => (h3 b h).2) (nl b)⟩) ?_
        exact (lst_up h4 fun b hb => (h3 b hb).2).put (ixN_seq ek).2.1 (wr_up hx nl) fun a h => dj a (h3 a h).1
  · rename_i kvs k
    split at e
    · rename_i kk d ek
      split at e
      · rename_i hz
        cases e
        obtain rfl := kV_of hi ek
        have dx := hx.ofD
        cases hw with
        | @dct _ l us _ h1 h2 h3 =>
          refine set_dict hu pins s σ H _ _ v ov iv u Q I ro ri rv ⟨l, _, rfl, DPut.k h1 (by rw [kd_len h3]; exact big_lt hz), ?_⟩
          exact q _ (fun a => P a ∨ Pw a) (.dct upd_at (.inl h2) (kd_put dx h3)) (g.updP (.inl h2) fun a h => h) (Step.updP (.inl h2) h1 (fun z => z) fun a h => h)
      · cases e
    · rename_i d ek
      split at e
      · rename_i he
        obtain ⟨kk, et, e⟩ := Option.map_eq_some_iff.mp e
        cases e
        obtain rfl : kvs = [] := by simpa using he
        obtain ⟨⟨xs, rfl⟩, hk, hdp⟩ := tupK_ok et
        have dx := hx.ofD
        cases hw with
        | @dct _ l us _ h1 h2 h3 =>
          cases h3
          obtain ⟨hd, dd⟩ := dn_empty I (.inl h1) rfl
          cases hi with
          | d hi =>
            cases hi with
            | @tup b _ _ h8 h9 =>
              obtain rfl := (show ov = .ref l from ro)
              obtain rfl := (show iv = .ref b from ri)
              refine putN_item hK hu0 hG rfl I g.sub (by rw [h1]; trivial) (vs := []) (by rw [sizeLine_eq]; decide) hd (by simp) hdp .nil (b := b) (by rw [hk]; exact .tup h8 h9) dx rv [] .nil dd fun s' I' nd => ⟨_, I', ?_⟩
              exact q _ (fun a => P a ∨ Pw a) (.dcn upd_at (.inl h2) nd) (g.updP (.inl h2) fun a h => h) (Step.updP (.inl h2) h1 (fun z => z) fun a h => h)
      · cases e
    · cases e
  · rename_i kvs k
    split at e
    · rename_i kk d et
      split at e
      · rename_i hz
        cases e
        obtain ⟨⟨xs, rfl⟩, hk, hdp⟩ := tupK_ok et
        have dx := hx.ofD
        cases hw with
        | @dcn _ l us _ h1 h2 h3 =>
          have h1' := h1
          rw [hG.1, hG.2] at h1'
          obtain ⟨_, hd, hdps, ys, rel, dd⟩ := dn_of hK I g.sub h1' h3
          cases hi with
          | d hi =>
            cases hi with
            | @tup b _ _ h8 h9 =>
              obtain rfl := (show ov = .ref l from ro)
              obtain rfl := (show iv = .ref b from ri)
              refine putN_item hK hu0 hG rfl I g.sub (by rw [h1]; trivial) (by rw [h3.length]; exact big_lt hz) hd hdps hdp h3 (b := b) (by rw [hk]; exact .tup h8 h9) dx rv ys rel dd fun s' I' nd => ⟨_, I', ?_⟩
              exact q _ (fun a => P a ∨ Pw a) (.dcn upd_at (.inl h2) nd) (g.updP (.inl h2) fun a h => h) (Step.updP (.inl h2) h1 (fun z => z) fun a h => h)
      · cases e
    · cases e
  · cases e
/-! ### targets: one, several (of data) -/
/-- only these slots are new -/
def Only (l : List Nat) (σ σ' : L2.St) : Prop := σ'.length = σ.length ∧ ∀ j, j ∉ l → σ'[j]? = σ[j]?
theorem Only.refl {l : List Nat} : Only l σ σ := ⟨rfl, fun _ _ => rfl⟩
theorem Only.trans {l l' : List Nat} {σ1 σ2 : L2.St} (a : Only l σ σ1) (b : Only l' σ1 σ2) : Only (l ++ l') σ σ2 := ⟨b.1.trans a.1, fun j h => (b.2 j fun z => h (List.mem_append_right _ z)).trans (a.2 j fun z => h (List.mem_append_left _ z))⟩
theorem Only.set {i : Nat} {v : Option V} : Only [i] σ (σ.set i v) := ⟨by simp, fun j h => List.getElem?_set_ne (fun z => h (by simp [z]))⟩
theorem wipe_get : ∀ {l : List Nat} {σ : L2.St} {j : Nat}, (wipe σ l)[j]? = if j ∈ l ∧ j < σ.length then some none else σ[j]?
  | [], σ, j => by simp [wipe]
  | v :: l, σ, j => by
    unfold wipe
    by_cases hj : v = j
    · subst hj
      by_cases hl : v < σ.length
      · rw [List.getElem?_set_self (by rw [wipe_length]; exact hl)]
        simp [hl]
      · rw [List.getElem?_eq_none (by rw [List.length_set, wipe_length]; omega)]
        simp only [hl, and_false, if_false]
        rw [List.getElem?_eq_none (by omega)]
    · rw [List.getElem?_set_ne hj, wipe_get]
      have : j ∈ v :: l ↔ j ∈ l := by simp [Ne.symm hj]
      simp only [this]
theorem Only.wipe {l vs : List Nat} {σ' : L2.St} (h : Only l σ σ') (hs : ∀ i ∈ l, i ∈ vs) : L2.wipe σ' vs = L2.wipe σ vs := by
  apply List.ext_getElem?
  intro j
  rw [wipe_get, wipe_get, h.1]
  by_cases hj : j ∈ vs ∧ j < σ.length
  · rw [if_pos hj, if_pos hj]
  · rw [if_neg hj, if_neg hj]
    by_cases hl : j ∈ l
    · have : ¬ j < σ.length := fun z => hj ⟨hs j hl, z⟩
      rw [List.getElem?_eq_none (l := σ) (by omega), List.getElem?_eq_none (l := σ') (by rw [h.1]; omega)]
    · exact h.2 j hl
def rdG (c : Cfg) (T : Tb) (t : E) : TG := fun v σ H Q => ∃ F P env Pt r env', Tm c F H env σ P [r] [v] Pt ∧ asg T t [r] env = some (.ok (), env') ∧
  ∀ σ' F' H' P', SR c.K c.G F' H' env' σ' P' → Step F H (fun a => P a ∨ Pt a) F' H' P' → Only t.names σ σ' → Q σ' H'
def rdGs (c : Cfg) (T : Tb) (t : E) : TGs := fun vs σ H Q => ∃ F P env xs env', SR c.K c.G F H env σ P ∧ DRs c.K c.G F vs xs ∧ asg T t (xs.map .d) env = some (.ok (), env') ∧
  ∀ σ' F' H' P', SR c.K c.G F' H' env' σ' P' → Step F H P F' H' P' → Only t.names σ σ' → Q σ' H'
theorem SR.name {p : Bool} {w : W} {v : V} (S : SR c.K c.G F H env σ P) (hi : i < env.length) (hw : WR c.K c.G F H w v Pi) (g : Good F H Pi) (dj : ∀ a, P a → ¬ Pi a) : SR c.K c.G F H (env.set i (.ok p w)) (σ.set i (some v)) fun a => P a ∨ Pi a := by
  obtain ⟨Ps, h1, h2, h3⟩ := S.rel
  have hs : i < σ.length := by rw [← S.len]; exact hi
  refine ⟨by simpa using S.len, S.good.or g, fun j a => if j = i then Pi a else Ps j a, fun j a h => ?_, fun j k a h h' => ?_, fun j q z ez => ?_⟩
  · by_cases hj : j = i
    · simp only [hj, if_true] at h; exact .inr h
    · simp only [hj, if_false] at h; exact .inl (h1 j a h)
  · by_cases hj : j = i <;> by_cases hk : k = i
    · rw [hj, hk]
    · simp only [hj, if_true] at h; simp only [hk, if_false] at h'; exact (dj a (h1 k a h') h).elim
    · simp only [hj, if_false] at h; simp only [hk, if_true] at h'; exact (dj a (h1 j a h) h').elim
    · simp only [hj, if_false] at h; simp only [hk, if_false] at h'; exact h2 j k a h h'
  · by_cases hj : j = i
    · subst hj
      rw [List.getElem?_set_self hi] at ez
      cases ez
      exact ⟨v, List.getElem?_set_self hs, by simpa using hw⟩
    · rw [List.getElem?_set_ne (Ne.symm hj)] at ez
      obtain ⟨vj, e1, hw⟩ := h3 j q z ez
      exact ⟨vj, by rw [List.getElem?_set_ne (Ne.symm hj)]; exact e1, by simpa only [hj, if_false] using hw⟩
theorem setSlot_ok {w : W} {r : Res Unit} (h : setSlot i w env = some (r, env')) : r = .ok () ∧ env' = env.set i (.ok false w) ∧ i < env.length := by
  unfold setSlot at h
  split at h
  · rename_i e; cases h; exact ⟨rfl, rfl, (List.getElem?_eq_some_iff.mp e).1⟩
  · rename_i e; cases h; exact ⟨rfl, rfl, (List.getElem?_eq_some_iff.mp e).1⟩
  · cases h
theorem g_name {x : Str} {pos : Pos} (hN : X.N.Nodup) (hi : X.N[i]? = some x) (hx : Loc X.env.scope x) (hf : X.fn x = true ∨ X.env.scope.names.lookup x = some .local) : PG X (.Name x pos) (rdG c T (.var i)) := by
  refine ⟨fun pins s σ H v u Q I rv ⟨F, P, env, Pt, r, env', t, e, q⟩ => (pg_name hN hi hx hf).run pins s σ H v u Q I rv ?_⟩
  rw [asg] at e
  obtain ⟨w, env1, e1, e2⟩ := bnd_ok e
  obtain ⟨_, rfl, hl⟩ := setSlot_ok e2
  obtain ⟨F1, P1, Pr, Pt', hw, g, dj, t', st⟩ := toW_run t e1
  have S' := t'.sr.name (p := false) hl hw g fun a h => dj a (.inl h)
  exact q _ F1 H _ S' (st.wide (fun _ h => h) fun a h => .inl (h.imp .inl id)) Only.set
theorem gs_nil : PGs X [] (rdGs c T .nil) := by
  refine ⟨fun pins s σ H vs us Q I rv ⟨F, P, env, xs, env', S, d, e, q⟩ => pgs_nil.run pins s σ H vs us Q I rv ?_⟩
  cases xs with
  | nil =>
    cases d
    rw [List.map_nil, asg] at e
    cases e
    exact ⟨rfl, q σ F H P S (Step.refl F H P) Only.refl⟩
  | cons x xs => rw [List.map_cons] at e; rw [asg] at e <;> first | (cases e; done) | (intros; contradiction) | simp
theorem gs_cons {e : Expr} {es : List Expr} {t ts : E} (h1 : PG X e (rdG c T t)) (h2 : PGs X es (rdGs c T ts))
    (hs : (assignEach (e :: es) X.env).map (·.2) = assign e X.env :: (assignEach es X.env).map (·.2)) : PGs X (e :: es) (rdGs c T (.cons t ts)) := by
  refine ⟨fun pins s σ H vs us Q I rv ⟨F, P, env, xs, env', S, d, e, q⟩ => (pgs_cons h1 h2 hs).run pins s σ H vs us Q I rv ?_⟩
  cases d with
  | nil => rw [List.map_nil] at e; rw [asg] at e <;> first | (cases e; done) | (intros; contradiction) | simp
  | @cons v vs' x xs' dx ds =>
    rw [List.map_cons, asg] at e
    obtain ⟨_, env1, e1, e2⟩ := bnd_ok e
    refine ⟨v, vs', rfl, F, P, env, fun _ => False, .d x, env1, ⟨S, RRs.mk1 (.d dx), fun _ _ z => z, Good.none S.good.sub⟩, e1, fun σ1 F1 H1 P1 S1 s1 o1 => ?_⟩
    refine ⟨F1, P1, env1, xs', env', S1, ds.mono s1.ext, e2, fun σ2 F2 H2 P2 S2 s2 o2 => q σ2 F2 H2 P2 S2 ?_ (o1.trans o2)⟩
    exact (s1.wide (Q := P) (fun a h => h.elim id fun z => z.elim) fun a h => .inl h).trans s2
def gTupA (K : PySem.W.Frag) (n : Nat) (t : TGs) : TG := fun v σ H Q => ∃ a xs, v = .ref a ∧ (SqT K H a xs ∨ SqL K H a xs) ∧ xs.length = n ∧ t xs σ H Q
theorem pg_tupA {es : List Expr} {k : Nat} {t : TGs} {n : Nat} {pos : Pos} (hc : X.calm = true) (h : PGs X es t)
    (hn : (assignEach es X.env).length = n) (hst : (assignEach es X.env).findIdx? (·.1) = none) : PG X (.Tuple es k pos) (gTupA X.K n t) := by
  refine ⟨fun pins s σ H v u Q I r hw => ?_⟩
  obtain ⟨a, xs, e1, hq, hl, hw⟩ := hw
  subst e1
  rcases hq with hq | hq
  · exact (pg_tup hc h hn hst).run pins s σ H _ u Q I r ⟨a, xs, rfl, hq, hl, hw⟩
  · cases r
    obtain ⟨its, rv, pl, hz⟩ := I.list hq
    have hl' : s.heap.IsList a its.toArray := pl.isList
    have hn' : (assignEach es X.env).length = its.toArray.size := hn.trans (hl.symm.trans (rv.length.trans (by simp)))
    rw [PyProof.Rows.assign_Tuple]
    refine wpAny_bind (wpAny_standAt ?_)
    unfold unpack
    rw [hn', hst]
    refine wpAny_bind (wpAny_holding (PySem.W.kun_itemsOf (I.ok.hd hc) hl' fun h' hx => ?_))
    have I1 : Inv X pins σ H { s with heap := h' } := I.kept (t' := s.toks) fun b o e => hx b o (Nat.ne_of_lt (Heap.lt_size e)) e
    exact h.run pins _ σ H xs _ Q I1 (by simpa using rv) hw
theorem g_tup {es : List Expr} {k : Nat} {ts : E} {n : Nat} {pos : Pos} (hK : c.K = X.K) (hc : X.calm = true) (h : PGs X es (rdGs c T ts)) (hn : (assignEach es X.env).length = n) (hst : (assignEach es X.env).findIdx? (·.1) = none)
    (hlen : ∀ rs env env', asg T ts rs env = some (.ok (), env') → rs.length = n) : PG X (.Tuple es k pos) (rdG c T (.tup ts)) := by
  refine ⟨fun pins s σ H v u Q I rv ⟨F, P, env, Pt, r, env', t, e, q⟩ => (pg_tupA hc h hn hst).run pins s σ H v u Q I rv ?_⟩
  rw [asg] at e
  obtain ⟨w, env1, e1, e2⟩ := bnd_ok e
  obtain ⟨es', e5⟩ := seeM_ok e1
  rw [e5] at e2
  obtain ⟨P0, hw⟩ := t.look1 es'
  split at e2
  · rename_i xs
    obtain ⟨a, vs, rfl, _, ha, da⟩ := hw.ofTup t.sr.good.sub
    rw [hK] at ha
    have hl := hlen _ _ _ e2
    rw [List.length_map] at hl
    refine ⟨a, vs, rfl, .inl ha, by rw [da.length]; exact hl, F, P, env, xs, env', t.sr, da, e2, fun σ' F' H' P' S' st o => q σ' F' H' P' S' (st.wide (fun _ h => .inl h) fun _ h => .inl h) o⟩
  · cases es : seqD w with
    | none =>
      simp only [es] at e2
      cases e2
    | some xs =>
      simp only [es] at e2
      obtain ⟨a, vs, rfl, ha, da⟩ := hw.ofSeq t.sr.good.sub es
      have hl := hlen _ _ _ e2
      rw [List.length_map] at hl
      refine ⟨a, vs, rfl, .inr (SqL.of ha), by rw [da.length]; exact hl, F, P, env, xs, env', t.sr, da, e2, fun σ' F' H' P' S' st o => q σ' F' H' P' S' (st.wide (fun _ h => .inl h) fun _ h => .inl h) o⟩
/-- how many targets -/
def E.count : E → Nat
  | .cons _ b => b.count + 1
  | _ => 0
def E.isL : E → Bool
  | .nil => true
  | .cons _ b => b.isL
  | _ => false
theorem asg_len : ∀ {ts : E} {rs : List R} {env env' : Env}, ts.isL = true → asg T ts rs env = some (.ok (), env') → rs.length = ts.count
  | .nil, rs, env, env', _, e => by
    cases rs with
    | nil => rfl
    | cons r rs => rw [asg] at e <;> first | (cases e; done) | (intros; contradiction) | simp
  | .cons a b, rs, env, env', h, e => by
    cases rs with
    | nil => rw [asg] at e <;> first | (cases e; done) | (intros; contradiction) | simp
    | cons r rs =>
      rw [asg] at e
      obtain ⟨_, env1, e1, e2⟩ := bnd_ok e
      show rs.length + 1 = b.count + 1
      rw [asg_len (ts := b) h e2]
theorem calm_ok {α : Type} {m : M α} {r : Res α} (h : calm m env = some (r, env')) : ∃ a, r = .ok a ∧ m env = some (.ok a, env') := by
  unfold calm at h
  split at h
  · rename_i a e hm; cases h; exact ⟨a, rfl, hm⟩
  · cases h
/-- the end of a store -/
theorem store_end {j : Nat} {sel : List Nat} {v0 o iv v : V} {iw x : W} {Q : Hp → Prop} {P0 : Addr → Prop} (S : SR c.K c.G F3 H3 env3 σ P3) (g : Good F3 H3 Pw) (dj : ∀ a, P3 a → ¬ Pw a) (ev : σ[j]? = some (some v0)) (hp : PathV H3 v0 sel o) (hi : WR c.K c.G F3 H3 iw iv P0) (hx : WR c.K c.G F3 H3 x v Pw)
    (e : turnAt j sel (fun w => (stW w iw x).map fun w' => (w', ())) env3 = some (.ok (), env')) (q : ∀ F' H' P', SR c.K c.G F' H' env' σ P' → Step F3 H3 (fun a => P3 a ∨ Pw a) F' H' P' → Q H') : rS c o iv v H3 Q := by
  obtain ⟨w1, P1, w2, hw1, g1, dj1, ef, k⟩ := turn_run S g dj ev hp e
  cases es : stW w1 iw x with
  | none => rw [es] at ef; cases ef
  | some w2' =>
    rw [es] at ef
    cases ef
    refine ⟨F3, w1, P1, iw, P0, x, Pw, w2, g1, dj1, hw1, hi, hx, es, fun H' P2 hw2 g2 st => ?_⟩
    obtain ⟨P', S', _, st'⟩ := k F3 H' P2 (fun _ => False) hw2 (fun _ _ z => z) (g2.less fun a h => h.elim id fun z => z.elim) (st.wide (fun _ h => h) fun a h => .inl (h.elim id fun z => z.elim))
    exact q F3 H' P' S' (st'.wide (fun _ h => h) fun a h => .inl (.inl h))
theorem path_keep {H2 : Hp} : ∀ (sel : List Nat) (w : W) (v0 u : V) (Pj : Addr → Prop) (w0 : W), WR c.K c.G F1 H1 w v0 Pj → (∀ a o, Pj a → H1 a = some o → H2 a = some o) → w.at sel = some w0 → PathV H1 v0 sel u → PathV H2 v0 sel u := by
  intro sel
  induction sel with
  | nil => intro _ _ _ _ _ _ _ _ h; exact h
  | cons k sel ih =>
    intro w v0 u Pj w0 hw kp ea hp
    obtain ⟨a, us, v', rfl, q1, q2, q3⟩ := hp
    cases w with
    | lst ws =>
      cases hw with
      | @lst _ _ vs' _ P' z1 z2 z3 z4 =>
        rw [q1] at z1
        cases z1
        rw [W.at] at ea
        cases ek : ws[k]? with
        | none => rw [ek] at ea; cases ea
        | some wk =>
          rw [ek] at ea
          obtain ⟨y, Py, ey, hy, hsy⟩ := z4.nth ek
          rw [q2] at ey
          cases ey
          exact ⟨a, us, v', rfl, kp _ _ z2 q1, q2, ih wk v' u Py w0 hy (fun b o hb eb => kp b o (z3 b (hsy b hb)).1 eb) ea q3⟩
    | d _ => simp [W.at] at ea
    | dct _ _ => simp [W.at] at ea
    | dcn _ => simp [W.at] at ea
    | scr _ => simp [W.at] at ea
theorem locked_ok {α : Type} {j k : Nat} {sel : List Nat} {m : M α} {a : α} (h : locked j (k :: sel) m env = some (.ok a, env')) : ∃ s e, env[j]? = some s ∧ m (env.set j .lck) = some (.ok a, e) ∧ e[j]? = some .lck ∧ env' = e.set j s := by
  have e0 : ∀ r, locked j (k :: sel) m env = r → (match env[j]? with
    | some s => match m (env.set j .lck) with
      | some (.ok a, e) => match e[j]? with
        | some .lck => some (.ok a, e.set j s)
        | _ => none
      | _ => none
    | none => none) = r := fun r h => h
  have e1 := e0 _ h
  split at e1
  · rename_i s es
    split at e1
    · rename_i a e em
      split at e1
      · rename_i el2
        cases e1
        exact ⟨s, e, es, em, el2, rfl⟩
      · cases e1
    · cases e1
  · cases e1
theorem g_idx {o i : Expr} {o' i' : E} {pos : Pos} (hK : c.K = X.K) (hG : c.On X) (hu : X.A.units + 65 < cLine) (ho : PE X o (rdE c Wx T o')) (hi : PE X i (rdE c Wx T i'))
    (ha : ∀ v, assign (.Subscript o i pos) X.env v = (do
      let ov ← holding [v] (eval o X.env)
      let iv ← holding [v, ov] (eval i X.env)
      standAt pos
      holding [v, ov, iv] (setItem ov iv v)
      release [v, ov, iv] [])) : PG X (.Subscript o i pos) (rdG c T (.idx o' i')) := by
  refine ⟨fun pins s σ H v u Q I rv ⟨F, P, env, Pt, r, env', t, e, q⟩ => (pg_sub ho hi (set_W (c := c) hK hG hu) ha).run pins s σ H v u Q I rv ?_⟩
  rw [asg] at e
  obtain ⟨x, env1, e1, e2⟩ := bnd_ok e
  obtain ⟨_, _, e2⟩ := calm_ok e2
  obtain ⟨os, env2, e3, e4⟩ := bnd_ok e2
  obtain ⟨o1, env2', e5, e6⟩ := bnd_ok e4
  obtain ⟨rfl, e7⟩ := sole_ok e5
  rw [e7] at e6
  obtain ⟨F1, P1, Pr, Pt', hx, gx, dx, t1, st1⟩ := toW_run t e1
  have st1' : Step F H (fun a => P a ∨ Pt a) F1 H (fun a => P1 a ∨ Pr a) := st1.wide (fun _ h => h) fun a h => .inl (h.imp .inl id)
  refine ⟨F1, P1, env1, t1.sr, ?_⟩
  rw [e3]
  intro vs2 F2 H2 P2 Pt2 t2 s2
  obtain ⟨ov, rfl, hr⟩ := t2.rr.one
  refine ⟨ov, rfl, ?_⟩
  obtain ⟨gx2, dx2, kx2⟩ := s2.aside gx (fun a h => dx a (.inl h)) (t2.sr.good.or t2.gt)
  have hx2 : WR c.K c.G F2 H2 x v Pr := hx.stay s2.ext kx2
  have st2 : Step F H (fun a => P a ∨ Pt a) F2 H2 (fun a => P2 a ∨ Pr a) := st1'.trans (s2.wide (fun _ h => .inl h) fun a h => h.elim (fun h => .inl (.inl h)) fun h => .inr (.inl (.inr h)))
  cases o1 with
  | d _ => cases e6
  | own _ => cases e6
  | pth j sel =>
    obtain ⟨iw, env3, e8, e9⟩ := bnd_ok e6
    cases hr with
    | @pth _ _ v0 _ _ q1 q2 =>
      cases sel with
      | nil =>
        obtain ⟨is, env4, e10, e11⟩ := bnd_ok (show bnd (ev T i') (fun ys => bnd (sole ys) fun y => seeM y) env2 = some (.ok iw, env3) from e8)
        obtain ⟨y, env5, e12, e13⟩ := bnd_ok e11
        obtain ⟨rfl, e14⟩ := sole_ok e12
        rw [e14] at e13
        obtain ⟨e15, e16⟩ := seeM_ok e13
        rw [e16] at e9
        refine ⟨F2, P2, env2, t2.sr, ?_⟩
        rw [e10]
        intro vs3 F3 H3 P3 Pt3 t3 s3
        obtain ⟨iv, rfl, hri⟩ := t3.rr.one
        refine ⟨iv, rfl, ?_⟩
        obtain ⟨gx3, dx3, kx3⟩ := s3.aside gx2 (fun a h => dx2 a (.inl h)) (t3.sr.good.or t3.gt)
        obtain ⟨Pi, hiw, _⟩ := hri.see t3.sr e15
        refine store_end t3.sr gx3 (fun a h => dx3 a (.inl h)) q1 (show PathV H3 v0 [] ov from q2) hiw (hx2.stay s3.ext kx3) e9 fun F' H' P' S' st' => q σ F' H' P' S' ?_ Only.refl
        refine st2.trans ((s3.wide (Q := fun a => P2 a ∨ Pr a) (Q1 := fun a => P3 a ∨ Pr a) (fun _ h => .inl h) fun a h => ?_).trans st')
        exact h.elim (fun h => .inl (.inl h)) fun h => .inr (.inl (.inr h))
      | cons k sel =>
        obtain ⟨sl, e, ej, em, el, rfl⟩ := locked_ok e8
        obtain ⟨is, env4, e10, e11⟩ := bnd_ok em
        obtain ⟨y, env5, e12, e13⟩ := bnd_ok e11
        obtain ⟨rfl, e14⟩ := sole_ok e12
        rw [e14] at e13
        obtain ⟨e15, e16⟩ := seeM_ok e13
        rw [e16] at el e9
        have hjl : j < env4.length := (List.getElem?_eq_some_iff.mp el).1
        -- the slot is a name's: the turn at the end shows it
        obtain ⟨p, w, rfl, w0, ea⟩ : ∃ p w, sl = .ok p w ∧ ∃ w0, w.at (k :: sel) = some w0 := by
          unfold turnAt at e9
          rw [List.getElem?_set_self hjl] at e9
          cases sl with
          | no => cases e9
          | lck => cases e9
          | ok p w =>
            refine ⟨p, w, rfl, ?_⟩
            simp only at e9
            cases ew : w.at (k :: sel) with
            | none => rw [ew] at e9; cases e9
            | some w0 => exact ⟨w0, rfl⟩
        obtain ⟨v0', Pj, ev, hw, hs, S'⟩ := t2.sr.lock ej
        rw [q1] at ev
        cases ev
        refine ⟨F2, _, _, S', ?_⟩
        rw [e10]
        intro vs3 F3 H3 P3 Pt3 t3 s3
        obtain ⟨iv, rfl, hri⟩ := t3.rr.one
        refine ⟨iv, rfl, ?_⟩
        have gj : Good F2 H2 Pj := t2.sr.good.less hs
        obtain ⟨gb, db, kb⟩ := s3.aside (gj.or gx2) (fun a h z => z.elim h.2 (dx2 a (.inl h.1))) (t3.sr.good.or t3.gt)
        have hw3 : WR c.K c.G F3 H3 w v0 Pj := hw.stay s3.ext fun a o h e => kb a o (.inl h) e
        have S4 := t3.sr.put (p := p) q1 hw3 (gb.less fun a h => .inl h) fun a h z => db a (.inl h) (.inl z)
        obtain ⟨Pi, hiw, _⟩ := hri.see t3.sr e15
        refine store_end S4 (gb.less fun a h => .inr h) (fun a h z => ?_) q1 (path_keep (k :: sel) w v0 ov Pj w0 hw (fun a o h e => kb a o (.inl h) e) ea q2) hiw (hx2.stay s3.ext fun a o h e => kb a o (.inr h) e) e9 fun F' H' P' S' st' => q σ F' H' P' S' ?_ Only.refl
        · rcases h with h | h
          · exact db a (.inl h) (.inr z)
          · exact dx2 a (.inl (hs a h)) z
        · refine st2.trans ((s3.wide (Q := fun a => P2 a ∨ Pr a) (Q1 := fun a => (P3 a ∨ Pj a) ∨ Pr a) (fun _ h => .inl h.1) fun a h => ?_).trans st')
          rcases h with (h | h) | h
          · exact .inl (.inl h)
          · exact .inr (.inl (.inl (hs a h)))
          · exact .inr (.inl (.inr h))
end
end Ev
end

section
set_option Elab.async false
set_option linter.all false
set_option autoImplicit true
set_option maxRecDepth 100000
set_option maxHeartbeats 4000000
/-! EwM: enumerate over a tuple. -/
namespace Ev
open PySem PySem.Spec PyProof.Rows L2
open AutoSeq1 (wpAny_loadPart')
theorem meets_enumT (l : Addr) (items : Array Value) (n : Nat) (dct : Option Addr) (sl : Array (Option Value)) :
    Meets (Builtin.«enumerate.__new__» ⟨[.type "enumerate", .ref l], []⟩) (fun _ R s => s.heap.get? l = some { cls := .type "tuple", dict := dct, data := .seq items n, slots := sl } ∧
      R (.ok (.ret (.ref (s.heap.push { cls := .type "tuple_iterator", data := .fields #[.ref l, .int 0 0] }).objs.size)))
        { s with heap := (s.heap.push { cls := .type "tuple_iterator", data := .fields #[.ref l, .int 0 0] }).push { cls := .type "enumerate", data := .fields #[.none, .bool false, .ref s.heap.objs.size, rawInt 0, .none, .none] } }) :=
  .of_wp fun prog w A R s h => by
    obtain ⟨hp, g, d, tk, os⟩ := s; obtain ⟨hl, h⟩ := h
    have hsub := sub_enumerate
    have hL : Heap.IsTuple (Shared.heap ⟨hp, g, d, tk, os⟩) l items := ⟨_, hl, rfl, n, rfl⟩
    wp_walk using wpAny_loadPart' hl
    refine wpAny_stack_any fun st => wpAny_pure ?_
    split
    · rename_i c _ _ _ _ _
      cases (c == Value.type "enumerate")
      · wp_walk using wpAny_loadPart' hl, wpAny_pyIter_tuple hL
        exact ⟨_, rfl, h⟩
      · wp_walk using wpAny_loadPart' hl, wpAny_pyIter_tuple hL
        exact ⟨_, rfl, h⟩
    · wp_walk using wpAny_loadPart' hl, wpAny_pyIter_tuple hL
      exact ⟨_, rfl, h⟩
section
variable {prog : Program} {w : World} {A : Around} {E : Value → Shared → Prop} {s : Shared}
theorem call_enumT {l : Addr} {items : Array Value} {Q : Value → Shared → Prop} (hL : s.heap.IsTuple l items)
    (h : ∀ h', IsEnum h' (s.heap.objs.size + 1) s.heap.objs.size 0 .none → h'.IsTupleIter s.heap.objs.size l 0 → h'.objs.size = s.heap.objs.size + 2 →
      (∀ b o, s.heap.get? b = some o → h'.get? b = some o) → Q (.ref (s.heap.objs.size + 1)) { s with heap := h' }) :
    wpAny (model prog w) A (call (.type "enumerate") [.ref l]) Q E s := by
  obtain ⟨⟨c, dct, dt, sl⟩, hl, hc, n, hd⟩ := hL
  replace hc : c = .type "tuple" := hc
  replace hd : dt = .seq items n := hd
  subst hc hd
  refine callType_new F.called_enumerate (by decide) (F.typeCall_enumerate_1 _) (F.newCall_enumerate_1 _) (fun obj => F.args_object_init_2 obj _) F.entry_enumerate_new
    (meets_enumT l items n dct sl) ⟨hl, ?_⟩
  have hz : (s.heap.push { cls := .type "tuple_iterator", data := .fields #[.ref l, .int 0 0] }).objs.size = s.heap.objs.size + 1 := Heap.size_push ..
  show _ ∧ _
  rw [hz]
  have he : IsEnum ((s.heap.push { cls := .type "tuple_iterator", data := .fields #[.ref l, .int 0 0] }).push
      { cls := .type "enumerate", data := .fields #[.none, .bool false, .ref s.heap.objs.size, rawInt 0, .none, .none] }) (s.heap.objs.size + 1) s.heap.objs.size 0 .none := by
    have := Heap.get?_push_size (s.heap.push { cls := .type "tuple_iterator", data := .fields #[.ref l, .int 0 0] })
      (o := { cls := .type "enumerate", data := .fields #[.none, .bool false, .ref s.heap.objs.size, rawInt 0, .none, .none] }) rfl
    rw [hz] at this; exact this
  refine ⟨⟨_, he, rfl⟩, h _ he ⟨_, Heap.get?_push_of_some _ (Heap.get?_push_size _ rfl), rfl, rfl⟩ (by rw [Heap.size_push, hz]) fun b o x => Heap.get?_push_of_some _ (Heap.get?_push_of_some _ x)⟩
end
theorem drawsT {prog : Program} {w : World} {A : Around} (hh : A.handled = none) (it t : Addr) (hne : it ≠ t) (items : Array Value) :
    Draws prog w A it [it, t] items.size (fun i x => items[i]? = some x) (fun i h => h.IsTupleIter it t i ∧ h.IsTuple t items) where
  live := fun i h st => let ⟨o, e, _⟩ := st.1; ⟨o, e⟩
  frame := fun i h h' st k => ⟨st.1.at fun o e => k it (by simp) o e, let ⟨o, e, r⟩ := st.2; ⟨o, k t (by simp) o e, r⟩⟩
  item := fun i s Q E hi st hQ => by
    have hx : items[i]? = some items[i] := Array.getElem?_eq_getElem hi
    exact RZ.nextOf_tuple_item st.1 st.2 hx fun h' st' sb => hQ _ h' s.toks hx ⟨st', let ⟨o, e, r⟩ := st.2; ⟨o, (sb.2 t (Ne.symm hne)).trans e, r⟩⟩ sb
  done := fun s Q E st hE => RZ.nextOf_tuple_end hh st.1 st.2 (by simp) hE
/-- the tuple at a, each item in a new pair -/
def IteT (K : PySem.W.Frag) (a : Addr) : It :=
  ⟨fun i H => ∃ (xs : List V) (x : V), SqT K H a xs ∧ xs[i]? = some x, fun i H v H' => ∃ T x, v = .ref T ∧ H T = none ∧ H' = upd H T (.tup [.int (i : Nat), x]) ∧ ∀ xs, SqT K H a xs → xs[i]? = some x, fun i H => ∃ xs : List V, SqT K H a xs ∧ xs.length ≤ i⟩
theorem turn_enumT {P : Program} {w : World} {K : PySem.W.Frag} {elts : List Expr} {kk : Nat} {tpos : Pos} (a e it : Addr) :
    Turn P w K (.Tuple elts kk tpos) (IteT K a) [e, it] e (fun i h => (∃ old, IsEnum h e it ((i : Nat) : Int) old) ∧ h.IsTupleIter it a i ∧ e ≠ it) where
  mem := by simp
  obj := fun i h st b hb => by
    obtain ⟨⟨old, he⟩, ⟨o, ho, hc, hd⟩, _⟩ := st
    have e' : b = e ∨ b = it := by simpa using hb
    rcases e' with z | z
    · rw [z]; exact ⟨_, he, fun v q => nomatch q⟩
    · rw [z]; exact ⟨o, ho, fun v q => by rw [hd] at q; cases q⟩
  keep := fun i h h' st k => let ⟨⟨old, he⟩, hi, hne⟩ := st; ⟨⟨old, k e (by simp) _ he⟩, hi.at fun o q => k it (by simp) o q, hne⟩
  item := by
    intro X hP hw hK hc i pins s σ H E I hf st hg
    subst hP hw hK
    obtain ⟨⟨old, he⟩, hit, hne⟩ := st
    obtain ⟨xs, x, hq, hx⟩ := hg
    obtain ⟨its, rv, p, hz⟩ := I.tuple hq
    obtain ⟨u, hu, ru⟩ := rv.get hx
    have hel : e < s.heap.objs.size := Heap.lt_size he
    have hil : it < s.heap.objs.size := by obtain ⟨_, q, _⟩ := hit; exact Heap.lt_size q
    have hia : it ≠ a := fun z => by
      obtain ⟨o1, e1, c1, _⟩ := hit
      obtain ⟨o2, e2, c2, _⟩ := id p
      rw [z, e2] at e1
      cases e1
      rw [c1] at c2
      exact absurd c2 (by decide)
    have hea : e ≠ a := fun z => by
      obtain ⟨o2, e2, c2, _⟩ := id p
      have he' := he
      rw [z] at he'
      have e3 := he'.symm.trans e2
      cases e3
      exact absurd (show Value.type "enumerate" = Value.type "tuple" from c2) (by decide)
    have hlt : i < its.toArray.size := by
      have := (List.getElem?_eq_some_iff.mp hu).1
      simpa using this
    refine wpAny_pyNext_enum_itemD (drawsT (A := X.A.in1) (I.ok.hd hc) it a hia its.toArray) he ⟨hit, show s.heap.IsTuple a its.toArray from p⟩ hlt hne (by simp [hne, hea]) fun u' h' tk hu' ho hst hT hsz hk => ?_
    have eu : u' = u := by
      have : its.toArray[i]? = some u := by simpa using hu
      rw [this] at hu'
      cases hu'
      rfl
    subst eu
    refine ⟨_, rfl, wpAny_letOwnedTupleGo_enum (s := { s with heap := h', toks := tk + 1 }) ho fun h'' he' sb => ?_⟩
    have hT2 : h''.get? s.heap.objs.size = some { cls := .type "tuple", data := .seq #[.int i tk, u'] } := (sb.2 _ (Nat.ne_of_gt hel)).trans hT
    have new : ObjOk X.prog X.w (upd H s.heap.objs.size (.tup [.int (i : Nat), x])) h'' s.heap.objs.size (.tup [.int (i : Nat), x]) :=
      ⟨by show 2 ≤ sizeLine; decide, [.int i tk, u'], .cons ⟨_, rfl⟩ (.cons ru .nil), ⟨_, hT2, rfl, _, rfl⟩⟩
    have I1 : Inv X pins σ (upd H s.heap.objs.size (.tup [.int (i : Nat), x])) { s with heap := h'', toks := tk + 1 } :=
      I.turnedNew (ch := [e, it]) (fun b ob hb q => (sb.2 b (fun z => hb (by simp [z]))).trans (hk b ob (fun z => hb (by simp [z])) (fun z => hb (by simp [z])) q)) hf (Nat.le_refl _) new
    refine ⟨.ref s.heap.objs.size, _, I1, rfl, ⟨_, x, rfl, I.hok.fresh (Nat.le_refl _), rfl, fun ys hy => by rw [I.tuple_inj hy hq]; exact hx⟩, ⟨⟨u', ?_⟩, hst.1.at fun o q => (sb.2 it (Ne.symm hne)).trans q, hne⟩, fun b hb => ?_⟩
    · have e1 : ((i + 1 : Nat) : Int) = (i : Int) + 1 := by omega
      rw [e1]; exact he'
    · have hb' : b < s.heap.objs.size := by
        have e' : b = e ∨ b = it := by simpa using hb
        rcases e' with z | z
        · rw [z]; exact hel
        · rw [z]; exact hil
      rw [upd_ne (Nat.ne_of_lt hb')]
      exact (hf b hb).1
  done := by
    intro X hP hw hK hc i pins s σ H E I hf st hg
    subst hP hw hK
    obtain ⟨⟨old, he⟩, hit, hne⟩ := st
    obtain ⟨xs, hq, hx⟩ := hg
    obtain ⟨its, rv, p, hz⟩ := I.tuple hq
    obtain ⟨f0, f1, f2, f3, f4, f5⟩ := hf it (by simp)
    have hl := rv.length
    have hT : s.TypeIs (.ref e) "enumerate" := ⟨_, he, rfl⟩
    unfold pyNext
    refine wpAny_bind (wpAny_attempt (wpAny_callSpecial?_slot (name := Str.ofString "__next__") hT F.slot_enumerate_next
      (wpAny_call_entry F.slot_enumerate_next hT F.entry_enumerate_next ?_ (F.args_enumerate_next_1 _))))
    show wpAny _ _ (field (.ref e) 2 >>= _) _ _ _
    refine wpAny_bind (wpAny_field he rfl (x := .ref it) rfl ?_)
    refine wpAny_bind (RZ.nextOf_tuple_end (A := X.A.in1) (I.ok.hd hc) hit (show s.heap.IsTuple a its.toArray from p) (by simp; omega) fun h' x he' hx' => ?_)
    obtain ⟨o, ho, hc'⟩ := hx'
    refine wpAny_bind (wpAny_isInstance (T := "StopIteration") (b := true) ⟨o, ho, hc'⟩ isSubtype_stop ?_)
    exact wpAny_pure ⟨rfl, I.turned (t' := s.toks) (fun b o hb q => he' b o hb q) f0 f1 f3 f4 f5⟩
  self := fun A i s Q E st h => let ⟨⟨_, he⟩, _⟩ := st; wpAny_pyIter_enum he h
def iEnumA (K : PySem.W.Frag) (ta : TA) : TI := fun σ H R => ta σ H fun vs H1 => ∃ a xs, vs = [.ref a] ∧ ((SqL K H1 a xs ∧ R (Ite K a) H1) ∨ (SqT K H1 a xs ∧ R (IteT K a) H1))
theorem pi_enumA {X : Cx} {e : Expr} {ta : TA} {p pos tpos : Pos} {elts : List Expr} {kk : Nat} (hg : Gl X "enumerate") (hm : X.mg "enumerate" = none) (ha : PA X [e] ta) (hs : starEach [e] X.env = [(false, eval e X.env)] := by rfl) :
    PI X (.Tuple elts kk tpos) (.Call (.Name "enumerate" p) [e] [] pos) (iEnumA X.K ta) := by
  refine ⟨fun pins s σ H R I h => ?_⟩
  refine Call_ (ld_blt I hg hm boot_enumerate (PyProof.Rows.callWith_type1 (thn (ha.run pos pins s σ H _ I h) fun us s1 ⟨vs, H1, I1, r1, q1⟩ => ?_) hs rfl))
  obtain ⟨a, xs, ex, q⟩ := q1
  subst ex
  cases r1 with
  | cons r rr =>
    cases rr
    cases r
    have fp : ∀ b, b ∈ [s1.heap.objs.size + 1, s1.heap.objs.size] → FpOk X pins H1 b := fun b hb => by
      have e' : b = s1.heap.objs.size + 1 ∨ b = s1.heap.objs.size := by simpa using hb
      have hle : s1.heap.objs.size ≤ b := by
        rcases e' with z | z
        · rw [z]; exact Nat.le_add_right _ _
        · rw [z]; exact Nat.le_refl _
      exact I1.fpOk hle (I1.hok.fresh hle)
    rcases q with ⟨hq, q⟩ | ⟨hq, q⟩
    · obtain ⟨its, rv, p', hz⟩ := I1.list hq
      refine call_enumerate_list p'.isList fun h' he hit hsz hk => wpAny_pyIter_enum he ?_
      have I2 : Inv X pins σ H1 { s1 with heap := h' } := I1.kept (t' := s1.toks) hk
      exact ⟨s1.heap.objs.size + 1, [s1.heap.objs.size + 1, s1.heap.objs.size], _, _, H1, rfl, I2, turn_enum a (s1.heap.objs.size + 1) s1.heap.objs.size, ⟨⟨.none, he⟩, hit, Nat.succ_ne_self _⟩, fp, q⟩
    · obtain ⟨its, rv, p', hz⟩ := I1.tuple hq
      refine call_enumT (show s1.heap.IsTuple a its.toArray from p') fun h' he hit hsz hk => wpAny_pyIter_enum he ?_
      have I2 : Inv X pins σ H1 { s1 with heap := h' } := I1.kept (t' := s1.toks) hk
      exact ⟨s1.heap.objs.size + 1, [s1.heap.objs.size + 1, s1.heap.objs.size], _, _, H1, rfl, I2, turn_enumT a (s1.heap.objs.size + 1) s1.heap.objs.size, ⟨⟨.none, he⟩, hit, Nat.succ_ne_self _⟩, fp, q⟩
end Ev
end

section
set_option Elab.async false
set_option linter.all false
set_option autoImplicit true
set_option maxRecDepth 100000
set_option maxHeartbeats 4000000
/-! EvO: what is walked. -/
namespace Ev
open PySem PySem.Spec PyProof.Rows L2
section
variable {c : Cfg} {Wx : WX} {T : Tb} {X : Cx} {σ : L2.St} {F F1 F2 F3 H H1 H2 H3 F' H' Fx : Hp} {P P1 P2 P3 Pt Pn Pi Pw Pr : Addr → Prop} {env env1 env3 env' : Env} {rs : List R} {vs : List V} {i : Nat} {tg : Expr}
/-- J gives the items xs, whatever is laid besides; Fx: what it leans on -/
def Walks (c : Cfg) (Fx F0 : Hp) (J : It) (xs : List D) : Prop := ∀ i F H, Sub F0 F → Sub Fx H → Sub F H →
  (∀ d, xs[i]? = some d → J.go i H ∧ ∀ x H', J.yld i H x H' → ∃ F', New F H F' H' (fun _ => False) ∧ DR c.K c.G F' x d) ∧ (xs[i]? = none → J.stop i H)
structure Leans (F : Hp) (Fx H : Hp) : Prop where
  in_ : Sub Fx H
  of : ∀ a o, Fx a = some o → F a = some o ∨ IsFrz o
theorem Leans.step (l : Leans F Fx H) (s : Step F H P F' H' P') (g : Sub F' H') : Leans F' Fx H' :=
  ⟨fun a o e => by
    rcases l.of a o e with z | z
    · exact g _ _ (s.ext _ _ z)
    · exact s.keep a o (l.in_ a o e) (.inr z), fun a o e => (l.of a o e).imp (s.ext a o) id⟩
theorem Leans.self (s : Sub F H) : Leans F F H := ⟨s, fun a o e => .inl e⟩
theorem walks_list {a : Addr} {us : List V} {xs : List D} (h : F a = some (.lst us)) (d : DRs c.K c.G F us xs) : Walks c F F (Itl c.K a) xs := by
  intro i F1 H s0 sx s1
  have q : SqL c.K H a us := SqL.of (sx _ _ h)
  refine ⟨fun x ex => ?_, fun en => ⟨us, q, by rw [d.length]; exact List.getElem?_eq_none_iff.mp en⟩⟩
  obtain ⟨u, eu, du⟩ := d.at ex
  refine ⟨⟨us, u, q, eu⟩, fun y H' ⟨eH, hy⟩ => ?_⟩
  subst eH
  have e := hy us q
  rw [eu] at e
  cases e
  exact ⟨F1, .refl s1, du.mono s0⟩
theorem walks_tup {a : Addr} {us : List V} {xs : List D} (h : SqT c.K F a us) (d : DRs c.K c.G F us xs) : Walks c F F (Itt c.K a) xs := by
  intro i F1 H s0 sx s1
  have q : SqT c.K H a us := sx.sqT h
  refine ⟨fun x ex => ?_, fun en => ⟨us, q, by rw [d.length]; exact List.getElem?_eq_none_iff.mp en⟩⟩
  obtain ⟨u, eu, du⟩ := d.at ex
  refine ⟨⟨us, u, q, eu⟩, fun y H' ⟨eH, hy⟩ => ?_⟩
  subst eH
  have e := hy us q
  rw [eu] at e
  cases e
  exact ⟨F1, .refl s1, du.mono s0⟩
theorem walks_str {x : Str} : Walks c F F (Its x) (x.cps.toList.map fun ch => .str ⟨#[ch]⟩) := by
  intro i F1 H s0 sx s1
  refine ⟨fun d ed => ?_, fun en => ?_⟩
  · rw [List.getElem?_map] at ed
    cases ec : x.cps.toList[i]? with
    | none => rw [ec] at ed; cases ed
    | some ch =>
      rw [ec] at ed
      cases ed
      have ec' : x.cps[i]? = some ch := by rw [← Array.getElem?_toList]; exact ec
      refine ⟨?_, fun y H' ⟨eH, ch', e1, e2⟩ => ?_⟩
      · exact (Array.getElem?_eq_some_iff.mp ec').1
      · subst eH e2
        rw [ec'] at e1
        cases e1
        exact ⟨F1, .refl s1, .str _⟩
  · have h := List.getElem?_eq_none_iff.mp en
    rw [List.length_map, Array.length_toList] at h
    exact h
/-- a new pair -/
theorem new_pair {T0 : Addr} {u v : V} {a b : D} (s : Sub F H) (hT : H T0 = none) (d1 : DR c.K c.G F u a) (d2 : DR c.K c.G F v b) : New F H (upd F T0 (.tup [u, v])) (upd H T0 (.tup [u, v])) (fun _ => False) ∧ DR c.K c.G (upd F T0 (.tup [u, v])) (.ref T0) (.tuple [a, b]) := by
  have sb := sub_upd (o := .tup [u, v]) (off_of s hT)
  exact ⟨.dat s hT, .tup (.inl (.inl upd_at)) (.cons (d1.mono sb) (.cons (d2.mono sb) .nil))⟩
theorem walks_enum {a : Addr} {us : List V} {xs : List D} (h : F a = some (.lst us)) (d : DRs c.K c.G F us xs) : Walks c F F (Ite c.K a) (enumL xs) := by
  unfold enumL
  intro i F1 H s0 sx s1
  have q : SqL c.K H a us := SqL.of (sx _ _ h)
  refine ⟨fun x ex => ?_, fun en => ⟨us, q, ?_⟩⟩
  · rw [List.getElem?_map] at ex
    cases ez : ((List.range xs.length).zip xs)[i]? with
    | none => rw [ez] at ex; cases ex
    | some p =>
      rw [ez] at ex
      cases ex
      obtain ⟨e1, e2⟩ := List.getElem?_zip_eq_some.mp ez
      have hi : i < xs.length := (List.getElem?_eq_some_iff.mp e2).1
      rw [List.getElem?_range hi] at e1
      obtain ⟨u, eu, du⟩ := d.at e2
      refine ⟨⟨us, u, q, eu⟩, fun y H' ⟨T0, x0, eT, hT, eH, hy⟩ => ?_⟩
      subst eT eH
      have e := hy us q
      rw [eu] at e
      cases e
      have e1' : p.1 = i := by cases e1; rfl
      show ∃ F', New F1 H F' _ (fun _ => False) ∧ DR c.K c.G F' (V.ref T0) (.tuple [.int ((p.1 : Nat) : Int), p.2])
      rw [e1']
      obtain ⟨n, dd⟩ := new_pair s1 hT (DR.int (K := c.K) (G := c.G) ((i : Nat) : Int)) (du.mono s0)
      exact ⟨_, n, dd⟩
  · have h := List.getElem?_eq_none_iff.mp en
    rw [List.length_map, List.length_zip, List.length_range] at h
    rw [d.length]
    omega
theorem walks_enumT {a : Addr} {us : List V} {xs : List D} (h : SqT c.K F a us) (d : DRs c.K c.G F us xs) : Walks c F F (IteT c.K a) (enumL xs) := by
  unfold enumL
  intro i F1 H s0 sx s1
  have q : SqT c.K H a us := sx.sqT h
  refine ⟨fun x ex => ?_, fun en => ⟨us, q, ?_⟩⟩
  · rw [List.getElem?_map] at ex
    cases ez : ((List.range xs.length).zip xs)[i]? with
    | none => rw [ez] at ex; cases ex
    | some p =>
      rw [ez] at ex
      cases ex
      obtain ⟨e1, e2⟩ := List.getElem?_zip_eq_some.mp ez
      have hi : i < xs.length := (List.getElem?_eq_some_iff.mp e2).1
      rw [List.getElem?_range hi] at e1
      obtain ⟨u, eu, du⟩ := d.at e2
      refine ⟨⟨us, u, q, eu⟩, fun y H' ⟨T0, x0, eT, hT, eH, hy⟩ => ?_⟩
      subst eT eH
      have e := hy us q
      rw [eu] at e
      cases e
      have e1' : p.1 = i := by cases e1; rfl
      show ∃ F', New F1 H F' _ (fun _ => False) ∧ DR c.K c.G F' (V.ref T0) (.tuple [.int ((p.1 : Nat) : Int), p.2])
      rw [e1']
      obtain ⟨n, dd⟩ := new_pair s1 hT (DR.int (K := c.K) (G := c.G) ((i : Nat) : Int)) (du.mono s0)
      exact ⟨_, n, dd⟩
  · have h := List.getElem?_eq_none_iff.mp en
    rw [List.length_map, List.length_zip, List.length_range] at h
    rw [d.length]
    omega
theorem zip_get {α β : Type} {xs : List α} {ys : List β} {i : Nat} {p : α × β} (h : (xs.zip ys)[i]? = some p) : xs[i]? = some p.1 ∧ ys[i]? = some p.2 := List.getElem?_zip_eq_some.mp h
theorem walks_zipL {a b : Addr} {us vs : List V} {xs ys : List D} (h : F a = some (.lst us)) (d : DRs c.K c.G F us xs) (h' : F b = some (.lst vs)) (d' : DRs c.K c.G F vs ys) : Walks c F F (Itz c.K a b) (zipL xs ys) := by
  unfold zipL
  intro i F1 H s0 sx s1
  have q : SqL c.K H a us := SqL.of (sx _ _ h)
  have q' : SqL c.K H b vs := SqL.of (sx _ _ h')
  refine ⟨fun x ex => ?_, fun en => ⟨us, vs, q, q', ?_⟩⟩
  · rw [List.getElem?_map] at ex
    cases ez : (xs.zip ys)[i]? with
    | none => rw [ez] at ex; cases ex
    | some p =>
      rw [ez] at ex
      cases ex
      obtain ⟨e1, e2⟩ := zip_get ez
      obtain ⟨u, eu, du⟩ := d.at e1
      obtain ⟨v, ev, dv⟩ := d'.at e2
      refine ⟨⟨us, vs, u, v, q, q', eu, ev⟩, fun y H' ⟨T0, x0, y0, eT, hT, eH, hx, hy⟩ => ?_⟩
      subst eT eH
      have e := hx us q
      have e' := hy vs q'
      rw [eu] at e
      rw [ev] at e'
      cases e
      cases e'
      obtain ⟨n, dd⟩ := new_pair s1 hT (du.mono s0) (dv.mono s0)
      exact ⟨_, n, dd⟩
  · have h := List.getElem?_eq_none_iff.mp en
    rw [List.length_map, List.length_zip] at h
    rw [d.length, d'.length]
    omega
theorem walks_zipT {a b : Addr} {us vs : List V} {xs ys : List D} (h : SqT c.K F a us) (d : DRs c.K c.G F us xs) (h' : SqT c.K F b vs) (d' : DRs c.K c.G F vs ys) : Walks c F F (RZ.ItzT c.K a b) (zipL xs ys) := by
  unfold zipL
  intro i F1 H s0 sx s1
  have q : SqT c.K H a us := sx.sqT h
  have q' : SqT c.K H b vs := sx.sqT h'
  refine ⟨fun x ex => ?_, fun en => ⟨us, vs, q, q', ?_⟩⟩
  · rw [List.getElem?_map] at ex
    cases ez : (xs.zip ys)[i]? with
    | none => rw [ez] at ex; cases ex
    | some p =>
      rw [ez] at ex
      cases ex
      obtain ⟨e1, e2⟩ := zip_get ez
      obtain ⟨u, eu, du⟩ := d.at e1
      obtain ⟨v, ev, dv⟩ := d'.at e2
      refine ⟨⟨us, vs, u, v, q, q', eu, ev⟩, fun y H' ⟨T0, x0, y0, eT, hT, eH, hx, hy⟩ => ?_⟩
      subst eT eH
      have e := hx us q
      have e' := hy vs q'
      rw [eu] at e
      rw [ev] at e'
      cases e
      cases e'
      obtain ⟨n, dd⟩ := new_pair s1 hT (du.mono s0) (dv.mono s0)
      exact ⟨_, n, dd⟩
  · have h := List.getElem?_eq_none_iff.mp en
    rw [List.length_map, List.length_zip] at h
    rw [d.length, d'.length]
    omega
/-! ### dicts -/
theorem kd_at {i : Nat} {k : Key} {d : D} : ∀ {ds : List (Key × D)} {vs : List (Key × V)} {i : Nat}, KD c.K c.G F ds vs → ds[i]? = some (k, d) → ∃ v, vs[i]? = some (k, v) ∧ DR c.K c.G F v d
  | _, _, _, .nil, e => by simp at e
  | _, _, 0, .cons h1 h2, e => by
    simp at e
    obtain ⟨rfl, rfl⟩ := e
    exact ⟨_, rfl, h1⟩
  | _, _, i + 1, .cons h1 h2, e => by
    obtain ⟨v, e1, e2⟩ := kd_at (i := i) (k := k) (d := d) h2 (by simpa using e)
    exact ⟨v, by simpa using e1, e2⟩
theorem DR.key {k : Key} : DR c.K c.G F (kV k) (dKey k) := by
  cases k with
  | inl i => exact .int i
  | inr x => exact .str x
theorem walks_keys {a : Addr} {o : Obj} {kvs : List (Key × V)} {ds : List (Key × D)} (h : Fx a = some (.frz o (.dK kvs))) (d : KD c.K c.G F ds kvs) : Walks c Fx F (Itk a o kvs) (ds.map fun kv => dKey kv.1) := by
  intro i F1 H s0 sx s1
  have q := sx _ _ h
  refine ⟨fun x ex => ?_, fun en => ⟨q, ?_⟩⟩
  · rw [List.getElem?_map] at ex
    cases ez : ds[i]? with
    | none => rw [ez] at ex; cases ex
    | some p =>
      obtain ⟨k, e⟩ := p
      rw [ez] at ex
      cases ex
      obtain ⟨v, ev, _⟩ := kd_at (i := i) d ez
      refine ⟨⟨q, (List.getElem?_eq_some_iff.mp ev).1⟩, fun y H' ⟨eH, k', v', e1, e2⟩ => ?_⟩
      subst eH e2
      rw [ev] at e1
      cases e1
      exact ⟨F1, .refl s1, DR.key⟩
  · have h := List.getElem?_eq_none_iff.mp en
    rw [List.length_map] at h
    rw [kd_len d]
    exact h
theorem walks_items {a : Addr} {o : Obj} {kvs : List (Key × V)} {ds : List (Key × D)} (h : Fx a = some (.frz o (.dK kvs))) (d : KD c.K c.G F ds kvs) : Walks c Fx F (Iti a o kvs) (ds.map fun kv => .tuple [dKey kv.1, kv.2]) := by
  intro i F1 H s0 sx s1
  have q := sx _ _ h
  refine ⟨fun x ex => ?_, fun en => ⟨q, ?_⟩⟩
  · rw [List.getElem?_map] at ex
    cases ez : ds[i]? with
    | none => rw [ez] at ex; cases ex
    | some p =>
      obtain ⟨k, e⟩ := p
      rw [ez] at ex
      cases ex
      obtain ⟨v, ev, dv⟩ := kd_at (i := i) d ez
      refine ⟨⟨q, (List.getElem?_eq_some_iff.mp ev).1⟩, fun y H' ⟨T0, k', v', e1, e2, hT, eH⟩ => ?_⟩
      subst eH e2
      rw [ev] at e1
      cases e1
      obtain ⟨n, dd⟩ := new_pair s1 hT (DR.key (c := c)) (dv.mono s0)
      exact ⟨_, n, dd⟩
  · have h := List.getElem?_eq_none_iff.mp en
    rw [List.length_map] at h
    rw [kd_len d]
    exact h
theorem walks_rng {lo : Int} {n : Nat} : Walks c F F (Itr lo n) (rngD lo n) := by
  intro i F1 H s0 sx s1
  have hl : (rngD lo n).length = n := by unfold rngD; simp
  refine ⟨fun d ed => ?_, fun en => ?_⟩
  · have hi : i < n := by rw [← hl]; exact (List.getElem?_eq_some_iff.mp ed).1
    refine ⟨hi, fun y H' ⟨eH, hy⟩ => ?_⟩
    subst eH hy
    have : d = .int (lo + (i : Int)) := by
      unfold rngD at ed
      rw [List.getElem?_map, List.getElem?_range hi] at ed
      cases ed
      rfl
    subst this
    exact ⟨F1, .refl s1, .int _⟩
  · have := List.getElem?_eq_none_iff.mp en
    rw [hl] at this
    exact this
/-! ### the iterators' making, by the value -/
theorem it_list {pins : List (Addr × Obj)} {s1 : Shared} {R : It → Hp → Prop} {a : Addr} {us : List V} (I1 : Inv X pins σ H s1) (hq : SqL X.K H a us) (q : R (Itl X.K a) H) : wpAny (model X.prog X.w) X.A (pyIter (.ref a)) (PIE X pins σ tg R) X.xe s1 := by
  obtain ⟨its, rv, p, hz⟩ := I1.list hq
  refine wpAny_pyIter_list p.isList ?_
  refine ⟨s1.heap.objs.size, [s1.heap.objs.size], _, _, H, rfl, I1.kept (t' := s1.toks) fun b o e => Heap.get?_push_of_some _ e, turn_list a _, ⟨_, Heap.get?_push_size _ rfl, rfl, rfl⟩, fun b hb => ?_, q⟩
  have e : b = s1.heap.objs.size := by simpa using hb
  subst e
  exact I1.fpOk (Nat.le_refl _) (I1.hok.fresh (Nat.le_refl _))
theorem it_tup {pins : List (Addr × Obj)} {s1 : Shared} {R : It → Hp → Prop} {a : Addr} {us : List V} (I1 : Inv X pins σ H s1) (hq : SqT X.K H a us) (q : R (Itt X.K a) H) : wpAny (model X.prog X.w) X.A (pyIter (.ref a)) (PIE X pins σ tg R) X.xe s1 := by
  obtain ⟨its, rv, p, hz⟩ := I1.tuple hq
  refine wpAny_pyIter_tuple (show s1.heap.IsTuple a its.toArray from p) ?_
  refine ⟨s1.heap.objs.size, [s1.heap.objs.size], _, _, H, rfl, I1.kept (t' := s1.toks) fun b o e => Heap.get?_push_of_some _ e, turn_tuple a _, ⟨_, Heap.get?_push_size _ rfl, rfl, rfl⟩, fun b hb => ?_, q⟩
  have e : b = s1.heap.objs.size := by simpa using hb
  subst e
  exact I1.fpOk (Nat.le_refl _) (I1.hok.fresh (Nat.le_refl _))
theorem it_str {pins : List (Addr × Obj)} {s1 : Shared} {R : It → Hp → Prop} {x : Str} {t : Tok} (I1 : Inv X pins σ H s1) (q : R (Its x) H) : wpAny (model X.prog X.w) X.A (pyIter (.str x t)) (PIE X pins σ tg R) X.xe s1 := by
  cases ha : x.cps.all (· < 128)
  · exact wpAny_pyIter_wide ha (pi_one (tk := s1.toks) I1 _ (turn_str _ x t "str_iterator" (.inr rfl)) ⟨_, Heap.get?_push_size _ rfl, rfl, rfl⟩ q)
  · exact wpAny_pyIter_ascii ha (pi_one (tk := s1.toks) I1 _ (turn_str _ x t "str_ascii_iterator" (.inl rfl)) ⟨_, Heap.get?_push_size _ rfl, rfl, rfl⟩ q)
theorem it_keys {pins : List (Addr × Obj)} {s1 : Shared} {R : It → Hp → Prop} {d : Addr} {o : Obj} {kvs : List (Key × V)} (I1 : Inv X pins σ H s1) (hd : H d = some (.frz o (.dK kvs))) (q : R (Itk d o kvs) H) : wpAny (model X.prog X.w) X.A (pyIter (.ref d)) (PIE X pins σ tg R) X.xe s1 := by
  obtain ⟨hs, hgd, hx, es, ep, vs, hdt, hsz, kv, hm⟩ := I1.frzK hd
  refine iter_keys hs hgd hx hdt (pi_one (tk := s1.toks) I1 _ (turn_keys _ hdt) ⟨_, Heap.get?_push_size _ rfl, rfl, ?_⟩ q)
  rw [hsz] <;> rfl
/-! ### readings -/
def rdI (c : Cfg) (Wx : WX) (T : Tb) (it : E) : TI := fun σ H R => ∃ F P env, SR c.K c.G F H env σ P ∧ AftG c Wx σ F H P (evI T it env) fun xs env' => ∀ F' H' P' J Fx, SR c.K c.G F' H' env' σ P' → Step F H P F' H' P' → Leans F' Fx H' → Walks c Fx F' J xs → R J H'
def E.isIt : E → Bool
  | .rng _ => true
  | .enum _ => true
  | .zip _ _ => true
  | .itms _ => true
  | _ => false
theorem evI_gen {e : E} (h : e.isIt = false) : evI T e = bnd (ev T e) fun xs => bnd (sole xs) walkR := by
  cases e <;> first | (cases h; done) | rw [evI] <;> (intros; contradiction)
/-- a walked value of data -/
theorem it_dat (hK : c.K = X.K) {pins : List (Addr × Obj)} {s1 : Shared} {R : It → Hp → Prop} {v : V} {u : Value} {x : D} {xs : List D} (I1 : Inv X pins σ H s1) (rv : RelV v u) (s : Sub F H) (d : DR c.K c.G F v x) (e : items x = some xs) (q : ∀ J, Walks c F F J xs → R J H) :
    wpAny (model X.prog X.w) X.A (pyIter u) (PIE X pins σ tg R) X.xe s1 := by
  unfold items at e
  split at e
  · cases e
    cases d with
    | lst h1 h2 =>
      cases rv
      exact it_list I1 (SqL.of (s _ _ h1)) (q _ (by rw [← hK]; exact walks_list h1 h2))
  · cases e
    cases d with
    | tup h1 h2 =>
      cases rv
      exact it_tup I1 (by rw [← hK]; exact s.sqT h1) (q _ (by rw [← hK]; exact walks_tup h1 h2))
  · cases e
    cases d
    obtain ⟨t, rfl⟩ := rv
    exact it_str I1 (q _ walks_str)
  · cases e
theorem i_any {e : Expr} {e' : E} (hK : c.K = X.K) (hi : e'.isIt = false) (he : PE X e (rdE c Wx T e')) : PI X tg e (rdI c Wx T e') := by
  refine ⟨fun pins s σ H R I ⟨F, P, env, S, q⟩ => ?_⟩
  rw [evI_gen hi] at q
  have hr : rdE c Wx T e' σ H fun v H' => ∀ (u : Value) (s1 : Shared), Inv X pins σ H' s1 → RelV v u → wpAny (model X.prog X.w) X.A (pyIter u) (PIE X pins σ tg R) X.xe s1 := by
    refine ⟨F, P, env, S, Aft.fst q S fun rs env1 vs F1 H1 P1 Pt _ t s q => ?_⟩
    obtain ⟨r, rfl, q⟩ := q.sole
    obtain ⟨v, rfl, hr⟩ := t.rr.one
    refine ⟨v, rfl, fun u s1 I1 rv => ?_⟩
    have s' : Step F H P F1 H1 P1 := s.wide (fun _ h => h) fun _ h => .inl (.inl h)
    have dt : ∀ {m : M D}, (∀ x env2, m env1 = some (.ok x, env2) → ∃ F2 P2, SR c.K c.G F2 H1 env2 σ P2 ∧ Step F H P F2 H1 P2 ∧ DR c.K c.G F2 v x) → (∀ x env2, m env1 ≠ some (.ex x, env2)) →
        AftG c Wx σ F H P (bnd m (fun x => lft (items x)) env1) (fun xs env' => ∀ F' H' P' J Fx, SR c.K c.G F' H' env' σ P' → Step F H P F' H' P' → Leans F' Fx H' → Walks c Fx F' J xs → R J H') → wpAny (model X.prog X.w) X.A (pyIter u) (PIE X pins σ tg R) X.xe s1 := fun {m} k hx q => by
      obtain ⟨x, env2, em, q⟩ := ag_ok hx q
      obtain ⟨xs, ei, q⟩ := AftG.end_ q
      obtain ⟨F2, P2, S2, st, dx⟩ := k x env2 em
      exact it_dat hK I1 rv S2.good.sub dx ei fun J w => q F2 H1 P2 J F2 S2 st (Leans.self S2.good.sub) w
    cases r with
    | d x => exact dt (m := dat (.d x)) (fun y env2 e => by cases e; exact ⟨F1, P1, t.sr, s', hr.ofD⟩) (fun _ _ => dat_ok) q
    | own w =>
      refine dt (m := dat (.own w)) (fun y env2 e => ?_) (fun _ _ => dat_ok) q
      obtain ⟨F2, P2, Pt2, dx, t2, st⟩ := dat_run (rs := []) (vs := []) t e
      exact ⟨F2, P2, t2.sr, s.trans (st.wide (fun _ h => h) fun _ h => .inl (.inl h)), dx⟩
    | pth j sel =>
      have pd : AftG c Wx σ F H P (bnd (frzAt j sel) (fun x => lft (items x)) env1) (fun xs env' => ∀ F' H' P' J Fx, SR c.K c.G F' H' env' σ P' → Step F H P F' H' P' → Leans F' Fx H' → Walks c Fx F' J xs → R J H') → wpAny (model X.prog X.w) X.A (pyIter u) (PIE X pins σ tg R) X.xe s1 := fun q => by
        refine dt (m := frzAt j sel) (fun y env2 e => ?_) (fun _ _ => frzAt_ok) q
        obtain ⟨F2, P2, v0, u0, S2, st, ev, hp, dx⟩ := t.sr.frzAt e
        cases hr with
        | pth q1 q2 =>
          rw [ev] at q1
          cases q1
          rw [hp.fix q2] at dx
          exact ⟨F2, P2, S2, s'.trans st, dx⟩
      cases sel with
      | cons k sel => exact pd q
      | nil =>
        have q' : AftG c Wx σ F H P (match env1[j]? with
          | some (.ok _ (.dct lk kvs)) => if lk = true then some (.ok (kvs.map fun kv => dKey kv.1), env1) else none
          | _ => bnd (frzAt j []) (fun x => lft (items x)) env1) (fun xs env' => ∀ F' H' P' J Fx, SR c.K c.G F' H' env' σ P' → Step F H P F' H' P' → Leans F' Fx H' → Walks c Fx F' J xs → R J H') := q
        split at q'
        · rename_i p lk kvs ej
          cases lk with
          | false => exact False.elim q'
          | true =>
            have q' : ∀ F' H' P' J Fx, SR c.K c.G F' H' env1 σ P' → Step F H P F' H' P' → Leans F' Fx H' → Walks c Fx F' J (kvs.map fun kv => dKey kv.1) → R J H' := q'
            obtain ⟨v0, ev, P0, hw, _⟩ := sr_at t.sr ej
            cases hr with
            | pth q1 q2 =>
              rw [ev] at q1
              cases q1
              obtain rfl := (show v0 = v from q2)
              cases hw with
              | @dlk _ a o us _ h1 h2 h3 =>
                cases rv
                have hF : F1 a = none ∨ F1 a = some (.frz o (.dK us)) := by
                  cases e : F1 a with
                  | none => exact .inl rfl
                  | some o' => right; rw [← t.sr.good.sub a o' e, h1]
                refine it_keys I1 h1 (q' F1 H1 P1 _ (upd F1 a (.frz o (.dK us))) t.sr s' ⟨fun b o' e => ?_, fun b o' e => ?_⟩ (walks_keys upd_at h3))
                · by_cases hb : b = a
                  · subst hb; rw [upd_same] at e; cases e; exact h1
                  · rw [upd_ne hb] at e; exact t.sr.good.sub b o' e
                · by_cases hb : b = a
                  · subst hb; rw [upd_same] at e; cases e; exact .inr trivial
                  · rw [upd_ne hb] at e; exact .inl e
        · exact pd q'
  exact thn (he.run pins s σ H _ I hr) fun u s1 ⟨v, H1, I1, rv, k⟩ => k u s1 I1 rv
theorem one_len {a : E} (h : ev T (.cons a .nil) env = some (.ok rs, env')) : ∃ r, rs = [r] := by
  rw [ev_one] at h
  obtain ⟨_, _, _, h⟩ := bnd_ok h
  obtain ⟨_, _, _, h⟩ := bnd_ok h
  obtain ⟨_, _, _, h⟩ := bnd_ok h
  cases h
  exact ⟨_, rfl⟩
theorem two_len {a b : E} (h : ev T (.cons a (.cons b .nil)) env = some (.ok rs, env')) : ∃ r r', rs = [r, r'] := by
  rw [ev_two] at h
  obtain ⟨_, _, _, h⟩ := bnd_ok h
  obtain ⟨_, _, _, h⟩ := bnd_ok h
  obtain ⟨_, _, _, h⟩ := bnd_ok h
  obtain ⟨_, _, _, h⟩ := bnd_ok h
  obtain ⟨_, _, _, h⟩ := bnd_ok h
  obtain ⟨_, _, _, h⟩ := bnd_ok h
  cases h
  exact ⟨_, _, rfl⟩
theorem paired_len {α β : Type} {R : α → β → Prop} : ∀ {as : List α} {bs : List β}, Paired R as bs → as.length = bs.length
  | _, _, .nil => rfl
  | _, _, .cons _ h => by simp [paired_len h]
theorem i_rng1 {a : Expr} {p pos : Pos} {a' : E} (hg : Gl X "range") (hm : X.mg "range" = none) (ha : PA X [a] (rdA c Wx T (.cons a' .nil))) (hs : starEach [a] X.env = [(false, eval a X.env)]) : PI X tg (.Call (.Name "range" p) [a] [] pos) (rdI c Wx T (.rng (.cons a' .nil))) := by
  refine ⟨fun pins s σ H R I ⟨F, P, env, S, q⟩ => (pi_range1 hg hm ha hs).run pins s σ H R I ?_⟩
  rw [evI] at q
  refine ⟨F, P, env, S, Aft.fst q S fun rs env1 vs F1 H1 P1 Pt e1 t s q => ?_⟩
  obtain ⟨ws, hp, q⟩ := AftG.each_see q t
  obtain ⟨xs, e3, q⟩ := AftG.end_ q
  have s' : Step F H P F1 H1 P1 := s.wide (fun _ h => h) fun _ h => .inl (.inl h)
  obtain ⟨r, rfl⟩ := one_len e1
  have hl := paired_len hp
  rw [← t.rr.length] at hl
  unfold rngW at e3
  split at e3
  · rename_i n
    split at e3
    · rename_i hz
      cases e3
      obtain ⟨v, rfl, P0, hv⟩ := paired1 hp
      obtain rfl := hv.ofInt
      have hz : -(1000000 : Int) ≤ n ∧ n ≤ (1000000 : Int) := hz
      exact ⟨n, rfl, by omega, by omega, q F1 H1 P1 _ F1 t.sr s' (Leans.self t.sr.good.sub) walks_rng⟩
    · cases e3
  · simp at hl
  · cases e3
theorem i_rng2 {a b : Expr} {p pos : Pos} {a' b' : E} (hg : Gl X "range") (hm : X.mg "range" = none) (ha : PA X [a, b] (rdA c Wx T (.cons a' (.cons b' .nil)))) (hs : starEach [a, b] X.env = [(false, eval a X.env), (false, eval b X.env)]) (hs2 : starEach [b] X.env = [(false, eval b X.env)]) :
    PI X tg (.Call (.Name "range" p) [a, b] [] pos) (rdI c Wx T (.rng (.cons a' (.cons b' .nil)))) := by
  refine ⟨fun pins s σ H R I ⟨F, P, env, S, q⟩ => (pi_range2 hg hm ha hs hs2).run pins s σ H R I ?_⟩
  rw [evI] at q
  refine ⟨F, P, env, S, Aft.fst q S fun rs env1 vs F1 H1 P1 Pt e1 t s q => ?_⟩
  obtain ⟨ws, hp, q⟩ := AftG.each_see q t
  obtain ⟨xs, e3, q⟩ := AftG.end_ q
  have s' : Step F H P F1 H1 P1 := s.wide (fun _ h => h) fun _ h => .inl (.inl h)
  obtain ⟨r, r', rfl⟩ := two_len e1
  have hl := paired_len hp
  rw [← t.rr.length] at hl
  unfold rngW at e3
  split at e3
  · simp at hl
  · rename_i lo hi
    split at e3
    · rename_i hz
      cases e3
      obtain ⟨v, v', rfl, ⟨P0, hv⟩, ⟨P0', hv'⟩⟩ := paired2 hp
      obtain rfl := hv.ofInt
      obtain rfl := hv'.ofInt
      have hz : -(1000000 : Int) ≤ lo ∧ lo ≤ (1000000 : Int) ∧ -(1000000 : Int) ≤ hi ∧ hi ≤ (1000000 : Int) := hz
      exact ⟨lo, hi, rfl, ⟨by omega, by omega, by omega, by omega⟩, q F1 H1 P1 _ F1 t.sr s' (Leans.self t.sr.good.sub) walks_rng⟩
    · cases e3
  · cases e3
theorem i_enum {e : Expr} {e' : E} {p pos tpos : Pos} {elts : List Expr} {kk : Nat} (hK : c.K = X.K) (hg : Gl X "enumerate") (hm : X.mg "enumerate" = none) (he : PE X e (rdE c Wx T e')) (hs : starEach [e] X.env = [(false, eval e X.env)]) (hs0 : starEach [] X.env = ([] : List (Bool × Sem Value))) :
    PI X (.Tuple elts kk tpos) (.Call (.Name "enumerate" p) [e] [] pos) (rdI c Wx T (.enum e')) := by
  refine ⟨fun pins s σ H R I ⟨F, P, env, S, q⟩ => (pi_enumA hg hm (pa_cons he pa_nil (by rw [hs, hs0])) hs).run pins s σ H R I ?_⟩
  rw [evI] at q
  refine ⟨F, P, env, S, Aft.fst q S fun rs env1 vs F1 H1 P1 Pt e1 t s q => ?_⟩
  obtain ⟨r, rfl, q⟩ := q.sole
  obtain ⟨v, rfl, hr⟩ := t.rr.one
  refine ⟨v, rfl, ?_⟩
  obtain ⟨x, env2, em, q⟩ := ag_ok (fun _ _ => dat_ok) q
  obtain ⟨F2, P2, Pt2, dx, t2, st⟩ := dat_run (rs := []) (vs := []) t em
  obtain ⟨xs, ei, q⟩ := AftG.end_ q
  have s' : Step F H P F2 H1 P2 := s.trans (st.wide (fun _ h => h) fun _ h => .inl (.inl h))
  unfold enumD at ei
  split at ei
  · cases ei
    cases dx with
    | @lst a us _ h1 h2 => exact ⟨a, us, rfl, .inl ⟨SqL.of (t2.sr.good.sub _ _ h1), q F2 H1 P2 _ F2 t2.sr s' (Leans.self t2.sr.good.sub) (by rw [← hK]; exact walks_enum h1 h2)⟩⟩
  · cases ei
    cases dx with
    | @tup a us _ h1 h2 => exact ⟨a, us, rfl, .inr ⟨by rw [← hK]; exact t2.sr.good.sub.sqT h1, q F2 H1 P2 _ F2 t2.sr s' (Leans.self t2.sr.good.sub) (by rw [← hK]; exact walks_enumT h1 h2)⟩⟩
  · cases ei
theorem i_zip {a b : Expr} {a' b' : E} {p pos tpos : Pos} {elts : List Expr} {kk : Nat} (hK : c.K = X.K) (hg : Gl X "zip") (hm : X.mg "zip" = none) (ha : PE X a (rdE c Wx T a')) (hb : PE X b (rdE c Wx T b')) (hs : starEach [a, b] X.env = (false, eval a X.env) :: starEach [b] X.env)
    (hs2 : starEach [b] X.env = (false, eval b X.env) :: starEach [] X.env) (hpl : (backTo pos (starEach [b] X.env)).any (·.1) = false) : PI X (.Tuple elts kk tpos) (.Call (.Name "zip" p) [a, b] [] pos) (rdI c Wx T (.zip a' b')) := by
  refine ⟨fun pins s σ H R I ⟨F, P, env, S, q⟩ => (RZ.pi_zipA hg hm (pa_cons ha (pa_cons hb pa_nil hs2) hs) hs hpl).run pins s σ H R I ?_⟩
  rw [evI] at q
  refine ⟨F, P, env, S, Aft.fst q S fun rs env1 vs F1 H1 P1 Pt e1 t s q => ?_⟩
  obtain ⟨r, rfl, q⟩ := q.sole
  obtain ⟨v, rfl, hr⟩ := t.rr.one
  refine ⟨v, rfl, ?_⟩
  obtain ⟨x, env2, em, q⟩ := ag_ok (fun _ _ => dat_ok) q
  obtain ⟨F2, P2, Pt2, dx, t2, st⟩ := dat_run (rs := []) (vs := []) t em
  have s' : Step F H P F2 H1 fun a => P2 a ∨ False := s.trans (st.wide (fun _ h => h) fun _ h => .inl (h.elim .inl fun z => z.elim))
  have t3 : Tm c F2 H1 env2 σ P2 [.d x] [v] fun _ => False := ⟨t2.sr, RRs.mk1 (.d dx), fun _ _ z => z, Good.none t2.sr.good.sub⟩
  refine ⟨F2, P2, env2, t2.sr, Aft.seq q t3 (by simp [Ev.R.held]) s' fun rs2 env3 vs2 F3 H3 P3 Pt3 _ t t4 s q => ?_⟩
  obtain ⟨r2, rfl, q⟩ := q.sole
  obtain ⟨u, rfl, hr2⟩ := t4.rr.one
  refine ⟨u, rfl, ?_⟩
  obtain ⟨y, env4, em2, q⟩ := ag_ok (fun _ _ => dat_ok) q
  obtain ⟨F4, P4, Pt4, dy, t5, st2⟩ := dat_run (rs := []) (vs := []) t4 em2
  obtain ⟨xs, ei, q⟩ := AftG.end_ q
  have dx4 : DR c.K c.G F4 v x := by
    obtain ⟨v1, v2, ev, q1, _⟩ := t.rr.two
    cases ev
    exact q1.ofD.mono st2.ext
  have sf : Step F H P F4 H3 P4 := (s.wide (Q1 := fun a => P3 a ∨ Pt3 a) (fun _ h => h) fun a h => .inl (h.imp id fun h => .inr h)).trans (st2.wide (fun _ h => h) fun _ h => .inl (.inl h))
  have go : ∀ J, Walks c F4 F4 J xs → R J H3 := fun J w => q F4 H3 P4 J F4 t5.sr sf (Leans.self t5.sr.good.sub) w
  unfold zipD at ei
  split at ei
  · cases ei
    cases dx4 with
    | @lst a us _ h1 h2 =>
      cases dy with
      | @lst b ws _ h3 h4 => exact ⟨a, b, us, ws, rfl, .inl ⟨SqL.of (t5.sr.good.sub _ _ h1), SqL.of (t5.sr.good.sub _ _ h3), go _ (by rw [← hK]; exact walks_zipL h1 h2 h3 h4)⟩⟩
  · cases ei
    cases dx4 with
    | @tup a us _ h1 h2 =>
      cases dy with
      | @tup b ws _ h3 h4 =>
        refine ⟨a, b, us, ws, rfl, .inr ⟨?_, ?_, go _ (by rw [← hK]; exact walks_zipT h1 h2 h3 h4)⟩⟩
        · rw [← hK]; exact t5.sr.good.sub.sqT h1
        · rw [← hK]; exact t5.sr.good.sub.sqT h3
  · cases ei
theorem i_itms {e : Expr} {e' : E} {apos cpos tpos : Pos} {elts : List Expr} {kk : Nat} (he : PE X e (rdE c Wx T e')) (hbase : attributeBase e "items" X.env (eval e X.env) = eval e X.env) (hline : (apos.endLine == cpos.line) = true) :
    PI X (.Tuple elts kk tpos) (.Call (.Attribute e "items" apos) [] [] cpos) (rdI c Wx T (.itms e')) := by
  refine ⟨fun pins s σ H R I ⟨F, P, env, S, q⟩ => (pi_items he hbase hline).run pins s σ H R I ?_⟩
  rw [evI] at q
  refine ⟨F, P, env, S, Aft.fst q S fun rs env1 vs F1 H1 P1 Pt e1 t s q => ?_⟩
  obtain ⟨r, rfl, q⟩ := q.sole
  obtain ⟨v, rfl, hr⟩ := t.rr.one
  refine ⟨v, rfl, ?_⟩
  have s' : Step F H P F1 H1 P1 := s.wide (fun _ h => h) fun _ h => .inl (.inl h)
  cases r with
  | d x => exact False.elim q
  | own w => exact False.elim q
  | pth j sel =>
    cases sel with
    | cons k sel => exact False.elim q
    | nil =>
      have q' : AftG c Wx σ F H P (match env1[j]? with
        | some (.ok _ (.dct true kvs)) => some (.ok (kvs.map fun kv => .tuple [dKey kv.1, kv.2]), env1)
        | _ => none) (fun xs env' => ∀ F' H' P' J Fx, SR c.K c.G F' H' env' σ P' → Step F H P F' H' P' → Leans F' Fx H' → Walks c Fx F' J xs → R J H') := q
      split at q'
      · rename_i p kvs ej
        have q' : ∀ F' H' P' J Fx, SR c.K c.G F' H' env1 σ P' → Step F H P F' H' P' → Leans F' Fx H' → Walks c Fx F' J (kvs.map fun kv => .tuple [dKey kv.1, kv.2]) → R J H' := q'
        obtain ⟨v0, ev, P0, hw, _⟩ := sr_at t.sr ej
        cases hr with
        | pth q1 q2 =>
          rw [ev] at q1
          cases q1
          obtain rfl := (show v0 = v from q2)
          cases hw with
          | @dlk _ a o us _ h1 h2 h3 =>
            refine ⟨a, o, us, rfl, h1, q' F1 H1 P1 _ (upd F1 a (.frz o (.dK us))) t.sr s' ⟨fun b o' e => ?_, fun b o' e => ?_⟩ (walks_items upd_at h3)⟩
            · by_cases hb : b = a
              · subst hb; rw [upd_same] at e; cases e; exact h1
              · rw [upd_ne hb] at e; exact t.sr.good.sub b o' e
            · by_cases hb : b = a
              · subst hb; rw [upd_same] at e; cases e; exact .inr trivial
              · rw [upd_ne hb] at e; exact .inl e
      · exact False.elim q'
end
end Ev
end

section
set_option Elab.async false
set_option linter.all false
set_option autoImplicit true
set_option maxRecDepth 100000
set_option maxHeartbeats 4000000
/-! EvP: comprehensions. -/
namespace Ev
open PySem PySem.Spec PyProof.Rows L2
section
variable {c : Cfg} {Wx : WX} {T : Tb} {X : Cx} {σ : L2.St} {F F1 F2 F3 H H1 H2 H3 F' H' Fx : Hp} {P P1 P2 P3 Pt Pn Pi Pw Pr : Addr → Prop} {env env1 env3 env' : Env} {rs : List R} {vs : List V} {i : Nat} {tg : Expr} {own : List Nat}
theorem wipeE_get : ∀ {l : List Nat} {env : Env} {j : Nat}, (wipeE env l)[j]? = if j ∈ l ∧ j < env.length then some Slot.no else env[j]?
  | [], env, j => by simp [wipeE]
  | v :: l, env, j => by
    have e : wipeE env (v :: l) = wipeE (env.set v .no) l := rfl
    rw [e, wipeE_get, List.length_set]
    by_cases hj : v = j
    · subst hj
      by_cases hl : v < env.length
      · simp [hl]
      · rw [if_neg fun z => hl z.2, if_neg fun z => hl z.2, List.getElem?_eq_none (by rw [List.length_set]; omega), List.getElem?_eq_none (by omega)]
    · rw [List.getElem?_set_ne hj]
      have : j ∈ v :: l ↔ j ∈ l := by simp [Ne.symm hj]
      simp only [this]
theorem wipeE_length {l : List Nat} : ∀ {env : Env}, (wipeE env l).length = env.length := by
  induction l with
  | nil => intro env; rfl
  | cons v l ih => intro env; show (wipeE (env.set v .no) l).length = _; rw [ih, List.length_set]
theorem SR.of_le {env2 : Env} {σ2 : L2.St} (S : SR c.K c.G F H env σ P) (hl : env2.length = σ2.length) (h : ∀ (i : Nat) p w, env2[i]? = some (.ok p w) → env[i]? = some (.ok p w) ∧ σ2[i]? = σ[i]?) : SR c.K c.G F H env2 σ2 P := by
  obtain ⟨Ps, h1, h2, h3⟩ := S.rel
  refine ⟨hl, S.good, Ps, h1, h2, fun i p w e => ?_⟩
  obtain ⟨e1, e2⟩ := h i p w e
  obtain ⟨v, ev, hw⟩ := h3 i p w e1
  exact ⟨v, by rw [e2]; exact ev, hw⟩
theorem SR.wipe (S : SR c.K c.G F H env σ P) : SR c.K c.G F H (wipeE env own) (L2.wipe σ own) P := by
  refine S.of_le (by rw [wipeE_length, wipe_length, S.len]) fun i p w e => ?_
  rw [wipeE_get] at e
  split at e
  · cases e
  · rename_i hn
    refine ⟨e, ?_⟩
    rw [wipe_get, if_neg]
    rintro ⟨z1, z2⟩
    exact hn ⟨z1, by rw [S.len]; exact z2⟩
theorem SR.unwipe (S : SR c.K c.G F H env (L2.wipe σ own) P) : SR c.K c.G F H env σ P := by
  refine S.of_le (by rw [S.len, wipe_length]) fun i p w e => ⟨e, ?_⟩
  obtain ⟨v, P0, h⟩ : ∃ v, (L2.wipe σ own)[i]? = some (some v) ∧ True := by
    obtain ⟨Ps, _, _, h3⟩ := S.rel
    obtain ⟨v, ev, _⟩ := h3 i p w e
    exact ⟨v, ev, trivial⟩
  rw [P0]
  exact (wipe_some P0).1
/-- a comprehension's loop at a turn: D the new list -/
structure LI (c : Cfg) (D : Addr) (Fx F H : Hp) (env : Env) (σ : L2.St) (P : Addr → Prop) (acc : List W) (avs : List V) (Pa : Addr → Prop) : Prop where
  sr : SR c.K c.G F H env σ P
  ws : WRs c.K c.G F H acc avs Pa
  gd : Good F H Pa
  dj : ∀ a, P a → ¬ Pa a
  at_ : H D = some (.lst avs)
  nP : ¬ P D
  nA : ¬ Pa D
  fD : F D = none
  ln : Leans F Fx H
  xD : Fx D = none
def LI.all (P Pa : Addr → Prop) (D : Addr) : Addr → Prop := fun a => P a ∨ (Pa a ∨ a = D)
/-- what is gathered, and the list, are apart -/
theorem LI.aside {D : Addr} {acc : List W} {avs : List V} {Pa : Addr → Prop} (l : LI c D Fx F H env σ P acc avs Pa) : Good F H (fun a => Pa a ∨ a = D) ∧ ∀ a, P a → ¬ (Pa a ∨ a = D) :=
  ⟨⟨l.sr.good.sub, fun a h => h.elim (l.gd.off a) fun z => by subst z; exact l.fD, fun a h => h.elim (l.gd.trk a) fun z => by subst z; rw [l.at_]; simp⟩, fun a h z => z.elim (l.dj a h) fun z => l.nP (z ▸ h)⟩
theorem LI.move {D : Addr} {acc : List W} {avs : List V} {Pa : Addr → Prop} {σ' : L2.St} (l : LI c D Fx F H env σ P acc avs Pa) (s : Step F H P F' H' P1) (S : SR c.K c.G F' H' env' σ' P1) : LI c D Fx F' H' env' σ' P1 acc avs Pa ∧ Step F H (LI.all P Pa D) F' H' (LI.all P1 Pa D) := by
  obtain ⟨g, dj⟩ := l.aside
  obtain ⟨g', dj', kp⟩ := s.aside g dj S.good
  refine ⟨⟨S, l.ws.stay s.ext fun a o h e => kp a o (.inl h) e, g'.less fun a h => .inl h, fun a h z => dj' a h (.inl z), kp D _ (.inr rfl) l.at_, fun z => dj' D z (.inr rfl), l.nA, g'.off D (.inr rfl), l.ln.step s S.good.sub, l.xD⟩, ?_⟩
  exact s.wide (fun _ h => .inl h) fun a h => h.elim .inl fun z => .inr (.inl (.inr z))
/-- one more -/
theorem LI.add {D : Addr} {acc : List W} {avs : List V} {Pa : Addr → Prop} {w : W} {y : V} (l : LI c D Fx F H env σ P acc avs Pa) (hw : WR c.K c.G F H w y Pw) (g : Good F H Pw) (dj : ∀ a, P a → ¬ Pw a) (dj2 : ∀ a, Pw a → ¬ (Pa a ∨ a = D)) :
    LI c D Fx F (upd H D (.lst (avs ++ [y]))) env σ P (acc ++ [w]) (avs ++ [y]) (fun a => Pa a ∨ Pw a) ∧ Step F H (fun a => LI.all P Pa D a ∨ Pw a) F (upd H D (.lst (avs ++ [y]))) (LI.all P (fun a => Pa a ∨ Pw a) D) := by
  have nw : ∀ b, Pw b → b ≠ D := fun b hb z => dj2 b hb (.inr z)
  have na : ∀ b, Pa b → b ≠ D := fun b hb z => l.nA (z ▸ hb)
  have np : ∀ b, P b → b ≠ D := fun b hb z => l.nP (z ▸ hb)
  have sb : Sub F (upd H D (.lst (avs ++ [y]))) := fun a o e => by
    have : a ≠ D := by rintro rfl; rw [l.fD] at e; cases e
    rw [upd_ne this]
    exact l.sr.good.sub a o e
  have gu : ∀ {Q : Addr → Prop}, Good F H Q → (∀ b, Q b → b ≠ D) → Good F (upd H D (.lst (avs ++ [y]))) Q := fun {Q} g n => ⟨sb, g.off, fun a h => by rw [upd_ne (n a h)]; exact g.trk a h⟩
  refine ⟨⟨?_, (lst_up l.ws na).append (.cons (P1 := Pw) (P2 := fun _ => False) (fun b hb => ⟨hb, id⟩) (fun _ z => z.elim) (wr_up hw nw) .nil) (fun a h z => dj2 a z (.inl h)), gu (l.gd.or g) fun b h => h.elim (na b) (nw b), fun a h z => z.elim (l.dj a h) (dj a h), upd_at, l.nP, fun z => z.elim l.nA fun z => nw D z rfl, l.fD, ⟨fun a o e => ?_, l.ln.of⟩, l.xD⟩, ?_⟩
  · obtain ⟨Ps, h1, h2, h3⟩ := l.sr.rel
    exact ⟨l.sr.len, gu l.sr.good np, Ps, h1, h2, fun i p w e => let ⟨v, ev, hw⟩ := h3 i p w e; ⟨v, ev, wr_up hw fun b hb => np b (h1 i b hb)⟩⟩
  · have : a ≠ D := by rintro rfl; rw [l.xD] at e; cases e
    rw [upd_ne this]
    exact l.ln.in_ a o e
  · refine Step.updP (.inl (.inr (.inr rfl))) l.at_ (fun z => z) fun a h => ?_
    rcases h with h | (h | h) | h
    · exact .inl (.inl h)
    · exact .inl (.inr (.inl h))
    · exact .inr h
    · exact .inl (.inr (.inr h))
/-- the tests of a comprehension -/
def rdC (c : Cfg) (Wx : WX) (T : Tb) (e : E) : TT := if e.isNil = true then tYes else rdT c Wx T e
def condM (T : Tb) (e : E) : M Bool := if e.isNil = true then ret true else bnd (ev T e) fun xs => bnd (sole xs) truM
def elM (T : Tb) (e : E) : M W := bnd (ev T e) fun xs => bnd (sole xs) toW
theorem rdC_run {e : E} {Q : Bool → Hp → Prop} {b : Bool} (S : SR c.K c.G F H env σ P) (h : condM T e env = some (.ok b, env1)) (k : ∀ F1 H1 P1, SR c.K c.G F1 H1 env1 σ P1 → Step F H P F1 H1 P1 → Q b H1) : rdC c Wx T e σ H Q := by
  unfold rdC condM at *
  split
  · rename_i hn
    rw [if_pos hn] at h
    cases h
    exact k F H P S (Step.refl F H P)
  · rename_i hn
    rw [if_neg hn] at h
    refine ⟨F, P, env, S, ?_⟩
    rw [h]
    exact fun F' H' P' S' st => k F' H' P' S' st
theorem elM_run {e : E} {Q : VK} {w : W} (S : SR c.K c.G F H env σ P) (h : elM T e env = some (.ok w, env1)) (k : ∀ y F1 H1 P1 Pw, SR c.K c.G F1 H1 env1 σ P1 → WR c.K c.G F1 H1 w y Pw → Good F1 H1 Pw → (∀ a, P1 a → ¬ Pw a) → Step F H P F1 H1 (fun a => P1 a ∨ Pw a) → Q y H1) : rdE c Wx T e σ H Q := by
  obtain ⟨rs, env2, e1, e2⟩ := bnd_ok h
  obtain ⟨r, env3, e3, e4⟩ := bnd_ok e2
  obtain ⟨rfl, e5⟩ := sole_ok e3
  rw [e5] at e4
  refine ⟨F, P, env, S, ?_⟩
  rw [e1]
  intro vs F1 H1 P1 Pt t s
  obtain ⟨v, rfl, hr⟩ := t.rr.one
  refine ⟨v, rfl, ?_⟩
  obtain ⟨F2, P2, Pw, Pt2, hw, g, dj, t2, st⟩ := toW_run t e4
  exact k v F2 H1 P2 Pw t2.sr hw g (fun a h => dj a (.inl h)) (s.trans (st.wide (fun _ h => h) fun a h => .inl (h.imp .inl id)))
theorem lcL_eq {as : D → M Unit} {cm : M Bool} {el : M W} {x : D} {xs : List D} {acc : List W} {ws : List W} (h : lcL own as cm el (x :: xs) acc env = some (.ok ws, env')) :
    ∃ e1 b e2, as x env = some (.ok (), e1) ∧ cm e1 = some (.ok b, e2) ∧ ((b = true ∧ ∃ w e3, el e2 = some (.ok w, e3) ∧ acc.length < big ∧ lcL own as cm el xs (acc ++ [w]) (wipeE e3 own) = some (.ok ws, env')) ∨ (b = false ∧ lcL own as cm el xs acc (wipeE e2 own) = some (.ok ws, env'))) := by
  rw [lcL] at h
  obtain ⟨_, e1, h1, h⟩ := bnd_ok h
  obtain ⟨b, e2, h2, h⟩ := bnd_ok h
  refine ⟨e1, b, e2, h1, h2, ?_⟩
  cases b with
  | true =>
    rw [if_pos rfl] at h
    obtain ⟨w, e3, h3, h⟩ := bnd_ok h
    by_cases hz : acc.length < big
    · rw [if_pos hz] at h; exact .inl ⟨rfl, w, e3, h3, hz, h⟩
    · rw [if_neg hz] at h; cases h
  | false => exact .inr ⟨rfl, h⟩
theorem LI.reE {D : Addr} {acc : List W} {avs : List V} {Pa : Addr → Prop} {σ' : L2.St} (l : LI c D Fx F H env σ P acc avs Pa) (S : SR c.K c.G F H env' σ' P) : LI c D Fx F H env' σ' P acc avs Pa := ⟨S, l.ws, l.gd, l.dj, l.at_, l.nP, l.nA, l.fD, l.ln, l.xD⟩
theorem LI.fresh {D : Addr} {acc : List W} {avs : List V} {Pa : Addr → Prop} (l : LI c D Fx F H env σ P acc avs Pa) (n : New F H F' H' fun _ => False) : LI c D Fx F' H' env σ P acc avs Pa ∧ Step F H (LI.all P Pa D) F' H' (LI.all P Pa D) := by
  obtain ⟨S, _, st⟩ := l.sr.new n
  exact l.move (st.wide (fun _ h => h) fun a h => .inl (.inl h)) S
theorem wipe_wipe : L2.wipe (L2.wipe σ own) own = L2.wipe σ own := by
  apply List.ext_getElem?
  intro j
  rw [wipe_get (σ := L2.wipe σ own), wipe_length, wipe_get]
  split <;> rfl
/-- a loop that gathers -/
theorem lc_loop {D : Addr} {t cE elt : E} {xs : List Ev.D} {ws acc : List W} {avs : List V} {Pa : Addr → Prop} {J : It} {F0 : Hp} {Qd : Hp → Prop} (w : Walks c Fx F0 J xs) (hn : ∀ i ∈ t.names, i ∈ own) (l : LI c D Fx F H env (L2.wipe σ own) P acc avs Pa) (s0 : Sub F0 F)
    (e : lcL own (fun x => asg T t [.d x]) (condM T cE) (elM T elt) xs acc env = some (.ok ws, env'))
    (k : ∀ F' H' P' avs' Pa', LI c D Fx F' H' env' (L2.wipe σ own) P' ws avs' Pa' → Step F H (LI.all P Pa D) F' H' (LI.all P' Pa' D) → Qd H') :
    ∃ W : Nat → Nat → Hp → Prop, (∃ m, W 0 m H) ∧ ∀ i m H, W i m H →
      (J.stop i H ∧ Qd H) ∨ (J.go i H ∧ ∃ Nx : Hp → Prop, (∀ H', Nx H' → ∃ m', m' < m ∧ W (i + 1) m' H') ∧ ∀ x H', J.yld i H x H' → rdG c T t x (L2.wipe σ own) H' fun σ2 H2 => L2.wipe σ2 own = L2.wipe σ own ∧ rdC c Wx T cE σ2 H2 fun b H3 =>
        if b = true then rdE c Wx T elt σ2 H3 fun y H4 => ∃ acc, H4 D = some (.lst acc) ∧ acc.length < sizeLine ∧ Nx (upd H4 D (.lst (acc ++ [y]))) else Nx H3) := by
  refine ⟨fun i m H' => m = xs.length - i ∧ i ≤ xs.length ∧ ∃ F' env1 P' acc' avs' Pa', LI c D Fx F' H' env1 (L2.wipe σ own) P' acc' avs' Pa' ∧ Sub F0 F' ∧ Step F H (LI.all P Pa D) F' H' (LI.all P' Pa' D) ∧ lcL own (fun x => asg T t [.d x]) (condM T cE) (elM T elt) (xs.drop i) acc' env1 = some (.ok ws, env'),
    ⟨xs.length, rfl, Nat.zero_le _, F, env, P, acc, avs, Pa, l, s0, Step.refl _ _ _, by simpa using e⟩, ?_⟩
  rintro i m H' ⟨rfl, hi, F', env1, P', acc', avs', Pa', l', s0', st, e'⟩
  obtain ⟨w1, w2⟩ := w i F' H' s0' l'.ln.in_ l'.sr.good.sub
  by_cases hlt : i < xs.length
  · have ed : xs.drop i = xs[i] :: xs.drop (i + 1) := List.drop_eq_getElem_cons hlt
    rw [ed] at e'
    obtain ⟨go, yl⟩ := w1 _ (List.getElem?_eq_getElem hlt)
    refine .inr ⟨go, fun H2 => (xs.length - (i + 1) = xs.length - (i + 1) ∧ i + 1 ≤ xs.length ∧ ∃ F' env1 P' acc' avs' Pa', LI c D Fx F' H2 env1 (L2.wipe σ own) P' acc' avs' Pa' ∧ Sub F0 F' ∧ Step F H (LI.all P Pa D) F' H2 (LI.all P' Pa' D) ∧ lcL own (fun x => asg T t [.d x]) (condM T cE) (elM T elt) (xs.drop (i + 1)) acc' env1 = some (.ok ws, env')),
      fun H2 h => ⟨xs.length - (i + 1), by omega, h⟩, fun x Hx hy => ?_⟩
    obtain ⟨Fx', nx, dx⟩ := yl x Hx hy
    obtain ⟨l1, st1⟩ := l'.fresh nx
    obtain ⟨e1, b, e2, h1, h2, h3⟩ := lcL_eq e'
    refine ⟨Fx', P', env1, fun _ => False, .d xs[i], e1, ⟨l1.sr, RRs.mk1 (.d dx), fun _ _ z => z, Good.none l1.sr.good.sub⟩, h1, fun σ2 F2 H2 P2 S2 sg on => ⟨(on.wipe hn).trans wipe_wipe, ?_⟩⟩
    have sg' : Step Fx' Hx P' F2 H2 P2 := sg.wide (fun a h => h.elim id fun z => z.elim) fun _ h => .inl h
    obtain ⟨l2, st2⟩ := l1.move sg' S2
    refine rdC_run S2 h2 fun F3 H3 P3 S3 sc => ?_
    obtain ⟨l3, st3⟩ := l2.move sc S3
    have sA := st.trans (st1.trans (st2.trans st3))
    have hw0 : L2.wipe σ2 own = L2.wipe σ own := (on.wipe hn).trans wipe_wipe
    rcases h3 with ⟨rfl, wv, e3, h4, hz, h5⟩ | ⟨rfl, h5⟩
    · rw [if_pos rfl]
      refine elM_run S3 h4 fun y F4 H4 P4 Pw S4 hwv gw djw se => ?_
      obtain ⟨gq, dq, kq⟩ := se.aside l3.aside.1 l3.aside.2 (S4.good.or gw)
      obtain ⟨l4, st4⟩ := l3.move (se.wide (fun _ h => h) fun a h => .inl (.inl h)) S4
      obtain ⟨l5, st5⟩ := l4.add hwv gw djw fun a h => dq a (.inr h)
      refine ⟨avs', l4.at_, by rw [← l4.ws.length]; exact big_lt hz, rfl, hlt, F4, wipeE e3 own, P4, acc' ++ [wv], avs' ++ [y], _, l5.reE (by rw [← hw0]; exact l5.sr.wipe), ((s0'.trans nx.ext).trans (sg.ext.trans (sc.ext.trans se.ext))), ?_, h5⟩
      refine sA.trans (Step.trans (F1 := F4) (H1 := H4) (P1 := fun a => LI.all P4 Pa' D a ∨ Pw a) ?_ st5)
      refine se.wide (fun _ h => .inl h) fun a h => ?_
      rcases h with (h | h) | h
      · exact .inl (.inl h)
      · exact .inr (.inl (.inr h))
      · exact .inl (.inr h)
    · rw [if_neg (by decide)]
      exact ⟨rfl, hlt, F3, wipeE e2 own, P3, acc', avs', Pa', l3.reE (by rw [← hw0]; exact l3.sr.wipe), ((s0'.trans nx.ext).trans (sg.ext.trans sc.ext)), sA, h5⟩
  · have e : i = xs.length := by omega
    subst e
    rw [List.drop_length, lcL] at e'
    cases e'
    exact .inl ⟨w2 (List.getElem?_eq_none (Nat.le_refl _)), k F' H' P' avs' Pa' l' st⟩
end
end Ev
end

section
set_option Elab.async false
set_option linter.all false
set_option autoImplicit true
set_option maxRecDepth 100000
set_option maxHeartbeats 4000000
/-! EvQ: list comprehensions, locks. -/
namespace Ev
open PySem PySem.Spec PyProof.Rows L2
section
variable {c : Cfg} {Wx Wy : WX} {T : Tb} {X : Cx} {σ : L2.St} {F F1 F2 F3 H H1 H2 H3 F' H' Fx : Hp} {P P1 P2 P3 Pt Pn Pi Pw Pr : Addr → Prop} {env env1 env3 env' : Env} {rs : List R} {vs : List V} {i : Nat} {tg : Expr} {own : List Nat}
/-- a reading by what the evaluator does -/
def rdM (c : Cfg) (Wx : WX) (m : M (List R)) : TE := fun σ H Q => ∃ F P env, SR c.K c.G F H env σ P ∧ Aft c Wx σ F H P (m env) fun vs H' => ∃ v, vs = [v] ∧ Q v H'
def lcM (T : Tb) (own : List Nat) (t it cE elt : E) : M (List R) := bnd (evI T it) fun src env => match lcL own (fun x => asg T t [.d x]) (condM T cE) (elM T elt) src [] (wipeE env own) with
  | some (.ok ws, e) => some (.ok [.own (.lst ws)], e)
  | _ => none
theorem ev_lc {t it cE elt : E} : ev T (.lc own t it cE elt) = whileLk it (lcM T own t it cE elt) := by
  rw [ev]
  rfl
theorem LI.begin {D : Addr} (S : SR c.K c.G F H env σ P) (ln : Leans F Fx H) (hD : H D = none) : LI c D Fx F (upd H D (.lst [])) (wipeE env own) (L2.wipe σ own) P [] [] (fun _ => False) ∧ Step F H P F (upd H D (.lst [])) (LI.all P (fun _ => False) D) := by
  obtain ⟨S', _, st⟩ := S.new (New.own S.good.sub hD (o := .lst []))
  refine ⟨⟨S'.wipe, .nil, Good.none S'.good.sub, fun _ _ z => z, upd_at, fun z => S.good.trk D z hD, id, off_of S.good.sub hD, ⟨fun a o e => ?_, ln.of⟩, ?_⟩, ?_⟩
  · have q := ln.in_ a o e
    rw [upd_ne (ne_of_none q hD)]; exact q
  · cases e : Fx D with
    | none => rfl
    | some o => rw [ln.in_ D o e] at hD; cases hD
  · exact st.wide (fun _ h => h) fun a h => h.elim (fun h => .inl (.inl h)) fun h => h.elim (fun z => z.elim) fun h => .inl (.inr h)
theorem LI.end_ {D : Addr} {ws : List W} {avs : List V} {Pa : Addr → Prop} (l : LI c D Fx F H env (L2.wipe σ own) P ws avs Pa) : Tm c F H env σ P [.own (.lst ws)] [.ref D] fun a => Pa a ∨ a = D :=
  ⟨l.sr.unwipe, RRs.mk1 (.own (.lst (P' := Pa) l.at_ (.inr rfl) (fun b hb => ⟨.inl hb, fun z => l.nA (z ▸ hb)⟩) l.ws)), l.aside.2, l.aside.1⟩
theorem rd_lc {t it cE elt : E} {Q : VK} (hn : ∀ i ∈ t.names, i ∈ own) (q : rdM c Wx (lcM T own t it cE elt) σ H Q) : tLc (rdI c Wx T it) (rdG c T t) (rdC c Wy T cE) (rdE c Wy T elt) own σ H Q := by
  obtain ⟨F, P, env, S, q⟩ := q
  refine ⟨F, P, env, S, ?_⟩
  unfold lcM bnd at q
  cases e : evI T it env with
  | none => rw [e] at q; exact q
  | some p =>
    obtain ⟨p, env1⟩ := p
    rw [e] at q
    cases p with
    | ex x => exact q
    | ok xs =>
      intro F1 H1 P1 J Fx S1 st ln w D hD
      simp only at q
      cases el : lcL own (fun x => asg T t [.d x]) (condM T cE) (elM T elt) xs [] (wipeE env1 own) with
      | none => rw [el] at q; exact False.elim q
      | some pr =>
        obtain ⟨pr, e'⟩ := pr
        rw [el] at q
        cases pr with
        | ex x => exact False.elim q
        | ok ws =>
          obtain ⟨l, sl⟩ := LI.begin (own := own) S1 ln hD
          refine lc_loop w hn l (Sub.refl F1) el fun F' H' P' avs' Pa' l' st' => ?_
          obtain ⟨v, ev, q⟩ := q [.ref D] F' H' P' _ l'.end_ (st.trans (sl.trans st'))
          cases ev
          exact q
/-! ### a dict that is locked meanwhile -/
theorem lockFor_cases (it : E) (env : Env) : lockFor it env = (none, env) ∨ ∃ i p kvs, env[i]? = some (.ok p (.dct false kvs)) ∧ lockFor it env = (some i, env.set i (.ok p (.dct true kvs))) := by
  unfold lockFor
  split
  · split
    · rename_i p kvs e; exact .inr ⟨_, p, kvs, e, rfl⟩
    · exact .inl rfl
  · split
    · rename_i p kvs e; exact .inr ⟨_, p, kvs, e, rfl⟩
    · exact .inl rfl
  · exact .inl rfl
/-- the state while it is locked -/
theorem SR.lockD {p : Bool} {kvs : List (Key × Ev.D)} (S : SR c.K c.G F H env σ P) (e : env[i]? = some (.ok p (.dct false kvs))) :
    ∃ a us, σ[i]? = some (some (.ref a)) ∧ H a = some (.dK us) ∧ P a ∧ ∀ od, SR c.K c.G F (upd H a (.frz od (.dK us))) (env.set i (.ok p (.dct true kvs))) σ P := by
  obtain ⟨v, u, P1, ev, hp, hw, hs, hk⟩ := S.hole (sel := []) e rfl
  obtain rfl := (show v = u from hp)
  cases hw with
  | @dct _ a us _ h1 h2 h3 =>
    refine ⟨a, us, ev, h1, hs a h2, fun od => ?_⟩
    have gd : ∀ {Q : Addr → Prop}, (∀ b, Q b → P b) → Good F (upd H a (.frz od (.dK us))) Q := fun {Q} h => S.good.updP (hs a h2) h
    obtain ⟨w', ep, S'⟩ := hk F (upd H a (.frz od (.dK us))) (.dct true kvs) P1 (Sub.refl F) (fun b o _ hn eb => by rw [upd_ne (show b ≠ a from fun z => hn (by rw [z]; exact h2))]; exact eb) (fun b h _ => h) (.dlk (o := od) upd_at h2 h3) (gd fun b h => h.elim (fun h => h.1) (hs b))
    cases ep
    obtain ⟨Ps, q1, q2, q3⟩ := S'.rel
    refine ⟨S'.len, gd fun _ h => h, Ps, fun j b h => ?_, q2, q3⟩
    exact (q1 j b h).elim (fun h => h.1) (hs b)
theorem SR.unlockD {p : Bool} {kvs : List (Key × Ev.D)} {a : Addr} {od : Obj} {us : List (Key × V)} (S : SR c.K c.G F H env σ P) (e : env[i]? = some (.ok p (.dct true kvs))) (ev : σ[i]? = some (some (.ref a))) (hd : H a = some (.frz od (.dK us))) :
    P a ∧ SR c.K c.G F (upd H a (.dK us)) (env.set i (.ok p (.dct false kvs))) σ P := by
  obtain ⟨v, u, P1, ev', hp, hw, hs, hk⟩ := S.hole (sel := []) e rfl
  obtain rfl := (show v = u from hp)
  rw [ev] at ev'
  cases ev'
  cases hw with
  | @dlk _ _ o us' _ h1 h2 h3 =>
    rw [hd] at h1
    cases h1
    have gd : ∀ {Q : Addr → Prop}, (∀ b, Q b → P b) → Good F (upd H a (.dK us)) Q := fun {Q} h => S.good.updP (hs a h2) h
    obtain ⟨w', ep, S'⟩ := hk F (upd H a (.dK us)) (.dct false kvs) P1 (Sub.refl F) (fun b o _ hn eb => by rw [upd_ne (show b ≠ a from fun z => hn (by rw [z]; exact h2))]; exact eb) (fun b h _ => h) (.dct upd_at h2 h3) (gd fun b h => h.elim (fun h => h.1) (hs b))
    cases ep
    obtain ⟨Ps, q1, q2, q3⟩ := S'.rel
    refine ⟨hs a h2, S'.len, gd fun _ h => h, Ps, fun j b h => ?_, q2, q3⟩
    exact (q1 j b h).elim (fun h => h.1) (hs b)
/-- the whole step: locked, something done, unlocked -/
theorem Step.locked {a : Addr} {od : Obj} {us : List (Key × V)} (h1 : H a = some (.dK us)) (hp : P a) (s : Step F (upd H a (.frz od (.dK us))) P F' H' P') : Step F H P F' (upd H' a (.dK us)) P' := by
  have ne : ∀ b o, H b = some o → (¬ P b ∨ IsFrz o) → b ≠ a := fun b o e h z => by
    subst z
    rcases h with h | h
    · exact h hp
    · rw [h1] at e; cases e; exact h
  refine ⟨s.ext, fun b o e h => ?_, fun b h => ?_, fun b o e => ?_⟩
  · rw [upd_ne (ne b o e h)]
    exact s.keep b o (by rw [upd_ne (ne b o e h)]; exact e) h
  · rcases s.frP b h with z | z
    · exact .inl z
    · by_cases hb : b = a
      · subst hb; exact .inl hp
      · rw [upd_ne hb] at z; exact .inr z
  · rcases s.frF b o e with z | z | z
    · exact .inl z
    · exact .inr (.inl z)
    · by_cases hb : b = a
      · subst hb; exact .inr (.inl hp)
      · rw [upd_ne hb] at z; exact .inr (.inr z)
theorem e_lock {e : Expr} {it : E} {m : M (List R)} (hm : ∀ env rs env', m env = some (.ok rs, env') → ∀ r ∈ rs, r.held) (h : PE X e (rdM c Wx m)) : PE X e (rdM c Wx (whileLk it m)) := by
  refine ⟨fun pins s σ H Q I ⟨F, P, env, S, q⟩ => ?_⟩
  unfold whileLk at q
  cases e1 : m (lockFor it env).2 with
  | none => rw [e1] at q; exact False.elim q
  | some pr =>
    obtain ⟨pr, e2⟩ := pr
    rw [e1] at q
    cases pr with
    | ex x => exact False.elim q
    | ok rs =>
      simp only at q
      rcases lockFor_cases it env with hl | ⟨i, p, kvs, ei, hl⟩
      · rw [hl] at e1 q
        refine h.run pins s σ H Q I ⟨F, P, env, S, ?_⟩
        rw [e1]
        exact q
      · rw [hl] at e1 q
        simp only at e1 q
        obtain ⟨a, us, ev, h1, hp, hS⟩ := S.lockD ei
        refine (pe_lock h).run pins s σ H Q I ⟨a, .dK us, h1, trivial, fun od => ?_⟩
        refine ⟨F, P, _, hS od, ?_⟩
        rw [e1]
        intro vs F2 H2 P2 Pt2 t s2
        cases eu : unlock (some i) e2 with
        | none => rw [eu] at q; exact False.elim q
        | some e3 =>
          rw [eu] at q
          unfold unlock at eu
          simp only at eu
          split at eu
          · rename_i p' kvs' e4
            cases eu
            have h2 : H2 a = some (.frz od (.dK us)) := s2.keep a _ upd_at (.inr trivial)
            obtain ⟨hp2, S3⟩ := t.sr.unlockD e4 ev h2
            have nt : ∀ b, Pt2 b → b ≠ a := fun b hb z => t.dj a hp2 (z ▸ hb)
            have kt : ∀ b o, Pt2 b → H2 b = some o → upd H2 a (.dK us) b = some o := fun b o hb e => by rw [upd_ne (nt b hb)]; exact e
            have t3 : Tm c F2 (upd H2 a (.dK us)) _ σ P2 rs vs Pt2 := ⟨S3, t.rr.stay (Sub.refl F2) kt (hm _ _ _ e1), t.dj, ⟨S3.good.sub, t.gt.off, fun b hb => by rw [upd_ne (nt b hb)]; exact t.gt.trk b hb⟩⟩
            obtain ⟨v, ev, q⟩ := q vs F2 _ P2 Pt2 t3 (Step.locked h1 hp s2)
            exact ⟨v, ev, h2, q⟩
          · cases eu
theorem lc_held {t it cE elt : E} : ∀ env rs env', lcM T own t it cE elt env = some (.ok rs, env') → ∀ r ∈ rs, r.held := by
  intro env rs env' h
  obtain ⟨xs, e1, _, h⟩ := bnd_ok h
  split at h
  · cases h
    intro r hr
    simp at hr
    subst hr
    trivial
  · cases h
theorem e_lc {elt tg iter : Expr} {ifs : List Expr} {scope : Scope} {ow : List (Str × Nat)} {pos : Pos} {t it cE el : E} (hc : X.calm = true) (hN : X.N.Nodup) (hi : PI X tg iter (rdI c Wx T it)) (ok : BlkOk X.N X.env.scope scope ow)
    (hn : ∀ i ∈ t.names, i ∈ ow.map (·.2))
    (hg : ∀ (s : Shared) (H : Hp) (C : Addr) (cl : List (Str × Addr)) (fp : List Addr), PG (X.blk s H scope (compEnvC scope cl C X.env) fp) tg (rdG c T t)) (ht : ∀ (s : Shared) (H : Hp) (C : Addr) (cl : List (Str × Addr)) (fp : List Addr), PTs (X.blk s H scope (compEnvC scope cl C X.env) fp) ifs (rdC c Wy T cE))
    (he : ∀ (s : Shared) (H : Hp) (C : Addr) (cl : List (Str × Addr)) (fp : List Addr), PE (X.blk s H scope (compEnvC scope cl C X.env) fp) elt (rdE c Wy T el)) (hs : ∀ x, foldedSetIterable iter X.env x = pure x) :
    PE X (.ListComp elt [⟨tg, iter, ifs, 0⟩] scope pos) (rdE c Wx T (.lc (ow.map (·.2)) t it cE el)) := by
  have h1 : PE X (.ListComp elt [⟨tg, iter, ifs, 0⟩] scope pos) (rdM c Wx (lcM T (ow.map (·.2)) t it cE el)) := (pe_lc hc hN hi ok hg ht he hs).imp fun _ _ _ => rd_lc hn
  have h2 := e_lock (it := it) lc_held h1
  rw [← ev_lc] at h2
  exact h2
end
end Ev
end

section
set_option Elab.async false
set_option linter.all false
set_option autoImplicit true
set_option maxRecDepth 100000
set_option maxHeartbeats 4000000
/-! EvR: comprehensions with two clauses. -/
namespace Ev
open PySem PySem.Spec PyProof.Rows L2
section
variable {c : Cfg} {Wx Wy : WX} {T : Tb} {X : Cx} {σ : L2.St} {F F1 F2 F3 H H1 H2 H3 F' H' Fx Fy : Hp} {P P1 P2 P3 Pt Pn Pi Pw Pr : Addr → Prop} {env env1 env3 env' : Env} {rs : List R} {vs : List V} {i : Nat} {tg : Expr} {own own2 : List Nat}
def inM (T : Tb) (own2 : List Nat) (t2 it2 c2 elt : E) (acc : List W) : M (List W) := bnd (evI T it2) fun src2 env2 => lcL own2 (fun x => asg T t2 [.d x]) (condM T c2) (elM T elt) src2 acc (wipeE env2 own2)
theorem lcO_eq {as : D → M Unit} {cm : M Bool} {inner : List W → M (List W)} {x : D} {xs : List D} {acc : List W} {ws : List W} (h : lcO own as cm inner (x :: xs) acc env = some (.ok ws, env')) :
    ∃ e1 b e2, as x env = some (.ok (), e1) ∧ cm e1 = some (.ok b, e2) ∧ ((b = true ∧ ∃ acc' e3, inner acc e2 = some (.ok acc', e3) ∧ lcO own as cm inner xs acc' (wipeE e3 own) = some (.ok ws, env')) ∨ (b = false ∧ lcO own as cm inner xs acc (wipeE e2 own) = some (.ok ws, env'))) := by
  rw [lcO] at h
  obtain ⟨_, e1, h1, h⟩ := bnd_ok h
  obtain ⟨b, e2, h2, h⟩ := bnd_ok h
  refine ⟨e1, b, e2, h1, h2, ?_⟩
  cases b with
  | true =>
    rw [if_pos rfl] at h
    obtain ⟨w, e3, h3, h⟩ := bnd_ok h
    exact .inl ⟨rfl, w, e3, h3, h⟩
  | false => exact .inr ⟨rfl, h⟩
theorem LI.lean {D : Addr} {acc : List W} {avs : List V} {Pa : Addr → Prop} (l : LI c D Fx F H env σ P acc avs Pa) (ln : Leans F Fy H) : LI c D Fy F H env σ P acc avs Pa := by
  refine ⟨l.sr, l.ws, l.gd, l.dj, l.at_, l.nP, l.nA, l.fD, ln, ?_⟩
  cases e : Fy D with
  | none => rfl
  | some o =>
    have q := ln.in_ D o e
    rw [l.at_] at q
    cases q
    rcases ln.of D _ e with z | z
    · rw [l.fD] at z; cases z
    · exact z.elim
/-- the loop of the first clause -/
theorem lc_loopO {D : Addr} {t cE t2 it2 c2 elt : E} {xs : List Ev.D} {ws acc : List W} {avs : List V} {Pa : Addr → Prop} {J : It} {F0 : Hp} {Qd : Hp → Prop} (w : Walks c Fx F0 J xs) (hn : ∀ i ∈ t.names, i ∈ own) (hn2 : ∀ i ∈ t2.names, i ∈ own2) (l : LI c D Fx F H env (L2.wipe σ own) P acc avs Pa) (s0 : Sub F0 F)
    (e : lcO own (fun x => asg T t [.d x]) (condM T cE) (inM T own2 t2 it2 c2 elt) xs acc env = some (.ok ws, env'))
    (k : ∀ F' H' P' avs' Pa', LI c D Fx F' H' env' (L2.wipe σ own) P' ws avs' Pa' → Step F H (LI.all P Pa D) F' H' (LI.all P' Pa' D) → Qd H') :
    ∃ W : Nat → Nat → Hp → Prop, (∃ m, W 0 m H) ∧ ∀ i m H, W i m H →
      (J.stop i H ∧ Qd H) ∨ (J.go i H ∧ ∃ Nx : Hp → Prop, (∀ H', Nx H' → ∃ m', m' < m ∧ W (i + 1) m' H') ∧ ∀ x H', J.yld i H x H' → rdG c T t x (L2.wipe σ own) H' fun σ2 H2 => L2.wipe σ2 own = L2.wipe σ own ∧ rdC c Wx T cE σ2 H2 fun b H3 =>
        if b = true then rdI c Wx T it2 σ2 H3 fun J1 H4 => ∃ W1 : Nat → Nat → Hp → Prop, (∃ m, W1 0 m H4) ∧ ∀ j k H, W1 j k H →
          (J1.stop j H ∧ Nx H) ∨ (J1.go j H ∧ ∃ Nx1 : Hp → Prop, (∀ H', Nx1 H' → ∃ k', k' < k ∧ W1 (j + 1) k' H') ∧ ∀ x H', J1.yld j H x H' → rdG c T t2 x (L2.wipe σ2 own2) H' fun σ3 H5 => L2.wipe σ3 own2 = L2.wipe σ2 own2 ∧ rdC c Wx T c2 σ3 H5 fun b H6 =>
            if b = true then rdE c Wx T elt σ3 H6 fun y H7 => ∃ acc, H7 D = some (.lst acc) ∧ acc.length < sizeLine ∧ Nx1 (upd H7 D (.lst (acc ++ [y]))) else Nx1 H6)
        else Nx H3) := by
  refine ⟨fun i m H' => m = xs.length - i ∧ i ≤ xs.length ∧ ∃ F' env1 P' acc' avs' Pa', LI c D Fx F' H' env1 (L2.wipe σ own) P' acc' avs' Pa' ∧ Sub F0 F' ∧ Step F H (LI.all P Pa D) F' H' (LI.all P' Pa' D) ∧ lcO own (fun x => asg T t [.d x]) (condM T cE) (inM T own2 t2 it2 c2 elt) (xs.drop i) acc' env1 = some (.ok ws, env'),
    ⟨xs.length, rfl, Nat.zero_le _, F, env, P, acc, avs, Pa, l, s0, Step.refl _ _ _, by simpa using e⟩, ?_⟩
  rintro i m H' ⟨rfl, hi, F', env1, P', acc', avs', Pa', l', s0', st, e'⟩
  obtain ⟨w1, w2⟩ := w i F' H' s0' l'.ln.in_ l'.sr.good.sub
  by_cases hlt : i < xs.length
  · have ed : xs.drop i = xs[i] :: xs.drop (i + 1) := List.drop_eq_getElem_cons hlt
    rw [ed] at e'
    obtain ⟨go, yl⟩ := w1 _ (List.getElem?_eq_getElem hlt)
    refine .inr ⟨go, fun H2 => (xs.length - (i + 1) = xs.length - (i + 1) ∧ i + 1 ≤ xs.length ∧ ∃ F' env1 P' acc' avs' Pa', LI c D Fx F' H2 env1 (L2.wipe σ own) P' acc' avs' Pa' ∧ Sub F0 F' ∧ Step F H (LI.all P Pa D) F' H2 (LI.all P' Pa' D) ∧ lcO own (fun x => asg T t [.d x]) (condM T cE) (inM T own2 t2 it2 c2 elt) (xs.drop (i + 1)) acc' env1 = some (.ok ws, env')),
      fun H2 h => ⟨xs.length - (i + 1), by omega, h⟩, fun x Hx hy => ?_⟩
    obtain ⟨Fx', nx, dx⟩ := yl x Hx hy
    obtain ⟨l1, st1⟩ := l'.fresh nx
    obtain ⟨e1, b, e2, h1, h2, h3⟩ := lcO_eq e'
    refine ⟨Fx', P', env1, fun _ => False, .d xs[i], e1, ⟨l1.sr, RRs.mk1 (.d dx), fun _ _ z => z, Good.none l1.sr.good.sub⟩, h1, fun σ2 F2 H2 P2 S2 sg on => ⟨(on.wipe hn).trans wipe_wipe, ?_⟩⟩
    have sg' : Step Fx' Hx P' F2 H2 P2 := sg.wide (fun a h => h.elim id fun z => z.elim) fun _ h => .inl h
    obtain ⟨l2, st2⟩ := l1.move sg' S2
    refine rdC_run S2 h2 fun F3 H3 P3 S3 sc => ?_
    obtain ⟨l3, st3⟩ := l2.move sc S3
    have sA := st.trans (st1.trans (st2.trans st3))
    have hw0 : L2.wipe σ2 own = L2.wipe σ own := (on.wipe hn).trans wipe_wipe
    have sF : Sub F0 F3 := (s0'.trans nx.ext).trans (sg.ext.trans sc.ext)
    rcases h3 with ⟨rfl, acc3, e3, h4, h5⟩ | ⟨rfl, h5⟩
    · rw [if_pos rfl]
      obtain ⟨src2, e4, h6, h7⟩ := bnd_ok h4
      refine ⟨F3, P3, e2, S3, ?_⟩
      rw [h6]
      intro F4 H4 P4 J1 Fy S4 sI ln1 wk1
      obtain ⟨l4, st4⟩ := l3.move sI S4
      have l4' : LI c D Fy F4 H4 (wipeE e4 own2) (L2.wipe σ2 own2) P4 acc' avs' Pa' := (l4.lean ln1).reE S4.wipe
      refine lc_loop wk1 hn2 l4' (Sub.refl F4) h7 fun F5 H5 P5 avs5 Pa5 l5 st5 => ?_
      have l6 : LI c D Fx F5 H5 e3 (L2.wipe σ2 own2) P5 acc3 avs5 Pa5 := l5.lean (l4.ln.step st5 l5.sr.good.sub)
      exact ⟨rfl, hlt, F5, wipeE e3 own, P5, acc3, avs5, Pa5, l6.reE (by rw [← hw0]; exact l5.sr.unwipe.wipe), sF.trans (sI.ext.trans st5.ext), sA.trans (st4.trans st5), h5⟩
    · rw [if_neg (by decide)]
      exact ⟨rfl, hlt, F3, wipeE e2 own, P3, acc', avs', Pa', l3.reE (by rw [← hw0]; exact l3.sr.wipe), sF, sA, h5⟩
  · have e : i = xs.length := by omega
    subst e
    rw [List.drop_length, lcO] at e'
    cases e'
    exact .inl ⟨w2 (List.getElem?_eq_none (Nat.le_refl _)), k F' H' P' avs' Pa' l' st⟩
def lc2M (T : Tb) (own own2 : List Nat) (t it cE t2 it2 c2 elt : E) : M (List R) := bnd (evI T it) fun src env => match lcO own (fun x => asg T t [.d x]) (condM T cE) (inM T own2 t2 it2 c2 elt) src [] (wipeE env own) with
  | some (.ok ws, e) => some (.ok [.own (.lst ws)], e)
  | _ => none
theorem ev_lc2 {t it cE t2 it2 c2 elt : E} : ev T (.lc2 own own2 t it cE t2 it2 c2 elt) = whileLk it (lc2M T own own2 t it cE t2 it2 c2 elt) := by
  rw [ev]
  rfl
theorem rd_lc2 {t it cE t2 it2 c2 elt : E} {Q : VK} (hn : ∀ i ∈ t.names, i ∈ own) (hn2 : ∀ i ∈ t2.names, i ∈ own2) (q : rdM c Wx (lc2M T own own2 t it cE t2 it2 c2 elt) σ H Q) :
    tLc2 (rdI c Wx T it) (rdG c T t) (rdC c Wy T cE) (rdI c Wy T it2) (rdG c T t2) (rdC c Wy T c2) (rdE c Wy T elt) own own2 σ H Q := by
  obtain ⟨F, P, env, S, q⟩ := q
  refine ⟨F, P, env, S, ?_⟩
  unfold lc2M bnd at q
  cases e : evI T it env with
  | none => rw [e] at q; exact q
  | some p =>
    obtain ⟨p, env1⟩ := p
    rw [e] at q
    cases p with
    | ex x => exact q
    | ok xs =>
      intro F1 H1 P1 J Fx S1 st ln w D hD
      simp only at q
      cases el : lcO own (fun x => asg T t [.d x]) (condM T cE) (inM T own2 t2 it2 c2 elt) xs [] (wipeE env1 own) with
      | none => rw [el] at q; exact False.elim q
      | some pr =>
        obtain ⟨pr, e'⟩ := pr
        rw [el] at q
        cases pr with
        | ex x => exact False.elim q
        | ok ws =>
          obtain ⟨l, sl⟩ := LI.begin (own := own) S1 ln hD
          refine lc_loopO w hn hn2 l (Sub.refl F1) el fun F' H' P' avs' Pa' l' st' => ?_
          obtain ⟨v, ev, q⟩ := q [.ref D] F' H' P' _ l'.end_ (st.trans (sl.trans st'))
          cases ev
          exact q
theorem lc2_held {t it cE t2 it2 c2 elt : E} : ∀ env rs env', lc2M T own own2 t it cE t2 it2 c2 elt env = some (.ok rs, env') → ∀ r ∈ rs, r.held := by
  intro env rs env' h
  obtain ⟨xs, e1, _, h⟩ := bnd_ok h
  split at h
  · cases h
    intro r hr
    simp at hr
    subst hr
    trivial
  · cases h
theorem e_lc2 {elt tg iter tg1 iter1 : Expr} {ifs ifs1 : List Expr} {scope : Scope} {ow : List (Str × Nat)} {pos : Pos} {t it cE t2 it2 c2 el : E} (hc : X.calm = true) (hN : X.N.Nodup) (hi : PI X tg iter (rdI c Wx T it)) (ok : BlkOk X.N X.env.scope scope ow) (hv : ∀ i ∈ own2, i ∈ ow.map (·.2))
    (hn : ∀ i ∈ t.names, i ∈ ow.map (·.2)) (hn2 : ∀ i ∈ t2.names, i ∈ own2)
    (hg : ∀ (s : Shared) (H : Hp) (C : Addr) (cl : List (Str × Addr)) (fp : List Addr), PG (X.blk s H scope (compEnvC scope cl C X.env) fp) tg (rdG c T t)) (ht : ∀ (s : Shared) (H : Hp) (C : Addr) (cl : List (Str × Addr)) (fp : List Addr), PTs (X.blk s H scope (compEnvC scope cl C X.env) fp) ifs (rdC c Wy T cE))
    (hi1 : ∀ (s : Shared) (H : Hp) (C : Addr) (cl : List (Str × Addr)) (fp : List Addr), PI (X.blk s H scope (compEnvC scope cl C X.env) fp) tg1 iter1 (rdI c Wy T it2))
    (hg1 : ∀ (s : Shared) (H : Hp) (C : Addr) (cl : List (Str × Addr)) (fp : List Addr), PG (X.blk s H scope (compEnvC scope cl C X.env) fp) tg1 (rdG c T t2)) (ht1 : ∀ (s : Shared) (H : Hp) (C : Addr) (cl : List (Str × Addr)) (fp : List Addr), PTs (X.blk s H scope (compEnvC scope cl C X.env) fp) ifs1 (rdC c Wy T c2))
    (he : ∀ (s : Shared) (H : Hp) (C : Addr) (cl : List (Str × Addr)) (fp : List Addr), PE (X.blk s H scope (compEnvC scope cl C X.env) fp) elt (rdE c Wy T el)) (hs : ∀ x, foldedSetIterable iter X.env x = pure x) (hs1 : ∀ env x, foldedSetIterable iter1 env x = pure x) :
    PE X (.ListComp elt [⟨tg, iter, ifs, 0⟩, ⟨tg1, iter1, ifs1, 0⟩] scope pos) (rdE c Wx T (.lc2 (ow.map (·.2)) own2 t it cE t2 it2 c2 el)) := by
  have h1 : PE X (.ListComp elt [⟨tg, iter, ifs, 0⟩, ⟨tg1, iter1, ifs1, 0⟩] scope pos) (rdM c Wx (lc2M T (ow.map (·.2)) own2 t it cE t2 it2 c2 el)) := (pe_lc2 hc hN hi ok hv hg ht hi1 hg1 ht1 he hs hs1).imp fun _ _ _ => rd_lc2 hn hn2
  have h2 := e_lock (it := it) lc2_held h1
  rw [← ev_lc2] at h2
  exact h2
end
end Ev
end

section
set_option Elab.async false
set_option linter.all false
set_option autoImplicit true
set_option maxRecDepth 100000
set_option maxHeartbeats 4000000
/-! EvS: statements. -/
namespace Ev
open PySem PySem.Spec PyProof.Rows L2
section
variable {c : Cfg} {Wx Wy : WX} {T : Tb} {X : Cx} {σ : L2.St} {F F1 F2 F3 H H1 H2 H3 F' H' Fx Fy : Hp} {P P1 P2 P3 Pt Pn Pi Pw Pr : Addr → Prop} {env env1 env3 env' : Env} {rs : List R} {vs : List V} {i : Nat} {tg : Expr} {own own2 : List Nat} {D D' : Ends}
theorem Only.mono {l l' : List Nat} {σ' : L2.St} (o : Only l σ σ') (h : ∀ i ∈ l, i ∈ l') : Only l' σ σ' := ⟨o.1, fun j hj => o.2 j fun z => hj (h j z)⟩
/-- behind a statement -/
def AftX (c : Cfg) (Wx : WX) (D : Ends) (l : List Nat) (σ : L2.St) (F H : Hp) (P : Addr → Prop) (res : Option (Fl × Env)) : Prop := match res with
  | none => False
  | some (.nx, e) => ∀ σ' F' H' P', SR c.K c.G F' H' e σ' P' → Step F H P F' H' P' → Only l σ σ' → D.nx σ' H'
  | some (.bk, e) => ∀ σ' F' H' P', SR c.K c.G F' H' e σ' P' → Step F H P F' H' P' → Only l σ σ' → D.bk σ' H'
  | some (.ct, e) => ∀ σ' F' H' P', SR c.K c.G F' H' e σ' P' → Step F H P F' H' P' → Only l σ σ' → D.ct σ' H'
  | some (.rt w, e) => ∀ v σ' F' H' P' Pt, SR c.K c.G F' H' e σ' P' → WR c.K c.G F' H' w v Pt → Good F' H' Pt → (∀ a, P' a → ¬ Pt a) → Step F H P F' H' (fun a => P' a ∨ Pt a) → Only l σ σ' → D.rt v H'
  | some (.ex x, e) => ∀ cls d σ' F' H' P', SR c.K c.G F' H' e σ' P' → ExR c F' H' x cls d → Step F H P F' H' P' → Only l σ σ' → Wx cls d σ' H'
def rdS (c : Cfg) (Wx : WX) (T : Tb) (s : S) : TS := fun D σ H => ∃ F P env, SR c.K c.G F H env σ P ∧ AftX c Wx D s.names σ F H P (exec T s env)
theorem AftX.sub {l l1 L : List Nat} {σ1 : L2.St} {res : Option (Fl × Env)} (q : AftX c Wx D L σ F H P res) (s : Step F H P F1 H1 P1) (o : Only l1 σ σ1) (h1 : ∀ i ∈ l1, i ∈ L) (h : ∀ i ∈ l, i ∈ L) : AftX c Wx D l σ1 F1 H1 P1 res := by
  have all : ∀ {σ' : L2.St}, Only l σ1 σ' → Only L σ σ' := fun o' => (o.trans o').mono fun i hi => (List.mem_append.mp hi).elim (h1 i) (h i)
  cases res with
  | none => exact q
  | some p =>
    obtain ⟨f, e⟩ := p
    cases f with
    | nx => exact fun σ' F' H' P' S st o' => q σ' F' H' P' S (s.trans st) (all o')
    | bk => exact fun σ' F' H' P' S st o' => q σ' F' H' P' S (s.trans st) (all o')
    | ct => exact fun σ' F' H' P' S st o' => q σ' F' H' P' S (s.trans st) (all o')
    | rt w => exact fun v σ' F' H' P' Pt S hw g dj st o' => q v σ' F' H' P' Pt S hw g dj (s.trans st) (all o')
    | ex x => exact fun cls d σ' F' H' P' S ex st o' => q cls d σ' F' H' P' S ex (s.trans st) (all o')
theorem AftX.from_ {l : List Nat} {res : Option (Fl × Env)} (q : AftX c Wx D l σ F H P res) (s : Step F H P F1 H1 P1) : AftX c Wx D l σ F1 H1 P1 res := q.sub s (l1 := []) Only.refl (fun _ h => absurd h (by simp)) fun _ h => h
/-- an expression within a statement -/
theorem AftX.ofM {l : List Nat} {α : Type} {m : M α} {f : α → Ev.X} (q : AftX c Wx D l σ F H P (Ev.ofM m f env)) : AftG c Wx σ F H P (m env) fun a e => AftX c Wx D l σ F H P (f a e) := by
  unfold Ev.ofM at q
  cases e : m env with
  | none => rw [e] at q; exact q
  | some p =>
    obtain ⟨p, e1⟩ := p
    rw [e] at q
    cases p with
    | ok a => exact q
    | ex x => exact fun cls d F' H' P' S ex st => q cls d σ F' H' P' S ex st Only.refl
theorem ofM_bnd {α β : Type} {m : M α} {f : α → M β} {g : β → Ev.X} : ofM (bnd m f) g = ofM m fun a => ofM (f a) g := by
  funext env
  unfold ofM bnd
  cases m env with
  | none => rfl
  | some p =>
    obtain ⟨p, e⟩ := p
    cases p <;> rfl
theorem AftX.sole {l : List Nat} {f : R → Ev.X} (q : AftX c Wx D l σ F H P (Ev.ofM (Ev.sole rs) f env)) : ∃ r, rs = [r] ∧ AftX c Wx D l σ F H P (f r env) := by
  cases rs with
  | nil => exact False.elim q
  | cons r rs =>
    cases rs with
    | nil => exact ⟨r, rfl, q⟩
    | cons _ _ => exact False.elim q
theorem AftX.ok {l : List Nat} {α : Type} {m : M α} {f : α → Ev.X} (hm : ∀ x env', m env ≠ some (.ex x, env')) (q : AftX c Wx D l σ F H P (Ev.ofM m f env)) : ∃ a env1, m env = some (.ok a, env1) ∧ AftX c Wx D l σ F H P (f a env1) := by
  unfold Ev.ofM at q
  cases e : m env with
  | none => rw [e] at q; exact False.elim q
  | some p =>
    obtain ⟨p, e1⟩ := p
    rw [e] at q
    cases p with
    | ok a => exact ⟨a, e1, rfl, q⟩
    | ex x => exact (hm _ _ e).elim
/-- one expression: its answer, held -/
theorem rdE_of {l : List Nat} {e : E} {f : R → Ev.X} {Q : VK} (S : SR c.K c.G F H env σ P) (q : AftX c Wx D l σ F H P (ofM (ev T e) (fun rs => ofM (sole rs) f) env))
    (k : ∀ r v env1 F1 H1 P1 Pt, Tm c F1 H1 env1 σ P1 [r] [v] Pt → Step F H P F1 H1 (fun a => P1 a ∨ Pt a) → AftX c Wx D l σ F H P (f r env1) → Q v H1) : rdE c Wx T e σ H Q := by
  refine ⟨F, P, env, S, AftG.from_ q.ofM (Step.refl F H P) fun rs env1 h vs F1 H1 P1 Pt t s => ?_⟩
  obtain ⟨r, rfl, h⟩ := h.sole
  obtain ⟨v, rfl, hr⟩ := t.rr.one
  exact ⟨v, rfl, k r v env1 F1 H1 P1 Pt t s h⟩
/-! ### the simple ones -/
theorem s_skip : PS X (.Pass pos) (rdS c Wx T .skip) := ps_pass.imp fun D σ H ⟨F, P, env, S, q⟩ => q σ F H P S (Step.refl F H P) Only.refl
theorem ss_nil : PSs X [] (rdS c Wx T .skip) := pss_nil.imp fun D σ H ⟨F, P, env, S, q⟩ => q σ F H P S (Step.refl F H P) Only.refl
theorem s_brk : PS X (.Break pos) (rdS c Wx T .brk) := ps_break.imp fun D σ H ⟨F, P, env, S, q⟩ => q σ F H P S (Step.refl F H P) Only.refl
theorem s_cnt : PS X (.Continue pos) (rdS c Wx T .cnt) := ps_continue.imp fun D σ H ⟨F, P, env, S, q⟩ => q σ F H P S (Step.refl F H P) Only.refl
def neverE : E := .rng .nil
def neverS : S := .expr neverE
theorem e_never {e : Expr} : PE X e (rdE c Wx T neverE) := ⟨fun pins s σ H Q I ⟨F, P, env, S, q⟩ => by rw [neverE, ev] at q; exact False.elim q⟩
theorem s_never {s : Stmt} : PS X s (rdS c Wx T neverS) := ⟨fun pins s σ H D I ⟨F, P, env, S, q⟩ => by
  rw [neverS, exec, neverE, ev] at q; exact False.elim q⟩
theorem ss_cons {st : Stmt} {rest : List Stmt} {a b : S} (h1 : PS X st (rdS c Wx T a)) (h2 : PSs X rest (rdS c Wx T b)) : PSs X (st :: rest) (rdS c Wx T (.seq a b)) := by
  refine (pss_cons h1 h2).imp fun D σ H ⟨F, P, env, S, q⟩ => ⟨F, P, env, S, ?_⟩
  have q' : AftX c Wx D (a.names ++ b.names) σ F H P (match exec T a env with
    | some (.nx, e) => exec T b e
    | o => o) := q
  cases e : exec T a env with
  | none => rw [e] at q'; exact q'
  | some p =>
    obtain ⟨f, e1⟩ := p
    rw [e] at q'
    have ha : ∀ {res : Option (Fl × Env)}, AftX c Wx D (a.names ++ b.names) σ F H P res → AftX c Wx D a.names σ F H P res := fun q => q.sub (Step.refl F H P) (l1 := []) Only.refl (fun _ h => absurd h (by simp)) fun i h => List.mem_append_left _ h
    cases f with
    | nx => exact fun σ' F' H' P' S' st o => ⟨F', P', e1, S', AftX.sub q' st o (fun i h => List.mem_append_left _ h) fun i h => List.mem_append_right _ h⟩
    | bk => exact ha q'
    | ct => exact ha q'
    | rt w => exact ha q'
    | ex x => exact ha q'
theorem s_expr {e : Expr} {e' : E} {pos : Pos} (he : PE X e (rdE c Wx T e')) (hs : swapsWith e none pos.line X.env = pure false) : PS X (.Expr e pos) (rdS c Wx T (.expr e')) := by
  refine (ps_expr he hs).imp fun D σ H ⟨F, P, env, S, q⟩ => ?_
  have q : AftX c Wx D [] σ F H P (ofM (ev T e') (fun rs => ofM (sole rs) fun _ => fl .nx) env) := q
  exact rdE_of S q fun r v env1 F1 H1 P1 Pt tm s q => q σ F1 H1 P1 tm.sr (s.wide (fun _ h => h) fun _ h => .inl (.inl h)) Only.refl
theorem asg_noex : ∀ (t : E) (rs : List R) (env : Env) (x : Exc) (env' : Env), asg T t rs env ≠ some (.ex x, env')
  | .var i, rs, env, x, env', h => by
    cases rs with
    | nil => rw [asg] at h <;> first | (cases h; done) | (intros; contradiction) | simp
    | cons r rs =>
      cases rs with
      | cons _ _ => rw [asg] at h <;> first | (cases h; done) | (intros; contradiction) | simp
      | nil =>
        rw [asg] at h
        unfold bnd at h
        cases e : toW r env with
        | none => rw [e] at h; cases h
        | some p =>
          obtain ⟨p, e1⟩ := p
          rw [e] at h
          cases p with
          | ex y => exact toW_ok e
          | ok w => have := (setSlot_ok (show setSlot i w e1 = some (.ex x, env') from h)).1; cases this
  | .nil, rs, env, x, env', h => by
    cases rs with
    | nil => rw [asg] at h; cases h
    | cons r rs => rw [asg] at h <;> first | (cases h; done) | (intros; contradiction) | simp
  | .tup es, rs, env, x, env', h => by
    cases rs with
    | nil => rw [asg] at h <;> first | (cases h; done) | (intros; contradiction) | simp
    | cons r rs =>
      cases rs with
      | cons _ _ => rw [asg] at h <;> first | (cases h; done) | (intros; contradiction) | simp
      | nil =>
        rw [asg] at h
        unfold bnd at h
        cases e : seeM r env with
        | none => rw [e] at h; cases h
        | some p =>
          obtain ⟨p, e1⟩ := p
          rw [e] at h
          cases p with
          | ex y => exact see_ok e
          | ok w =>
            simp only at h
            split at h
            · exact asg_noex es _ _ _ _ h
            · cases es' : seqD w with
              | none => simp only [es'] at h; cases h
              | some xs => simp only [es'] at h; exact asg_noex es _ _ _ _ h
  | .cons a b, rs, env, x, env', h => by
    cases rs with
    | nil => rw [asg] at h <;> first | (cases h; done) | (intros; contradiction) | simp
    | cons r rs =>
      rw [asg] at h
      unfold bnd at h
      cases e : asg T a [r] env with
      | none => rw [e] at h; cases h
      | some p =>
        obtain ⟨p, e1⟩ := p
        rw [e] at h
        cases p with
        | ex y => exact asg_noex a _ _ _ _ e
        | ok w => exact asg_noex b _ _ _ _ h
  | .idx a i, rs, env, x, env', h => by
    cases rs with
    | nil => rw [asg] at h <;> first | (cases h; done) | (intros; contradiction) | simp
    | cons r rs =>
      cases rs with
      | cons _ _ => rw [asg] at h <;> first | (cases h; done) | (intros; contradiction) | simp
      | nil =>
        rw [asg] at h
        unfold bnd at h
        cases e : toW r env with
        | none => rw [e] at h; cases h
        | some p =>
          obtain ⟨p, e1⟩ := p
          rw [e] at h
          cases p with
          | ex y => exact toW_ok e
          | ok w => obtain ⟨_, e2, _⟩ := calm_ok h; cases e2
  | .cst _, rs, env, x, env', h => by rw [asg] at h <;> first | (cases h; done) | (intros; contradiction) | simp
  | .glb _, rs, env, x, env', h => by rw [asg] at h <;> first | (cases h; done) | (intros; contradiction) | simp
  | .scons _ _, rs, env, x, env', h => by rw [asg] at h <;> first | (cases h; done) | (intros; contradiction) | simp
  | .lst _, rs, env, x, env', h => by rw [asg] at h <;> first | (cases h; done) | (intros; contradiction) | simp
  | .bin _ _ _, rs, env, x, env', h => by rw [asg] at h <;> first | (cases h; done) | (intros; contradiction) | simp
  | .un _ _, rs, env, x, env', h => by rw [asg] at h <;> first | (cases h; done) | (intros; contradiction) | simp
  | .rev _, rs, env, x, env', h => by rw [asg] at h <;> first | (cases h; done) | (intros; contradiction) | simp
  | .not _, rs, env, x, env', h => by rw [asg] at h <;> first | (cases h; done) | (intros; contradiction) | simp
  | .and _ _, rs, env, x, env', h => by rw [asg] at h <;> first | (cases h; done) | (intros; contradiction) | simp
  | .or _ _, rs, env, x, env', h => by rw [asg] at h <;> first | (cases h; done) | (intros; contradiction) | simp
  | .cmp _ _ _, rs, env, x, env', h => by rw [asg] at h <;> first | (cases h; done) | (intros; contradiction) | simp
  | .chn _ _ _ _ _, rs, env, x, env', h => by rw [asg] at h <;> first | (cases h; done) | (intros; contradiction) | simp
  | .ife _ _ _, rs, env, x, env', h => by rw [asg] at h <;> first | (cases h; done) | (intros; contradiction) | simp
  | .slc _ _ _, rs, env, x, env', h => by rw [asg] at h <;> first | (cases h; done) | (intros; contradiction) | simp
  | .call _ _, rs, env, x, env', h => by rw [asg] at h <;> first | (cases h; done) | (intros; contradiction) | simp
  | .callk _ _ _, rs, env, x, env', h => by rw [asg] at h <;> first | (cases h; done) | (intros; contradiction) | simp
  | .callv _ _, rs, env, x, env', h => by rw [asg] at h <;> first | (cases h; done) | (intros; contradiction) | simp
  | .bi _ _, rs, env, x, env', h => by rw [asg] at h <;> first | (cases h; done) | (intros; contradiction) | simp
  | .isi _ _, rs, env, x, env', h => by rw [asg] at h <;> first | (cases h; done) | (intros; contradiction) | simp
  | .meth _ _ _, rs, env, x, env', h => by rw [asg] at h <;> first | (cases h; done) | (intros; contradiction) | simp
  | .lc _ _ _ _ _, rs, env, x, env', h => by rw [asg] at h <;> first | (cases h; done) | (intros; contradiction) | simp
  | .lc2 _ _ _ _ _ _ _ _ _, rs, env, x, env', h => by rw [asg] at h <;> first | (cases h; done) | (intros; contradiction) | simp
  | .dc _ _ _ _ _ _, rs, env, x, env', h => by rw [asg] at h <;> first | (cases h; done) | (intros; contradiction) | simp
  | .dnew, rs, env, x, env', h => by rw [asg] at h <;> first | (cases h; done) | (intros; contradiction) | simp
  | .itms _, rs, env, x, env', h => by rw [asg] at h <;> first | (cases h; done) | (intros; contradiction) | simp
  | .rng _, rs, env, x, env', h => by rw [asg] at h <;> first | (cases h; done) | (intros; contradiction) | simp
  | .enum _, rs, env, x, env', h => by rw [asg] at h <;> first | (cases h; done) | (intros; contradiction) | simp
  | .zip _ _, rs, env, x, env', h => by rw [asg] at h <;> first | (cases h; done) | (intros; contradiction) | simp
  | .lrng _, rs, env, x, env', h => by rw [asg] at h <;> first | (cases h; done) | (intros; contradiction) | simp
  | .sumL _, rs, env, x, env', h => by rw [asg] at h <;> first | (cases h; done) | (intros; contradiction) | simp
theorem s_asg {tg e : Expr} {e' t : E} {pos : Pos} (he : PE X e (rdE c Wx T e')) (hg : PG X tg (rdG c T t)) (hs : swapsWithSole [tg] e pos.line X.env = pure false) (hw : swappedStores [tg] e X.env = pure none)
    (h1 : (assignEach [tg] X.env).map (·.2) = [assign tg X.env]) : PS X (.Assign [tg] e pos) (rdS c Wx T (.asg t e')) := by
  refine (ps_asg he hg hs hw h1).imp fun D σ H ⟨F, P, env, S, q⟩ => ?_
  have q : AftX c Wx D t.names σ F H P (ofM (ev T e') (fun rs => ofM (sole rs) fun r => ofM (asg T t [r]) fun _ => fl .nx) env) := q
  refine rdE_of S q fun r v env1 F1 H1 P1 Pt tm s q => ?_
  obtain ⟨_, env2, ea, q⟩ := AftX.ok (fun _ _ => asg_noex _ _ _ _ _) q
  exact ⟨F1, P1, env1, Pt, r, env2, tm, ea, fun σ' F' H' P' S' st o => q σ' F' H' P' S' (s.trans st) o⟩
end
end Ev
end

section
set_option Elab.async false
set_option linter.all false
set_option autoImplicit true
set_option maxRecDepth 100000
set_option maxHeartbeats 4000000
/-! EvT: statements: if, while, for, return, pairs. -/
namespace Ev
open PySem PySem.Spec PyProof.Rows L2
section
variable {c : Cfg} {Wx Wy : WX} {T : Tb} {X : Cx} {σ : L2.St} {F F1 F2 F3 H H1 H2 H3 F' H' Fx Fy : Hp} {P P1 P2 P3 Pt Pn Pi Pw Pr : Addr → Prop} {env env1 env3 env' : Env} {rs : List R} {vs : List V} {i : Nat} {tg : Expr} {own own2 : List Nat} {D D' : Ends}
theorem rdT_of {l : List Nat} {e : E} {f : Bool → Ev.X} {Q : Bool → Hp → Prop} (S : SR c.K c.G F H env σ P) (q : AftX c Wx D l σ F H P (ofM (ev T e) (fun rs => ofM (sole rs) fun r => ofM (truM r) f) env))
    (k : ∀ b env1 F1 H1 P1, SR c.K c.G F1 H1 env1 σ P1 → Step F H P F1 H1 P1 → AftX c Wx D l σ F H P (f b env1) → Q b H1) : rdT c Wx T e σ H Q := by
  have q' : AftX c Wx D l σ F H P (ofM (bnd (ev T e) fun rs => bnd (sole rs) truM) f env) := by
    rw [ofM_bnd]; simp only [ofM_bnd]; exact q
  exact ⟨F, P, env, S, AftG.from_ q'.ofM (Step.refl F H P) fun b env1 h F1 H1 P1 S1 st => k b env1 F1 H1 P1 S1 st h⟩
theorem s_if {e : Expr} {a b : List Stmt} {e' : E} {a' b' : S} {pos : Pos} (hc : PT X e (rdT c Wx T e')) (ha : PSs X a (rdS c Wx T a')) (hb : PSs X b (rdS c Wx T b')) : PS X (.If e a b pos) (rdS c Wx T (.ife e' a' b')) := by
  refine (ps_if hc ha hb).imp fun D σ H ⟨F, P, env, S, q⟩ => ?_
  have q : AftX c Wx D (a'.names ++ b'.names) σ F H P (ofM (ev T e') (fun rs => ofM (sole rs) fun r => ofM (truM r) fun k => if k = true then exec T a' else exec T b') env) := q
  refine rdT_of S q fun k env1 F1 H1 P1 S1 st q => ?_
  cases k with
  | true => exact ⟨F1, P1, env1, S1, AftX.sub q st (l1 := []) Only.refl (fun _ h => absurd h (by simp)) fun i h => List.mem_append_left _ h⟩
  | false => exact ⟨F1, P1, env1, S1, AftX.sub q st (l1 := []) Only.refl (fun _ h => absurd h (by simp)) fun i h => List.mem_append_right _ h⟩
/-- a loop's body -/
def loopX (r : Option (Fl × Env)) (K : Ev.X) : Option (Fl × Env) := match r with
  | some (.nx, e) => K e
  | some (.ct, e) => K e
  | some (.bk, e) => some (.nx, e)
  | o => o
theorem loop_body {l : List Nat} {r : Option (Fl × Env)} {K : Ev.X} (q : AftX c Wx D l σ F H P (loopX r K)) : AftX c Wx { D with nx := fun σ' H' => ∃ F' P' e, SR c.K c.G F' H' e σ' P' ∧ Step F H P F' H' P' ∧ Only l σ σ' ∧ AftX c Wx D l σ' F' H' P' (K e), ct := fun σ' H' => ∃ F' P' e, SR c.K c.G F' H' e σ' P' ∧ Step F H P F' H' P' ∧ Only l σ σ' ∧ AftX c Wx D l σ' F' H' P' (K e), bk := D.nx } l σ F H P r := by
  cases r with
  | none => exact q
  | some p =>
    obtain ⟨f, e⟩ := p
    cases f with
    | nx => exact fun σ' F' H' P' S st o => ⟨F', P', e, S, st, o, AftX.sub (show AftX c Wx D l σ F H P (K e) from q) st o (fun _ h => h) fun _ h => h⟩
    | ct => exact fun σ' F' H' P' S st o => ⟨F', P', e, S, st, o, AftX.sub (show AftX c Wx D l σ F H P (K e) from q) st o (fun _ h => h) fun _ h => h⟩
    | bk => exact q
    | rt w => exact q
    | ex x => exact q
/-- fewer names, the end's words turned -/
theorem AftX.ends {l l' : List Nat} {res : Option (Fl × Env)} (q : AftX c Wx D l' σ F H P res) (hl : ∀ i ∈ l, i ∈ l') (nx : ∀ σ' H', D.nx σ' H' → D'.nx σ' H') (bk : ∀ σ' H', D.bk σ' H' → D'.bk σ' H') (ct : ∀ σ' H', D.ct σ' H' → D'.ct σ' H') (rt : ∀ v H, D.rt v H → D'.rt v H) : AftX c Wx D' l σ F H P res := by
  cases res with
  | none => exact q
  | some p =>
    obtain ⟨f, e⟩ := p
    cases f with
    | nx => exact fun σ' F' H' P' S st o => nx _ _ (q σ' F' H' P' S st (o.mono hl))
    | bk => exact fun σ' F' H' P' S st o => bk _ _ (q σ' F' H' P' S st (o.mono hl))
    | ct => exact fun σ' F' H' P' S st o => ct _ _ (q σ' F' H' P' S st (o.mono hl))
    | rt w => exact fun v σ' F' H' P' Pt S hw g dj st o => rt _ _ (q v σ' F' H' P' Pt S hw g dj st (o.mono hl))
    | ex x => exact fun cls d σ' F' H' P' S ex st o => q cls d σ' F' H' P' S ex st (o.mono hl)
theorem whl_succ {cm : M Bool} {b : Ev.X} {n : Nat} : whlL cm b (n + 1) = ofM cm fun k => if k = true then fun env => loopX (b env) (whlL cm b n) else fl .nx := by
  funext env
  rw [whlL]
  congr 1
theorem s_while {e : Expr} {body : List Stmt} {e' : E} {b' : S} {pos : Pos} (hp : PassesOwn (model X.prog X.w) X.A X.env X.xe) (hc : PT X e (rdT c Wx T e')) (hb : PSs X body (rdS c Wx T b')) : PS X (.While e body [] pos) (rdS c Wx T (.whl e' b')) := by
  refine (ps_while hp hc hb).imp fun D σ H ⟨F, P, env, S, q⟩ => ?_
  have q : AftX c Wx D b'.names σ F H P (whlL (bnd (ev T e') fun rs => bnd (sole rs) truM) (exec T b') fuel env) := q
  refine ⟨fun m σ H => ∃ F P env, SR c.K c.G F H env σ P ∧ AftX c Wx D b'.names σ F H P (whlL (bnd (ev T e') fun rs => bnd (sole rs) truM) (exec T b') m env), ⟨fuel, F, P, env, S, q⟩, ?_⟩
  rintro m σ H ⟨F, P, env, S, q⟩
  cases m with
  | zero => exact False.elim q
  | succ m =>
    rw [whl_succ] at q
    refine ⟨F, P, env, S, AftG.from_ q.ofM (Step.refl F H P) fun k env1 h F1 H1 P1 S1 st => ?_⟩
    cases k with
    | false => exact h σ F1 H1 P1 S1 st Only.refl
    | true =>
      refine ⟨fun σ' H' => ∃ F' P' e, SR c.K c.G F' H' e σ' P' ∧ Step F1 H1 P1 F' H' P' ∧ Only b'.names σ σ' ∧ AftX c Wx D b'.names σ' F' H' P' (whlL (bnd (ev T e') fun rs => bnd (sole rs) truM) (exec T b') m e), fun σ' H' ⟨F', P', e, S', _, _, q'⟩ => ⟨m, Nat.lt_succ_self m, F', P', e, S', q'⟩, F1, P1, env1, S1, ?_⟩
      exact loop_body (AftX.from_ (show AftX c Wx D b'.names σ F H P (loopX (exec T b' env1) _) from h) st)
theorem for_cons {as : Ev.D → M Unit} {b : Ev.X} {x : Ev.D} {xs : List Ev.D} : forL as b (x :: xs) = ofM (as x) fun _ => fun env => loopX (b env) (forL as b xs) := by
  funext env
  rw [forL]
  congr 1
theorem s_for {tg iter : Expr} {body : List Stmt} {t it : E} {b' : S} {pos : Pos} (hp : PassesOwn (model X.prog X.w) X.A X.env X.xe) (hc : X.calm = true) (hi : PI X tg iter (rdI c Wx T it)) (hg : PG X tg (rdG c T t)) (hb : PSs X body (rdS c Wx T b'))
    (hs : ∀ x, foldedSetIterable iter X.env x = pure x) : PS X (.For tg iter body [] pos) (rdS c Wx T (.for_ t it b')) := by
  refine (ps_for hp hc hi hg hb hs).imp fun D σ H ⟨F, P, env, S, q⟩ => ?_
  have q : AftX c Wx D (t.names ++ b'.names) σ F H P (ofM (evI T it) (fun src => forL (fun x => asg T t [.d x]) (exec T b') src) env) := q
  refine ⟨F, P, env, S, AftG.from_ q.ofM (Step.refl F H P) fun xs env1 h F1 H1 P1 J Fx S1 st ln wk => ?_⟩
  have key : ∃ L, L = t.names ++ b'.names := ⟨_, rfl⟩
  obtain ⟨L, eL⟩ := key
  rw [← eL] at h
  have hb1 : ∀ i ∈ t.names, i ∈ L := fun i h => by rw [eL]; exact List.mem_append_left _ h
  have hb2 : ∀ i ∈ b'.names, i ∈ L := fun i h => by rw [eL]; exact List.mem_append_right _ h
  refine ⟨fun i m σ H' => m = xs.length - i ∧ i ≤ xs.length ∧ ∃ F' P' env', SR c.K c.G F' H' env' σ P' ∧ Sub F1 F' ∧ Leans F' Fx H' ∧ AftX c Wx D L σ F' H' P' (forL (fun x => asg T t [.d x]) (exec T b') (xs.drop i) env'), ⟨xs.length, rfl, Nat.zero_le _, F1, P1, env1, S1, Sub.refl F1, ln, AftX.from_ (by simpa using h) st⟩, ?_⟩
  rintro i m σ H2 ⟨rfl, hi, F2, P2, env2, S2, s0, ln2, q⟩
  obtain ⟨w1, w2⟩ := wk i F2 H2 s0 ln2.in_ S2.good.sub
  by_cases hlt : i < xs.length
  · have ed : xs.drop i = xs[i] :: xs.drop (i + 1) := List.drop_eq_getElem_cons hlt
    rw [ed, for_cons] at q
    obtain ⟨go, yl⟩ := w1 _ (List.getElem?_eq_getElem hlt)
    refine .inr ⟨go, fun σ' H' => xs.length - (i + 1) = xs.length - (i + 1) ∧ i + 1 ≤ xs.length ∧ ∃ F' P' env', SR c.K c.G F' H' env' σ' P' ∧ Sub F1 F' ∧ Leans F' Fx H' ∧ AftX c Wx D L σ' F' H' P' (forL (fun x => asg T t [.d x]) (exec T b') (xs.drop (i + 1)) env'),
      fun σ' H' h => ⟨xs.length - (i + 1), by omega, h⟩, fun x Hx hy => ?_⟩
    obtain ⟨Fx', nx, dx⟩ := yl x Hx hy
    obtain ⟨S3, _, st3⟩ := S2.new nx
    have st3' : Step F2 H2 P2 Fx' Hx P2 := st3.wide (fun _ h => h) fun a h => .inl (.inl h)
    have ln3 := ln2.step st3' S3.good.sub
    obtain ⟨_, e1, ea, q⟩ := AftX.ok (fun _ _ => asg_noex _ _ _ _ _) q
    refine ⟨Fx', P2, env2, fun _ => False, .d xs[i], e1, ⟨S3, RRs.mk1 (.d dx), fun _ _ z => z, Good.none S3.good.sub⟩, ea, fun σ4 F4 H4 P4 S4 st4 o4 => ⟨F4, P4, e1, S4, ?_⟩⟩
    have st4' : Step Fx' Hx P2 F4 H4 P4 := st4.wide (fun a h => h.elim id fun z => z.elim) fun _ h => .inl h
    have ln4 := ln3.step st4' S4.good.sub
    have q5 := loop_body (AftX.sub q (st3'.trans st4') o4 hb1 (fun _ h => h))
    have s4 : Sub F1 F4 := (s0.trans nx.ext).trans st4.ext
    have nxt : ∀ σ' H', (∃ F' P' e, SR c.K c.G F' H' e σ' P' ∧ Step F4 H4 P4 F' H' P' ∧ Only L σ4 σ' ∧ AftX c Wx D L σ' F' H' P' (forL (fun x => asg T t [.d x]) (exec T b') (xs.drop (i + 1)) e)) →
        xs.length - (i + 1) = xs.length - (i + 1) ∧ i + 1 ≤ xs.length ∧ ∃ F' P' env', SR c.K c.G F' H' env' σ' P' ∧ Sub F1 F' ∧ Leans F' Fx H' ∧ AftX c Wx D L σ' F' H' P' (forL (fun x => asg T t [.d x]) (exec T b') (xs.drop (i + 1)) env') := fun σ' H' ⟨F', P', e, S', st', _, q'⟩ => ⟨rfl, hlt, F', P', e, S', s4.trans st'.ext, ln4.step st' S'.good.sub, q'⟩
    exact AftX.ends q5 hb2 nxt (fun _ _ h => h) nxt fun _ _ h => h
  · have e : i = xs.length := by omega
    subst e
    rw [List.drop_length, forL] at q
    exact .inl ⟨w2 (List.getElem?_eq_none (Nat.le_refl _)), q σ F2 H2 P2 S2 (Step.refl _ _ _) Only.refl⟩
/-! ### return -/
theorem retW_run {r : R} {v : V} {w : W} (t : Tm c F H env σ P [r] [v] Pt) (e : retW r env = some (.ok w, env')) :
    ∃ F' P' Pw, SR c.K c.G F' H env' σ P' ∧ WR c.K c.G F' H w v Pw ∧ Good F' H Pw ∧ (∀ a, P' a → ¬ Pw a) ∧ Step F H (fun a => P a ∨ Pt a) F' H (fun a => P' a ∨ Pw a) := by
  have viaW : toW r env = some (.ok w, env') → ∃ F' P' Pw, SR c.K c.G F' H env' σ P' ∧ WR c.K c.G F' H w v Pw ∧ Good F' H Pw ∧ (∀ a, P' a → ¬ Pw a) ∧ Step F H (fun a => P a ∨ Pt a) F' H (fun a => P' a ∨ Pw a) := fun e => by
    obtain ⟨F', P', P1, Pt', hw, g, dj, t', st⟩ := toW_run t e
    exact ⟨F', P', P1, t'.sr, hw, g, fun a h => dj a (.inl h), st.wide (fun _ h => h) fun a h => .inl (h.imp .inl id)⟩
  cases r with
  | d x => exact viaW e
  | own x => exact viaW e
  | pth i sel =>
    cases sel with
    | cons k sel => exact viaW e
    | nil =>
      have e' : (match env[i]? with
        | some (.ok false w) => some (.ok w, env.set i .no)
        | _ => bnd (frzAt i []) (fun x => ret (W.d x)) env) = some (.ok w, env') := e
      split at e'
      · rename_i w0 ei
        cases e'
        obtain ⟨v0, Pi, ev, hw, hs, S'⟩ := t.sr.lock ei
        obtain ⟨v', ev', hr⟩ := t.rr.one
        cases ev'
        cases hr with
        | pth q1 q2 =>
          rw [ev] at q1
          cases q1
          obtain rfl := (show v0 = v from q2)
          refine ⟨F, fun a => P a ∧ ¬ Pi a, Pi, ?_, hw, t.sr.good.less hs, fun a h => h.2, (Step.refl F H _).wide (fun _ h => h) fun a h => .inl (.inl (h.elim (fun h => h.1) (hs a)))⟩
          refine S'.of_le (by simpa using S'.len) fun j p w' ej => ⟨?_, rfl⟩
          have hi : i < env.length := (List.getElem?_eq_some_iff.mp ei).1
          by_cases hj : i = j
          · subst hj; rw [List.getElem?_set_self hi] at ej; cases ej
          · rw [List.getElem?_set_ne hj] at ej ⊢; exact ej
      · exact viaW e'
theorem retW_noex {r : R} {x : Exc} : retW r env ≠ some (.ex x, env') := by
  intro h
  cases r with
  | d x => cases h
  | own x => cases h
  | pth i sel =>
    cases sel with
    | cons k sel => exact toW_ok (r := .pth i (k :: sel)) h
    | nil =>
      have e' : (match env[i]? with
        | some (.ok false w) => some (.ok w, env.set i .no)
        | _ => bnd (frzAt i []) (fun x => ret (W.d x)) env) = some (.ex x, env') := h
      split at e'
      · cases e'
      · exact toW_ok (r := .pth i []) e'
theorem s_ret {e : Expr} {e' : E} {pos : Pos} (he : PE X e (rdE c Wx T e')) : PS X (.Return (some e) pos) (rdS c Wx T (.ret e')) := by
  refine (ps_ret he).imp fun D σ H ⟨F, P, env, S, q⟩ => ?_
  have q : AftX c Wx D [] σ F H P (ofM (ev T e') (fun rs => ofM (sole rs) fun r => ofM (retW r) fun w => fl (.rt w)) env) := q
  refine rdE_of S q fun r v env1 F1 H1 P1 Pt tm s q => ?_
  obtain ⟨w, env2, er, q⟩ := AftX.ok (fun _ _ => retW_noex) q
  obtain ⟨F2, P2, Pw, S2, hw, g, dj, st⟩ := retW_run tm er
  exact q v σ F2 H1 P2 Pw S2 hw g dj (s.trans st) Only.refl
theorem s_retN {pos : Pos} : PS X (.Return none pos) (rdS c Wx T .retN) := by
  refine ps_retN.imp fun D σ H ⟨F, P, env, S, q⟩ => ?_
  have q : AftX c Wx D [] σ F H P (some (.rt (.d .none), env)) := q
  exact q .non σ F H P (fun _ => False) S (.d .non) (Good.none S.good.sub) (fun _ _ z => z) (nilStep S) Only.refl
/-! ### a, b = x, y -/
theorem rd_par {i j : Nat} {es : E} (hij : i ≠ j) (q : rdS c Wx T (.par (.cons (.var i) (.cons (.var j) .nil)) es) D σ H) : tPar i j (rdA c Wx T es) D σ H := by
  obtain ⟨F, P, env, S, q⟩ := q
  have q : AftX c Wx D [i, j] σ F H P (ofM (ev T es) (fun rs => ofM (each toW rs) fun ws => ofM (setAll (.cons (.var i) (.cons (.var j) .nil)) ws) fun _ => fl .nx) env) := q
  refine ⟨F, P, env, S, AftG.from_ q.ofM (Step.refl F H P) fun rs env1 h vs F1 H1 P1 Pt t s => ?_⟩
  obtain ⟨ws, env2, e2, h⟩ := AftX.ok (fun _ _ => each_ok (fun _ _ _ _ => toW_ok) _ _ _ _) h
  obtain ⟨F2, P2, Pw, S2, hws, gw, dw, st⟩ := Ev.each_toW t e2
  match ws, hws, h with
  | [], _, h => exact False.elim h
  | [w1], _, h =>
    have h : AftX c Wx D [i, j] σ F H P (ofM (bnd (setSlot i w1) fun _ => setAll (.cons (.var j) .nil) []) (fun _ => fl .nx) env2) := h
    unfold ofM bnd at h
    cases e3 : setSlot i w1 env2 with
    | none => rw [e3] at h; exact False.elim h
    | some p =>
      obtain ⟨p, e4⟩ := p
      rw [e3] at h
      obtain ⟨rfl, _, _⟩ := setSlot_ok e3
      exact False.elim h
  | w1 :: w2 :: w3 :: ws, _, h =>
    have h : AftX c Wx D [i, j] σ F H P (ofM (bnd (setSlot i w1) fun _ => bnd (setSlot j w2) fun _ => setAll .nil (w3 :: ws)) (fun _ => fl .nx) env2) := h
    unfold ofM bnd at h
    cases e3 : setSlot i w1 env2 with
    | none => rw [e3] at h; exact False.elim h
    | some p =>
      obtain ⟨p, e4⟩ := p
      rw [e3] at h
      obtain ⟨rfl, _, _⟩ := setSlot_ok e3
      simp only at h
      cases e5 : setSlot j w2 e4 with
      | none => rw [e5] at h; exact False.elim h
      | some p =>
        obtain ⟨p, e6⟩ := p
        rw [e5] at h
        obtain ⟨rfl, _, _⟩ := setSlot_ok e5
        exact False.elim h
  | [w1, w2], hws, h =>
    have h : AftX c Wx D [i, j] σ F H P (ofM (bnd (setSlot i w1) fun _ => bnd (setSlot j w2) fun _ => setAll .nil []) (fun _ => fl .nx) env2) := h
    unfold ofM bnd at h
    cases e3 : setSlot i w1 env2 with
    | none => rw [e3] at h; exact False.elim h
    | some p =>
      obtain ⟨p, e4⟩ := p
      rw [e3] at h
      obtain ⟨rfl, e3', l3⟩ := setSlot_ok e3
      simp only at h
      cases e5 : setSlot j w2 e4 with
      | none => rw [e5] at h; exact False.elim h
      | some p =>
        obtain ⟨p, e6⟩ := p
        rw [e5] at h
        obtain ⟨rfl, e5', l5⟩ := setSlot_ok e5
        cases hws with
        | @cons _ v1 _ _ _ Q1 Q2 h1 h2 hw1 hr =>
          cases hr with
          | @cons _ v2 _ _ _ Q3 Q4 h3 h4 hw2 hr2 =>
            cases hr2
            refine ⟨v1, v2, rfl, ?_⟩
            have h : AftX c Wx D [i, j] σ F H P (some (.nx, e6)) := h
            subst e3' e5'
            have S3 := S2.name (p := false) l3 hw1 (gw.less fun a h => (h1 a h).1) fun a h z => dw a h (h1 a z).1
            have S4 := S3.name (p := false) l5 (hw2.big (P' := Q3) fun _ h => h) (gw.less fun a h => h2 a (h3 a h).1) fun a h z => h.elim (fun h => dw a h (h2 a (h3 a z).1)) fun h => (h1 a h).2 (h3 a z).1
            refine h _ F2 H1 _ S4 ((s.trans st).wide (fun _ h => h) fun a h => .inl ?_) (Only.trans (l := [i]) (l' := [j]) Only.set Only.set)
            rcases h with (h | h) | h
            · exact .inl h
            · exact .inr (h1 a h).1
            · exact .inr (h2 a (h3 a h).1)
theorem s_par {i j : Nat} {x y : Str} {a b : Expr} {es : E} {px py pt pos : Pos} {kt k2 pt2} (hc : X.calm = true) (hN : X.N.Nodup) (hi : X.N[i]? = some x) (hj : X.N[j]? = some y) (hij : i ≠ j)
    (hx : X.env.scope.names.lookup x = some .local) (hy : X.env.scope.names.lookup y = some .local) (ha : PA X [a, b] (rdA c Wx T es))
    (hw : swappedStores [.Tuple [.Name x px, .Name y py] kt pt] (.Tuple [a, b] k2 pt2) X.env = pure (some [x, y]))
    (hs : swapsWithSole [.Tuple [.Name x px, .Name y py] kt pt] (.Tuple [a, b] k2 pt2) pos.line X.env = pure false) :
    PS X (.Assign [.Tuple [.Name x px, .Name y py] kt pt] (.Tuple [a, b] k2 pt2) pos) (rdS c Wx T (.par (.cons (.var i) (.cons (.var j) .nil)) es)) :=
  (ps_par hc hN hi hj hij hx hy ha hw hs).imp fun _ _ _ => rd_par hij
end
end Ev
end

section
set_option Elab.async false
set_option linter.all false
set_option autoImplicit true
set_option maxRecDepth 100000
set_option maxHeartbeats 4000000
/-! EvU: calls, defs. -/
namespace Ev
open PySem PySem.Spec PyProof.Rows L2
section
variable {c : Cfg} {Wx Wy : WX} {T : Tb} {X : Cx} {σ : L2.St} {F F1 F2 F3 H H1 H2 H3 F' H' Fx Fy : Hp} {P P1 P2 P3 Pt Pn Pi Pw Pr : Addr → Prop} {env env0 env1 env3 env' : Env} {rs : List R} {vs : List V} {i : Nat} {tg : Expr} {own own2 : List Nat} {D D' : Ends}
/-- what was lent is back: at the same values -/
def Backs (c : Cfg) (F H : Hp) (pws : List (Bool × W)) (ws : List W) (vs : List V) (Pa : Addr → Prop) : Prop := ws.length = pws.length ∧ ∃ Ps : Nat → Addr → Prop, (∀ i a, Ps i a → Pa a) ∧ (∀ i j a, Ps i a → Ps j a → i = j) ∧
  ∀ i w0, pws[i]? = some (true, w0) → ∃ w v, ws[i]? = some w ∧ vs[i]? = some v ∧ WR c.K c.G F H w v (Ps i)
theorem Backs.tail {q : Bool × W} {pws : List (Bool × W)} {w : W} {ws : List W} {v : V} {vs : List V} {Pa : Addr → Prop} (b : Backs c F H (q :: pws) (w :: ws) (v :: vs) Pa) :
    ∃ Ph Pb, Backs c F H pws ws vs Pb ∧ (∀ a, Pb a → Pa a ∧ ¬ Ph a) ∧ (∀ a, Ph a → Pa a) ∧ (q.1 = true → WR c.K c.G F H w v Ph) := by
  obtain ⟨hl, Ps, h1, h2, h3⟩ := b
  refine ⟨Ps 0, fun a => ∃ i, Ps (i + 1) a, ⟨by simpa using hl, fun i => Ps (i + 1), fun i a h => ⟨i, h⟩, fun i j a h h' => by have := h2 _ _ a h h'; omega, fun i w0 e => ?_⟩, fun a ⟨i, h⟩ => ⟨h1 _ a h, fun z => by have := h2 _ _ a h z; omega⟩, h1 0, fun hq => ?_⟩
  · obtain ⟨w', v', e1, e2, hw⟩ := h3 (i + 1) w0 (by simpa using e)
    exact ⟨w', v', by simpa using e1, by simpa using e2, hw⟩
  · obtain ⟨w', v', e1, e2, hw⟩ := h3 0 q.2 (by simp [← hq])
    simp at e1 e2
    subst e1 e2
    exact hw
theorem pass_run : ∀ {rs : List R} {vs : List V} {env : Env} {P Pt : Addr → Prop} {pws : List (Bool × W)} {e1 : Env}, (∀ (i : Nat) p w, env[i]? = some (.ok p w) → ∃ w', env0[i]? = some (.ok p w')) → Tm c F H env σ P rs vs Pt → pass rs env = some (.ok pws, e1) →
    ∃ P1 Pw, SR c.K c.G F H e1 σ P1 ∧ WRs c.K c.G F H (pws.map (·.2)) vs Pw ∧ (∀ a, Pw a → P a ∨ Pt a) ∧ (∀ a, P1 a → P a ∧ ¬ Pw a) ∧
      ∀ (F' H' : Hp) (e' : Env) (P1' : Addr → Prop) (ws : List W) (Pa : Addr → Prop), SR c.K c.G F' H' e' σ P1' → Backs c F' H' pws ws vs Pa → Good F' H' Pa → (∀ a, P1' a → ¬ Pa a) → ∃ Pz, SR c.K c.G F' H' (unpass env0 rs ws e') σ Pz ∧ ∀ a, Pz a → P1' a ∨ Pa a
  | [], vs, env, P, Pt, pws, e1, hE, t, e => by
    cases e
    obtain ⟨S, hr, _, _⟩ := t
    cases hr
    refine ⟨P, fun _ => False, S, .nil, fun _ z => z.elim, fun a h => ⟨h, id⟩, fun F' H' e' P1' ws Pa S' b g dj => ?_⟩
    have hl : ws = [] := by have := b.1; simpa using this
    subst hl
    exact ⟨P1', S', fun a h => .inl h⟩
  | r :: rs, vs, env, P, Pt, pws, e1, hE, t, e => by
    obtain ⟨S, hr, dj, g⟩ := t
    cases hr with
    | @cons _ v _ vs _ Q1 Q2 h1 h2 h3 h4 =>
      have tr : Tm c F H env σ P rs vs Q2 := ⟨S, h4, fun a h z => dj a h (h2 a z), g.less h2⟩
      -- a thing that is given away
      have give : ∀ {w : W}, WR c.K c.G F H w v Q1 → (∀ w1 ws env', unpass env0 (r :: rs) (w1 :: ws) env' = unpass env0 rs ws env') → pass (r :: rs) env = bnd (pass rs) (fun ws => ret ((false, w) :: ws)) env →
          ∃ P1 Pw, SR c.K c.G F H e1 σ P1 ∧ WRs c.K c.G F H (pws.map (·.2)) (v :: vs) Pw ∧ (∀ a, Pw a → P a ∨ Pt a) ∧ (∀ a, P1 a → P a ∧ ¬ Pw a) ∧
            ∀ (F' H' : Hp) (e' : Env) (P1' : Addr → Prop) (ws : List W) (Pa : Addr → Prop), SR c.K c.G F' H' e' σ P1' → Backs c F' H' pws ws (v :: vs) Pa → Good F' H' Pa → (∀ a, P1' a → ¬ Pa a) → ∃ Pz, SR c.K c.G F' H' (unpass env0 (r :: rs) ws e') σ Pz ∧ ∀ a, Pz a → P1' a ∨ Pa a := fun {w} hw hun hp => by
        rw [hp] at e
        obtain ⟨pws', e2, ep, e⟩ := bnd_ok e
        cases e
        obtain ⟨P1, Pw, S1, hws, k1, k2, k3⟩ := pass_run hE tr ep
        refine ⟨P1, fun a => Q1 a ∨ Pw a, S1, .cons (P1 := Q1) (P2 := Pw) (fun b hb => ⟨.inl hb, fun z => ?_⟩) (fun b hb => .inr hb) hw hws, fun a h => ?_, fun a h => ⟨(k2 a h).1, fun z => ?_⟩, fun F' H' e' P1' ws Pa S' b g' dj' => ?_⟩
        · exact (k1 b z).elim (fun z => dj b z (h1 b hb).1) (h1 b hb).2
        · exact h.elim (fun h => .inr (h1 a h).1) fun h => (k1 a h).imp id (h2 a)
        · exact z.elim (fun z => dj a (k2 a h).1 (h1 a z).1) (k2 a h).2
        · cases ws with
          | nil => have := b.1; simp at this
          | cons w1 ws =>
            obtain ⟨Ph, Pb, b2, q1, q2, _⟩ := b.tail
            rw [hun]
            obtain ⟨Pz, Sz, hz⟩ := k3 F' H' e' P1' ws Pb S' b2 (g'.less fun a h => (q1 a h).1) fun a h z => dj' a h (q1 a z).1
            exact ⟨Pz, Sz, fun a h => (hz a h).imp id fun h => (q1 a h).1⟩
      cases r with
      | d x => exact give (w := .d x) (.d h3.ofD) (fun _ _ _ => rfl) rfl
      | own w =>
        cases h3 with
        | own hw => exact give hw (fun _ _ _ => rfl) rfl
      | pth i sel =>
        cases sel with
        | cons k sel => cases e
        | nil =>
          have e' : (match env[i]? with
            | some (.ok _ w) => bnd (pass rs) (fun ws => ret ((true, w) :: ws)) (env.set i .lck)
            | _ => none) = some (.ok pws, e1) := e
          split at e'
          · rename_i p w ei
            obtain ⟨pws', e2, ep, e'⟩ := bnd_ok e'
            cases e'
            obtain ⟨v0, Pi, ev, hw, hs, S'⟩ := S.lock ei
            cases h3 with
            | pth q1 q2 =>
              rw [ev] at q1
              cases q1
              obtain rfl := (show v0 = v from q2)
              have hi : i < env.length := (List.getElem?_eq_some_iff.mp ei).1
              have hE' : ∀ (j : Nat) p w, (env.set i .lck)[j]? = some (.ok p w) → ∃ w', env0[j]? = some (.ok p w') := fun j p w ej => by
                by_cases hj : i = j
                · subst hj; rw [List.getElem?_set_self hi] at ej; cases ej
                · rw [List.getElem?_set_ne hj] at ej; exact hE j p w ej
              obtain ⟨P1, Pw, S1, hws, k1, k2, k3⟩ := pass_run hE' (⟨S', h4, fun a h z => dj a h.1 (h2 a z), g.less h2⟩ : Tm c F H (env.set i .lck) σ _ rs vs Q2) ep
              refine ⟨P1, fun a => Pi a ∨ Pw a, S1, .cons (P1 := Pi) (P2 := Pw) (fun b hb => ⟨.inl hb, fun z => ?_⟩) (fun b hb => .inr hb) hw hws, fun a h => ?_, fun a h => ⟨(k2 a h).1.1, fun z => ?_⟩, fun F' H' e' P1' ws Pa S2 b g' dj' => ?_⟩
              · exact (k1 b z).elim (fun z => z.2 hb) fun z => dj b (hs b hb) (h2 b z)
              · exact h.elim (fun h => .inl (hs a h)) fun h => (k1 a h).imp (fun z => z.1) (h2 a)
              · exact z.elim (k2 a h).1.2 (k2 a h).2
              · cases ws with
                | nil => have := b.1; simp at this
                | cons w1 ws =>
                  obtain ⟨Ph, Pb, b2, c1, c2, c3⟩ := b.tail
                  obtain ⟨w', e0⟩ := hE i p w ei
                  have hun : unpass env0 (.pth i [] :: rs) (w1 :: ws) e' = unpass env0 rs ws (e'.set i (.ok p w1)) := by
                    show (match env0[i]? with
                      | some (.ok p _) => unpass env0 rs ws (e'.set i (.ok p w1))
                      | _ => unpass env0 rs ws e') = _
                    rw [e0]
                  rw [hun]
                  have S3 := S2.put (p := p) ev (c3 rfl) (g'.less c2) fun a h z => dj' a h (c2 a z)
                  obtain ⟨Pz, Sz, hz⟩ := k3 F' H' _ _ ws Pb S3 b2 (g'.less fun a h => (c1 a h).1) fun a h z => h.elim (fun h => dj' a h (c1 a z).1) (c1 a z).2
                  exact ⟨Pz, Sz, fun a h => (hz a h).elim (fun h => h.imp id (c2 a)) fun h => .inr (c1 a h).1⟩
          · cases e'
theorem pass_noex : ∀ {rs : List R} {env : Env} {x : Exc} {env' : Env}, pass rs env ≠ some (.ex x, env')
  | [], env, x, env', h => by cases h
  | r :: rs, env, x, env', h => by
    have go : ∀ {q : Bool × W} {env : Env}, bnd (pass rs) (fun ws => ret (q :: ws)) env ≠ some (.ex x, env') := fun {q env} h => by
      unfold bnd at h
      cases e : pass rs env with
      | none => rw [e] at h; cases h
      | some p =>
        obtain ⟨p, e1⟩ := p
        rw [e] at h
        cases p with
        | ok _ => cases h
        | ex y => exact pass_noex e
    cases r with
    | d x => exact go h
    | own w => exact go h
    | pth i sel =>
      cases sel with
      | cons k sel => cases h
      | nil =>
        have e' : (match env[i]? with
          | some (.ok _ w) => bnd (pass rs) (fun ws => ret ((true, w) :: ws)) (env.set i .lck)
          | _ => none) = some (.ex x, env') := h
        split at e'
        · exact go e'
        · cases e'
/-- a def's promise -/
def spF (c : Cfg) (call : List (Bool × W) → Option (Res W × List W)) : Sp := fun vs H Q E => ∃ F Pw pws, Good F H Pw ∧ WRs c.K c.G F H (pws.map (·.2)) vs Pw ∧ match call pws with
  | none => False
  | some (.ok w, ws) => ∀ v F' H' Pa Pr, Backs c F' H' pws ws vs Pa → WR c.K c.G F' H' w v Pr → (∀ a, Pa a → ¬ Pr a) → Good F' H' (fun a => Pa a ∨ Pr a) → Step F H Pw F' H' (fun a => Pa a ∨ Pr a) → Q v H'
  | some (.ex x, ws) => ∀ cls d F' H' Pa, Backs c F' H' pws ws vs Pa → Good F' H' Pa → Step F H Pw F' H' Pa → ExR c F' H' x cls d → E cls d H'
theorem call_core {f : Nat} {Q : VK} (t : Tm c F1 H1 env1 σ P1 rs vs Pt) (s : Step F H P F1 H1 fun a => P1 a ∨ Pt a) (q : AftG c Wx σ F H P (bnd (callR T f rs) (fun r => ret [r]) env1) fun rs env' => ∀ vs F' H' P' Pt, Tm c F' H' env' σ P' rs vs Pt → Step F H P F' H' (fun a => P' a ∨ Pt a) → ∃ v, vs = [v] ∧ Q v H') : spF c (T.call f) vs H1 Q (WE Wx σ) := by
  cases ep : pass rs env1 with
  | none => unfold bnd callR at q; rw [ep] at q; exact False.elim q
  | some pr =>
    obtain ⟨pr, e1⟩ := pr
    cases pr with
    | ex x => exact (pass_noex ep).elim
    | ok pws =>
      obtain ⟨P1', Pw, S1, hws, k1, k2, k3⟩ := pass_run (env0 := env1) (fun i p w e => ⟨w, e⟩) t ep
      have gw : Good F1 H1 Pw := (t.sr.good.or t.gt).less k1
      have dw : ∀ a, Pw a → ¬ P1' a := fun a h z => (k2 a z).2 h
      refine ⟨F1, Pw, pws, gw, hws, ?_⟩
      unfold bnd callR at q
      rw [ep] at q
      simp only at q
      have all : ∀ {F' H' : Hp} {Pa : Addr → Prop} {ws : List W}, Backs c F' H' pws ws vs Pa → (Q' : Addr → Prop) → Good F' H' (fun a => Pa a ∨ Q' a) → Step F1 H1 Pw F' H' (fun a => Pa a ∨ Q' a) →
          ∃ Pz, SR c.K c.G F' H' (unpass env1 rs ws e1) σ Pz ∧ (∀ a, Pz a → P1' a ∨ Pa a) ∧ (∀ a, Q' a → ¬ P1' a) ∧ Step F H P F' H' (fun a => Pz a ∨ Q' a) := fun {F' H' Pa ws} b Q' g st => by
        obtain ⟨gp, dp, kp⟩ := st.aside (S1.good) dw g
        have S2 : SR c.K c.G F' H' e1 σ P1' := by
          obtain ⟨Ps, h1, h2, h3⟩ := S1.rel
          exact ⟨S1.len, gp, Ps, h1, h2, fun i p w e => let ⟨v, ev, hw⟩ := h3 i p w e; ⟨v, ev, hw.stay st.ext fun a o h e => kp a o (h1 i a h) e⟩⟩
        obtain ⟨Pz, Sz, hz⟩ := k3 F' H' e1 P1' ws Pa S2 b (g.less fun a h => .inl h) fun a h z => dp a (.inl z) h
        refine ⟨Pz, Sz, hz, fun a h => dp a (.inr h), s.trans (st.wide k1 fun a h => ?_)⟩
        rcases h with h | h
        · exact (hz a h).elim (fun h => .inr (.inl (.inl (k2 a h).1))) fun h => .inl (.inl h)
        · exact .inl (.inr h)
      cases ec : T.call f pws with
      | none => rw [ec] at q; exact q
      | some pc =>
        obtain ⟨pc, ws⟩ := pc
        rw [ec] at q
        cases pc with
        | ok w =>
          intro v F' H' Pa Pr b hw dj g st
          obtain ⟨Pz, Sz, hz, dz, st'⟩ := all b Pr g st
          obtain ⟨v', ev, q⟩ := q [v] F' H' Pz Pr ⟨Sz, RRs.mk1 (rr_toR hw), fun a h z => (hz a h).elim (fun h => dz a z h) fun h => dj a h z, g.less fun a h => .inr h⟩ st'
          cases ev
          exact q
        | ex x =>
          intro cls d F' H' Pa b g st ex
          obtain ⟨Pz, Sz, hz, _, st'⟩ := all b (fun _ => False) (g.less fun a h => h.elim id fun z => z.elim) (st.wide (fun _ h => h) fun a h => .inl (h.elim id fun z => z.elim))
          exact q cls d F' H' Pz Sz ex (st'.wide (fun _ h => h) fun a h => .inl (.inl h))
theorem rd_call {f : Nat} {es : E} {Q : VK} (q : rdE c Wx T (.call f es) σ H Q) : rdA c Wx T es σ H fun vs H1 => spF c (T.call f) vs H1 Q (WE Wx σ) := by
  obtain ⟨F, P, env, S, q⟩ := q
  rw [ev] at q
  exact ⟨F, P, env, S, Aft.fst q S fun rs env1 vs F1 H1 P1 Pt _ t s q => call_core t s q⟩
theorem e_call {k : Nat} {f : Addr} {fd : FuncData} {ps : List Str} {n : Nat} {x : Str} {p pos : Pos} {e : Expr} {es : List Expr} {es' : E} (Fn : FnOk X.prog X.w X.K X.mg X.base (L2.CX X.prog X.w) k f fd ps (spF c (T.call n))) (hr : Room k X.A) (hg : Gl X x) (hm : X.mg x = some (.ref f)) (hk : PySem.W.keepIn X.K (.ref f) = true)
    (hb : Binds X.K fd ps []) (tk : Takes X Wx) (ha : PA X (e :: es) (rdA c Wx T es')) (hdb : (x == ("__debug__" : Str)) = false) (he : starEach (e :: es) X.env = (false, eval e X.env) :: starEach es X.env) (hpl : (backTo pos (starEach es X.env)).any (·.1) = false) :
    PE X (.Call (.Name x p) (e :: es) [] pos) (rdE c Wx T (.call n es')) := by
  refine (pe_callSD (dvs := []) (ds := []) (E := WE Wx) Fn hr hg hm hk hb .nil (fun σ => passAt tk σ) ha hdb he hpl).imp fun σ H Q q => ?_
  have z := rd_call q
  obtain ⟨F, P, env, S, z⟩ := z
  exact ⟨F, P, env, S, AftG.from_ z (Step.refl F H P) fun rs env1 k vs F1 H1 P1 Pt t s => by show spF c (T.call n) (vs ++ []) H1 Q (WE Wx σ); rw [List.append_nil]; exact k vs F1 H1 P1 Pt t s⟩
theorem e_call0 {k : Nat} {f : Addr} {fd : FuncData} {ps : List Str} {n : Nat} {x : Str} {p pos : Pos} (Fn : FnOk X.prog X.w X.K X.mg X.base (L2.CX X.prog X.w) k f fd ps (spF c (T.call n))) (hr : Room k X.A) (hg : Gl X x) (hm : X.mg x = some (.ref f)) (hk : PySem.W.keepIn X.K (.ref f) = true)
    (hb : Binds X.K fd ps []) (tk : Takes X Wx) (hdb : (x == ("__debug__" : Str)) = false) : PE X (.Call (.Name x p) [] [] pos) (rdE c Wx T (.call n .nil)) := by
  refine ⟨fun pins s σ H Q I q => ?_⟩
  obtain ⟨F, P, env, S, z⟩ := rd_call q
  rw [ev] at z
  have z := z [] F H P _ (Tm.nil S) (nilStep S)
  refine wpAny_Call_Name_kw (ld_glob I hg hm ?_ hdb)
  exact PySem.W.callWith_K0 I.kIn hk (run_fnSD (us := []) (dvs := []) (ds := []) (E := WE Wx) Fn hr hb .nil (passAt tk σ) I .nil z)
/-! ### a name that holds a def -/
def tCallV (i : Nat) (Sx : Addr → Sp → Prop) (t : TA) (E : L2.St → XK) : TE := fun σ H Q => ∃ f sp, σ[i]? = some (some (.ref f)) ∧ Sx f sp ∧ t σ H fun vs H1 => sp vs H1 Q (E σ)
theorem pe_callV {CX : CXT} {k : Nat} {Sx : Addr → Sp → Prop} {t : TA} {E : L2.St → XK} {x : Str} {p pos : Pos} {e : Expr} {es : List Expr} (A : ∀ f sp, Sx f sp → ∃ (fd : FuncData) (ps : List Str), FnOk X.prog X.w X.K X.mg X.base CX k f fd ps sp ∧ PySem.W.keepIn X.K (.ref f) = true ∧ Binds X.K fd ps [])
    (hr : Room k X.A) (hN : X.N[i]? = some x) (hv : Vis X.env.scope x) (hx : ∀ σ, PassesAt CX X σ (E σ)) (ha : PA X (e :: es) t)
    (hdb : (x == ("__debug__" : Str)) = false) (hcd : (x == ("__classdict__" : Str)) = false)
    (he : starEach (e :: es) X.env = (false, eval e X.env) :: starEach es X.env) (hpl : (backTo pos (starEach es X.env)).any (·.1) = false) : PE X (.Call (.Name x p) (e :: es) [] pos) (tCallV i Sx t E) := by
  refine ⟨fun pins s σ H Q I h => ?_⟩
  obtain ⟨f, sp, hs, hS, ht⟩ := h
  obtain ⟨fd, ps, Fn, hk, hb⟩ := A f sp hS
  refine wpAny_Call_Name_kw (thn ((pe_var (pos := p) hN hv hdb hcd).run pins s σ H (fun v H1 => v = .ref f ∧ H1 = H) I ⟨.ref f, hs, rfl, rfl⟩) fun u s1 ⟨v, H1, I1, r1, q1⟩ => ?_)
  obtain ⟨rfl, rfl⟩ := q1
  cases r1
  refine PySem.W.callWith_K (h₀ := X.base) I.ok.mod.kin hk (thn (ha.run pos pins s1 σ _ _ I1 ht) fun us s2 ⟨vs, H2, I2, r, q⟩ => ⟨I2.kIn, ?_⟩) he hpl
  exact run_fnSD (us := us) (vs := vs) (dvs := []) (ds := []) (E := E) Fn hr hb .nil (hx σ) I2 r (by rw [List.append_nil]; exact q)
theorem e_callv {k : Nat} {x : Str} {p pos : Pos} {e : Expr} {es : List Expr} {es' : E} (A : ∀ (j : Nat) (f : Addr), c.G.fn j = some f → ∃ (fd : FuncData) (ps : List Str), FnOk X.prog X.w X.K X.mg X.base (L2.CX X.prog X.w) k f fd ps (spF c (T.call j)) ∧ PySem.W.keepIn X.K (.ref f) = true ∧ Binds X.K fd ps [])
    (hr : Room k X.A) (hN : X.N[i]? = some x) (hv : Vis X.env.scope x) (tk : Takes X Wx) (ha : PA X (e :: es) (rdA c Wx T es')) (hdb : (x == ("__debug__" : Str)) = false) (hcd : (x == ("__classdict__" : Str)) = false)
    (he : starEach (e :: es) X.env = (false, eval e X.env) :: starEach es X.env) (hpl : (backTo pos (starEach es X.env)).any (·.1) = false) : PE X (.Call (.Name x p) (e :: es) [] pos) (rdE c Wx T (.callv i es')) := by
  refine (pe_callV (Sx := fun f sp => ∃ j, c.G.fn j = some f ∧ sp = spF c (T.call j)) (E := WE Wx) (fun f sp ⟨j, h1, h2⟩ => by subst h2; exact A j f h1) hr hN hv (fun σ => passAt tk σ) ha hdb hcd he hpl).imp fun σ H Q ⟨F, P, env, S, q⟩ => ?_
  rw [ev] at q
  cases e0 : env[i]? with
  | none => simp only [e0] at q; exact False.elim q
  | some sl =>
    cases sl with
    | no => simp only [e0] at q; exact False.elim q
    | lck => simp only [e0] at q; exact False.elim q
    | ok pin w =>
      cases w with
      | d d =>
        simp only [e0] at q
        obtain ⟨Ps, _, _, h3⟩ := S.rel
        obtain ⟨v, ev', hw⟩ := h3 i pin _ e0
        cases hw with
        | d hd =>
          cases hd with
          | @fn j f hj =>
            have ef : fnOf (.dict [(.str (PySem.Str.ofString "fn"), .int (j : Int))]) = some j := by
              show (if PySem.Str.ofString "fn" = PySem.Str.ofString "fn" then some (j : Int).toNat else none) = some j
              rw [if_pos rfl]
              rfl
            rw [ef] at q
            exact ⟨f, _, ev', ⟨j, hj, rfl⟩, F, P, env, S, Aft.fst q S fun rs env1 vs F1 H1 P1 Pt _ t s q => call_core t s q⟩
          | _ => simp only [fnOf] at q; exact False.elim q
      | _ => simp only [e0] at q; exact False.elim q
/-! ### defs -/
theorem WRs.fam : ∀ {ws : List W} {vs : List V} {P : Addr → Prop}, WRs c.K c.G F H ws vs P → ∃ Ps : Nat → Addr → Prop, (∀ i a, Ps i a → P a) ∧ (∀ i j a, Ps i a → Ps j a → i = j) ∧ ∀ i w, ws[i]? = some w → ∃ v, vs[i]? = some v ∧ WR c.K c.G F H w v (Ps i)
  | [], _, P, _ => ⟨fun _ _ => False, fun _ _ z => z.elim, fun _ _ _ z => z.elim, fun i w e => by simp at e⟩
  | w0 :: ws, _, P, h => by
    cases h with
    | @cons _ v0 _ vs _ Q1 Q2 h1 h2 h3 h4 =>
      obtain ⟨Ps, k1, k2, k3⟩ := WRs.fam h4
      refine ⟨fun i => match i with | 0 => Q1 | i + 1 => Ps i, fun i a h => ?_, fun i j a h h' => ?_, fun i w e => ?_⟩
      · cases i with
        | zero => exact (h1 a h).1
        | succ i => exact h2 a (k1 i a h)
      · cases i with
        | zero =>
          cases j with
          | zero => rfl
          | succ j => exact ((h1 a h).2 (k1 j a h')).elim
        | succ i =>
          cases j with
          | zero => exact ((h1 a h').2 (k1 i a h)).elim
          | succ j => rw [k2 i j a h h']
      · cases i with
        | zero =>
          simp at e
          subst e
          exact ⟨v0, rfl, h3⟩
        | succ i =>
          obtain ⟨v, ev, hw⟩ := k3 i w (by simpa using e)
          exact ⟨v, by simpa using ev, hw⟩
theorem SR.enter {fi : FnI} {N : List Str} {pws : List (Bool × W)} (hws : WRs c.K c.G F H (pws.map (·.2)) vs Pw) (g : Good F H Pw) (hn : pws.length = fi.n) (hN : fi.slots = N.length) : SR c.K c.G F H (enter fi pws) (L2.start N vs) Pw := by
  have hl : pws.length = vs.length := by have := hws.length; simpa using this
  obtain ⟨Ps, k1, k2, k3⟩ := hws.fam
  refine ⟨?_, g, Ps, k1, k2, fun i p w e => ?_⟩
  · unfold Ev.enter L2.start
    simp
    omega
  · unfold Ev.enter at e
    have hi : i < pws.length := by
      by_cases hi : i < pws.length
      · exact hi
      · rw [List.getElem?_append_right (by simpa using hi), List.getElem?_replicate] at e
        split at e <;> cases e
    rw [List.getElem?_append_left (by simpa using hi), List.getElem?_map] at e
    cases ep : pws[i]? with
    | none => rw [ep] at e; cases e
    | some q =>
      rw [ep] at e
      cases e
      obtain ⟨v, ev, hw⟩ := k3 i q.2 (by rw [List.getElem?_map, ep]; rfl)
      refine ⟨v, ?_, hw⟩
      unfold L2.start
      rw [List.getElem?_append_left (by rw [List.length_map, ← hl]; exact hi), List.getElem?_map, ev]
      rfl
theorem start_get {N : List Str} {j : Nat} {v : V} (h : vs[j]? = some v) : (L2.start N vs)[j]? = some (some v) := by
  unfold L2.start
  rw [List.getElem?_append_left (by rw [List.length_map]; exact (List.getElem?_eq_some_iff.mp h).1), List.getElem?_map, h]
  rfl
theorem back_run {fi : FnI} {N : List Str} {pws : List (Bool × W)} {e : Env} {σ' : L2.St} (hl : pws.length = vs.length) (hn : pws.length = fi.n) (hb : backOk fi pws e = true) (S : SR c.K c.G F H e σ' P) (o : Only fi.body.names (L2.start N vs) σ') (hle : fi.n ≤ e.length) : Backs c F H pws (backs fi.n e) vs P := by
  obtain ⟨Ps, h1, h2, h3⟩ := S.rel
  refine ⟨by unfold backs; simp; omega, Ps, h1, h2, fun j w0 ej => ?_⟩
  have hj : j < pws.length := (List.getElem?_eq_some_iff.mp ej).1
  have hbj := List.all_eq_true.mp hb j (List.mem_range.mpr hj)
  rw [ej] at hbj
  simp only [Bool.and_eq_true, Bool.not_eq_true'] at hbj
  obtain ⟨hc, hs⟩ := hbj
  have hv : ∃ v, vs[j]? = some v := ⟨vs[j]'(by omega), List.getElem?_eq_getElem (by omega)⟩
  obtain ⟨v, ev⟩ := hv
  have ho := o.2 j (by intro z; rw [List.contains_iff_mem.mpr z] at hc; cases hc)
  rw [start_get ev] at ho
  split at hs
  · rename_i p w es
    obtain ⟨v', ev', hw⟩ := h3 j p w es
    rw [ho] at ev'
    cases ev'
    refine ⟨w, v, ?_, ev, hw⟩
    unfold backs
    rw [List.getElem?_map, List.getElem?_take_of_lt (by omega), es]
    rfl
  · cases hs
end
end Ev
end

section
set_option Elab.async false
set_option linter.all false
set_option autoImplicit true
set_option maxRecDepth 100000
set_option maxHeartbeats 4000000
/-! EvV: defs keep their promises; binding. -/
namespace Ev
open PySem PySem.Spec PyProof.Rows L2
section
variable {c : Cfg} {Wx Wy : WX} {T : Tb} {X : Cx} {σ : L2.St} {F F1 F2 F3 H H1 H2 H3 F' H' Fx Fy : Hp} {P P1 P2 P3 Pt Pn Pi Pw Pr : Addr → Prop} {env env0 env1 env3 env' : Env} {rs : List R} {vs : List V} {i : Nat}
variable {Pg : Program} {w : World} {K : PySem.W.Frag} {mg : Str → Option Value} {base : Heap} {x qual : Str} {params : Arguments} {body : List Stmt} {scope : Scope} {dvs : List V} {kws : List (Str × V)} {f : Addr} {fd : FuncData}
theorem exec_len : True := trivial
/-- a def whose body does what the evaluator says -/
theorem fn_ok {fi : FnI} {N ps : List Str} {l : Nat} (FD : FunD K x qual params body scope dvs kws f fd) (S : FnScope N ps scope) (hn : fi.n = ps.length) (hN : fi.slots = N.length)
    (hb : ∀ (cdv : Value) (A : Around) (outer : List PySem.Env) (s : Shared) (H : Hp) (E : XK), Room l (A.deeper (envOfC qual scope s.heap.objs.size f cdv)) →
      PSs (cxOf (L2.CX Pg w) Pg w K mg base N qual scope f cdv A outer s H E) body (rdS c (fun cls d _ H' => E cls d H') T fi.body)) :
    FnOk Pg w K mg base (L2.CX Pg w) (l + 1) f fd ps (spF c (runFn T fi)) := by
  have len : ∀ vs H Q E, spF c (runFn T fi) vs H Q E → vs.length = ps.length := fun vs H Q E ⟨F, Pw, pws, g, hws, q⟩ => by
    have h1 := hws.length
    rw [List.length_map] at h1
    unfold runFn at q
    by_cases hl : pws.length = fi.n
    · omega
    · rw [if_neg hl] at q; exact q.elim
  refine FD.ok S len fun cdv A outer s H vs Q E hr hsp => ⟨_, hb cdv A outer s H E hr, ?_⟩
  have hvl := len vs H Q E hsp
  obtain ⟨F, Pw, pws, g, hws, q⟩ := hsp
  have h1 := hws.length
  rw [List.length_map] at h1
  have hpn : ps.length ≤ N.length := by have := congrArg List.length S.pre; rw [List.length_take] at this; omega
  refine ⟨F, Pw, enter fi pws, SR.enter hws g (by omega) hN, ?_⟩
  unfold runFn at q
  rw [if_pos (by omega)] at q
  have bk : ∀ {e : Ev.Env} {F' H' : Hp} {P' : Addr → Prop} {σ' : L2.St}, backOk fi pws e = true → SR c.K c.G F' H' e σ' P' → Only fi.body.names (L2.start N vs) σ' → Backs c F' H' pws (backs fi.n e) vs P' := fun {e F' H' P' σ'} hb S' o => by
    refine back_run h1 (by omega) hb S' o ?_
    rw [S'.len, o.1]
    unfold L2.start
    simp
    omega
  cases ex : exec T fi.body (enter fi pws) with
  | none => rw [ex] at q; exact q.elim
  | some p =>
    obtain ⟨fl, e⟩ := p
    rw [ex] at q
    cases fl with
    | bk => exact q.elim
    | ct => exact q.elim
    | nx =>
      simp only at q
      cases hb : backOk fi pws e with
      | false => rw [hb] at q; exact q.elim
      | true =>
        rw [hb] at q
        intro σ' F' H' P' S' st o
        exact q .non F' H' P' (fun _ => False) (bk hb S' o) (.d .non) (fun _ _ z => z) (S'.good.less fun a h => h.elim id fun z => z.elim) (st.wide (fun _ h => h) fun a h => .inl (h.elim id fun z => z.elim))
    | rt wv =>
      simp only at q
      cases hb : backOk fi pws e with
      | false => rw [hb] at q; exact q.elim
      | true =>
        rw [hb] at q
        intro v σ' F' H' P' Pt S' hw g' dj st o
        exact q v F' H' P' Pt (bk hb S' o) hw dj (S'.good.or g') st
    | ex xx =>
      simp only at q
      cases hb : backOk fi pws e with
      | false => rw [hb] at q; exact q.elim
      | true =>
        rw [hb] at q
        intro cls d σ' F' H' P' S' ex' st o
        exact q cls d F' H' P' (bk hb S' o) S'.good st ex'
theorem takes_def {N : List Str} {cdv : Value} {A : Around} {outer : List PySem.Env} {s : Shared} {H : Hp} {E : XK} : Takes (cxOf (L2.CX Pg w) Pg w K mg base N qual scope f cdv A outer s H E) (fun cls d _ H' => E cls d H') := takes_of rfl rfl rfl rfl
theorem passes_def {N : List Str} {cdv : Value} {A : Around} {outer : List PySem.Env} {s : Shared} {H : Hp} {E : XK} : PassesOwn (model Pg w) (cxOf (L2.CX Pg w) Pg w K mg base N qual scope f cdv A outer s H E).A (cxOf (L2.CX Pg w) Pg w K mg base N qual scope f cdv A outer s H E).env (cxOf (L2.CX Pg w) Pg w K mg base N qual scope f cdv A outer s H E).xe := passes_of (X := cxOf (L2.CX Pg w) Pg w K mg base N qual scope f cdv A outer s H E) rfl
/-! ### binding, whatever the names -/
theorem lookup_zip_some {α : Type} : ∀ {ps : List Str} {us : List α} {x : Str}, ps.length = us.length → x ∈ ps → ((ps.zip us).lookup x).isSome = true
  | [], _, _, _, h => by simp at h
  | p :: ps, [], _, hl, _ => by simp at hl
  | p :: ps, u :: us, x, hl, h => by
    show (((p, u) :: ps.zip us).lookup x).isSome = true
    rw [List.lookup_cons]
    cases e : x == p with
    | true => rfl
    | false =>
      rcases List.mem_cons.mp h with h | h
      · subst h; simp at e
      · exact lookup_zip_some (by simpa using hl) h
theorem filterMap_zip {α : Type} : ∀ {ps : List Str} {us : List α}, ps.length = us.length → ps.Nodup → ps.filterMap (fun n => ((ps.zip us).lookup n).map (n, ·)) = ps.zip us := by
  have gen : ∀ (ps : List Str) (us : List α) (L : List (Str × α)), ps.length = us.length → ps.Nodup → (∀ p ∈ ps, L.lookup p = (ps.zip us).lookup p) → ps.filterMap (fun n => (L.lookup n).map (n, ·)) = ps.zip us := by
    intro ps
    induction ps with
    | nil => intro us L _ _ _; rfl
    | cons p ps ih =>
      intro us L hl nd h
      cases us with
      | nil => cases hl
      | cons u us =>
        have h0 : L.lookup p = some u := by
          rw [h p (by simp)]
          show ((p, u) :: ps.zip us).lookup p = _
          rw [List.lookup_cons, beq_self_eq_true]
        rw [List.filterMap_cons, h0]
        show (p, u) :: _ = (p, u) :: ps.zip us
        rw [ih us L (by simpa using hl) (List.nodup_cons.mp nd).2 fun q hq => ?_]
        rw [h q (by simp [hq])]
        show ((p, u) :: ps.zip us).lookup q = _
        rw [List.lookup_cons]
        have : (q == p) = false := by
          apply beq_eq_false_iff_ne.mpr
          rintro rfl
          exact (List.nodup_cons.mp nd).1 hq
        rw [this]
  intro ps us hl nd
  exact gen ps us _ hl nd fun _ _ => rfl
/-- only plain parameters -/
def plainPs (a : Arguments) : Bool := a.posonlyargs.isEmpty && a.vararg.isNone && a.kwonlyargs.isEmpty && a.kwarg.isNone
theorem bind_plain {params : Arguments} {kV doc pm : Value} {an : Option Addr} {cdv ct : Value} {us : List Value} (hp : plainPs params = true) (hl : us.length = (params.args.map (·.arg)).length) (nd : (params.args.map (·.arg)).Nodup) :
    bindArgs (PySem.W.fnOf x qual params body scope .none kV doc pm an cdv ct) ⟨us, []⟩ = pure ((params.args.map (·.arg)).zip us) := by
  obtain ⟨po, args, va, ko, kd, kw, df⟩ := params
  unfold plainPs at hp
  simp only [Bool.and_eq_true, List.isEmpty_iff, Option.isNone_iff_eq_none] at hp
  obtain ⟨⟨⟨rfl, rfl⟩, rfl⟩, rfl⟩ := hp
  unfold bindArgs PySem.W.fnOf
  simp only at hl nd ⊢
  generalize hps : args.map (·.arg) = ps at hl nd ⊢
  have hm : (ps.filter fun n => ((ps.zip us).lookup n).isNone) = [] := List.filter_eq_nil_iff.mpr fun a ha => by
    have := lookup_zip_some (us := us) hl.symm ha
    cases e : (ps.zip us).lookup a with
    | none => rw [e] at this; cases this
    | some _ => simp
  have hf := filterMap_zip hl.symm nd
  simp [seqItems?, notAStandIn, hl, hm, hf]
end
end Ev
end

section
set_option Elab.async false
set_option linter.all false
set_option autoImplicit true
set_option maxRecDepth 100000
set_option maxHeartbeats 4000000
/-! EvW: a new dict, names that take a comprehension, small rests. -/
namespace Ev
open PySem PySem.Spec PyProof.Rows L2
section
variable {c : Cfg} {Wx Wy : WX} {T : Tb} {X : Cx} {σ : L2.St} {F F1 F2 F3 H H1 H2 H3 F' H' Fx Fy : Hp} {P P1 P2 P3 Pt Pn Pi Pw Pr : Addr → Prop} {env env0 env1 env3 env' : Env} {rs : List R} {vs : List V} {i : Nat} {tg : Expr} {own own2 : List Nat} {D D' : Ends}
theorem e_dnew {pos : Pos} : PE X (.Dict [] [] pos) (rdE c Wx T .dnew) := by
  refine pe_dnewK.imp fun σ H Q ⟨F, P, env, S, q⟩ p hp => ?_
  rw [ev] at q
  obtain ⟨t', s'⟩ := (Tm.nil S).fin (nilStep S) (New.own S.good.sub hp (o := .dK [])) (r := .own (.dct false [])) (u := .ref p) (.own (.dct upd_at rfl .nil))
  obtain ⟨v', ev, q⟩ := q _ _ _ _ _ t' s'
  cases ev
  exact q
/-- name = m, what m gives being new -/
def rdN (c : Cfg) (Wx : WX) (m : M (List R)) (i : Nat) : TS := fun D σ H => rdM c Wx m σ H fun x H1 => D.nx (σ.set i (some x)) H1
theorem lock_core {it : E} {m : M (List R)} {Q : VK} (hm : ∀ env rs env', m env = some (.ok rs, env') → ∀ r ∈ rs, r.held) (q : rdM c Wx (whileLk it m) σ H Q) :
    rdM c Wx m σ H Q ∨ ∃ a us, H a = some (.dK us) ∧ ∀ od, rdM c Wx m σ (upd H a (.frz od (.dK us))) fun v H' => H' a = some (.frz od (.dK us)) ∧ Q v (upd H' a (.dK us)) := by
  obtain ⟨F, P, env, S, q⟩ := q
  unfold whileLk at q
  cases e1 : m (lockFor it env).2 with
  | none => rw [e1] at q; exact False.elim q
  | some pr =>
    obtain ⟨pr, e2⟩ := pr
    rw [e1] at q
    cases pr with
    | ex x => exact False.elim q
    | ok rs =>
      simp only at q
      rcases lockFor_cases it env with hl | ⟨i, p, kvs, ei, hl⟩
      · rw [hl] at e1 q
        refine .inl ⟨F, P, env, S, ?_⟩
        rw [e1]
        exact q
      · rw [hl] at e1 q
        simp only at e1 q
        obtain ⟨a, us, ev, h1, hp, hS⟩ := S.lockD ei
        refine .inr ⟨a, us, h1, fun od => ?_⟩
        refine ⟨F, P, _, hS od, ?_⟩
        rw [e1]
        intro vs F2 H2 P2 Pt2 t s2
        cases eu : unlock (some i) e2 with
        | none => rw [eu] at q; exact False.elim q
        | some e3 =>
          rw [eu] at q
          unfold unlock at eu
          simp only at eu
          split at eu
          · rename_i p' kvs' e4
            cases eu
            have h2 : H2 a = some (.frz od (.dK us)) := s2.keep a _ upd_at (.inr trivial)
            obtain ⟨hp2, S3⟩ := t.sr.unlockD e4 ev h2
            have nt : ∀ b, Pt2 b → b ≠ a := fun b hb z => t.dj a hp2 (z ▸ hb)
            have kt : ∀ b o, Pt2 b → H2 b = some o → upd H2 a (.dK us) b = some o := fun b o hb e => by rw [upd_ne (nt b hb)]; exact e
            have t3 : Tm c F2 (upd H2 a (.dK us)) _ σ P2 rs vs Pt2 := ⟨S3, t.rr.stay (Sub.refl F2) kt (hm _ _ _ e1), t.dj, ⟨S3.good.sub, t.gt.off, fun b hb => by rw [upd_ne (nt b hb)]; exact t.gt.trk b hb⟩⟩
            obtain ⟨v, ev, q⟩ := q vs F2 _ P2 Pt2 t3 (Step.locked h1 hp s2)
            exact ⟨v, ev, h2, q⟩
          · cases eu
theorem n_lock {st : Stmt} {it : E} {m : M (List R)} (hm : ∀ env rs env', m env = some (.ok rs, env') → ∀ r ∈ rs, r.held) (h : PS X st (rdN c Wx m i)) : PS X st (rdN c Wx (whileLk it m) i) := by
  refine ⟨fun pins s σ H D I q => ?_⟩
  rcases lock_core hm q with q | ⟨a, us, h1, q⟩
  · exact h.run pins s σ H D I q
  · exact (ps_lock h).run pins s σ H D I ⟨a, .dK us, h1, trivial, q⟩
theorem rd_name {e : E} (q : rdS c Wx T (.asg (.var i) e) D σ H) : rdN c Wx (ev T e) i D σ H := by
  obtain ⟨F, P, env, S, q⟩ := q
  have q : AftX c Wx D [i] σ F H P (ofM (ev T e) (fun rs => ofM (sole rs) fun r => ofM (asg T (.var i) [r]) fun _ => fl .nx) env) := q
  refine rdE_of S q fun r v env1 F1 H1 P1 Pt tm s q => ?_
  obtain ⟨_, env2, ea, q⟩ := AftX.ok (fun _ _ => asg_noex _ _ _ _ _) q
  rw [asg] at ea
  obtain ⟨w, env3, e1, e2⟩ := bnd_ok ea
  obtain ⟨_, rfl, hl⟩ := setSlot_ok e2
  obtain ⟨F2, P2, Pr, Pt', hw, g, dj, t', st⟩ := toW_run tm e1
  have S' := t'.sr.name (p := false) hl hw g fun a h => dj a (.inl h)
  exact q _ F2 H1 _ S' ((s.trans st).wide (fun _ h => h) fun a h => .inl (h.imp .inl id)) Only.set
theorem s_setLc {y : Str} {py : Pos} {elt tg iter : Expr} {ifs : List Expr} {scope : Scope} {ow : List (Str × Nat)} {pos spos : Pos} {t it cE el : E} (hc : X.calm = true) (hN : X.N.Nodup) (hy : X.N[i]? = some y) (hyl : X.env.scope.names.lookup y = some .local)
    (hsw : swapsWith (.ListComp elt [⟨tg, iter, ifs, 0⟩] scope pos) (some (.Name y py)) spos.line X.env = pure true) (hi : PI X tg iter (rdI c Wx T it)) (ok : BlkOk X.N X.env.scope scope ow) (hn : ∀ i ∈ t.names, i ∈ ow.map (·.2))
    (hg : ∀ (s : Shared) (H : Hp) (C : Addr) (cl : List (Str × Addr)) (fp : List Addr), PG (X.blk s H scope (compEnvC scope cl C X.env) fp) tg (rdG c T t)) (ht : ∀ (s : Shared) (H : Hp) (C : Addr) (cl : List (Str × Addr)) (fp : List Addr), PTs (X.blk s H scope (compEnvC scope cl C X.env) fp) ifs (rdC c Wy T cE))
    (he : ∀ (s : Shared) (H : Hp) (C : Addr) (cl : List (Str × Addr)) (fp : List Addr), PE (X.blk s H scope (compEnvC scope cl C X.env) fp) elt (rdE c Wy T el)) (hs : ∀ x, foldedSetIterable iter X.env x = pure x) :
    PS X (.Assign [.Name y py] (.ListComp elt [⟨tg, iter, ifs, 0⟩] scope pos) spos) (rdS c Wx T (.asg (.var i) (.lc (ow.map (·.2)) t it cE el))) := by
  have h1 : PS X (.Assign [.Name y py] (.ListComp elt [⟨tg, iter, ifs, 0⟩] scope pos) spos) (rdN c Wx (lcM T (ow.map (·.2)) t it cE el) i) := (ps_setLc hc hN hy hyl hsw hi ok hg ht he hs).imp fun D σ H q => rd_lc hn q
  refine (n_lock (it := it) lc_held h1).imp fun D σ H q => ?_
  have := rd_name q
  rw [ev_lc] at this
  exact this
theorem s_setLc2 {y : Str} {py : Pos} {elt tg iter tg1 iter1 : Expr} {ifs ifs1 : List Expr} {scope : Scope} {ow : List (Str × Nat)} {pos spos : Pos} {t it cE t2 it2 c2 el : E} (hc : X.calm = true) (hN : X.N.Nodup) (hy : X.N[i]? = some y) (hyl : X.env.scope.names.lookup y = some .local)
    (hsw : swapsWith (.ListComp elt [⟨tg, iter, ifs, 0⟩, ⟨tg1, iter1, ifs1, 0⟩] scope pos) (some (.Name y py)) spos.line X.env = pure true) (hi : PI X tg iter (rdI c Wx T it)) (ok : BlkOk X.N X.env.scope scope ow) (hv : ∀ i ∈ own2, i ∈ ow.map (·.2)) (hn : ∀ i ∈ t.names, i ∈ ow.map (·.2)) (hn2 : ∀ i ∈ t2.names, i ∈ own2)
    (hg : ∀ (s : Shared) (H : Hp) (C : Addr) (cl : List (Str × Addr)) (fp : List Addr), PG (X.blk s H scope (compEnvC scope cl C X.env) fp) tg (rdG c T t)) (ht : ∀ (s : Shared) (H : Hp) (C : Addr) (cl : List (Str × Addr)) (fp : List Addr), PTs (X.blk s H scope (compEnvC scope cl C X.env) fp) ifs (rdC c Wy T cE))
    (hi1 : ∀ (s : Shared) (H : Hp) (C : Addr) (cl : List (Str × Addr)) (fp : List Addr), PI (X.blk s H scope (compEnvC scope cl C X.env) fp) tg1 iter1 (rdI c Wy T it2))
    (hg1 : ∀ (s : Shared) (H : Hp) (C : Addr) (cl : List (Str × Addr)) (fp : List Addr), PG (X.blk s H scope (compEnvC scope cl C X.env) fp) tg1 (rdG c T t2)) (ht1 : ∀ (s : Shared) (H : Hp) (C : Addr) (cl : List (Str × Addr)) (fp : List Addr), PTs (X.blk s H scope (compEnvC scope cl C X.env) fp) ifs1 (rdC c Wy T c2))
    (he : ∀ (s : Shared) (H : Hp) (C : Addr) (cl : List (Str × Addr)) (fp : List Addr), PE (X.blk s H scope (compEnvC scope cl C X.env) fp) elt (rdE c Wy T el)) (hs : ∀ x, foldedSetIterable iter X.env x = pure x) (hs1 : ∀ env x, foldedSetIterable iter1 env x = pure x) :
    PS X (.Assign [.Name y py] (.ListComp elt [⟨tg, iter, ifs, 0⟩, ⟨tg1, iter1, ifs1, 0⟩] scope pos) spos) (rdS c Wx T (.asg (.var i) (.lc2 (ow.map (·.2)) own2 t it cE t2 it2 c2 el))) := by
  have h1 : PS X (.Assign [.Name y py] (.ListComp elt [⟨tg, iter, ifs, 0⟩, ⟨tg1, iter1, ifs1, 0⟩] scope pos) spos) (rdN c Wx (lc2M T (ow.map (·.2)) own2 t it cE t2 it2 c2 el) i) := (ps_setLc2 hc hN hy hyl hsw hi ok hv hg ht hi1 hg1 ht1 he hs hs1).imp fun D σ H q => rd_lc2 hn hn2 q
  refine (n_lock (it := it) lc2_held h1).imp fun D σ H q => ?_
  have := rd_name q
  rw [ev_lc2] at this
  exact this
theorem i_never {iter : Expr} : PI X tg iter (rdI c Wx T neverE) := ⟨fun pins s σ H R I ⟨F, P, env, S, q⟩ => by
  rw [neverE, evI, ev] at q
  exact False.elim q⟩
theorem g_never {tg : Expr} : PG X tg (rdG c T neverE) := ⟨fun pins s σ H v u Q I rv ⟨F, P, env, Pt, r, env', t, e, q⟩ => by
  rw [neverE, asg] at e <;> first | (cases e; done) | (intros; contradiction) | simp⟩
end
end Ev
end

section
set_option Elab.async false
set_option linter.all false
set_option autoImplicit true
set_option maxRecDepth 100000
set_option maxHeartbeats 4000000
/-! EwH: dict comprehensions; the dict gathers by a step that is told. -/
namespace Ev
open PySem PySem.Spec PyProof.Rows L2
/-- one more entry is put into the dict at D: what is known of the heap behind it -/
def Puts (X : Cx) (D : Addr) (y z : V) (H5 : Hp) (Nx : Hp → Prop) : Prop :=
  ∀ (X' : Cx) (pins : List (Addr × Obj)) (σ : L2.St) (s : Shared) (E : Value → Shared → Prop) (u r : Value), X'.prog = X.prog → X'.w = X.w → X'.K = X.K → X'.A = X.A → Inv X' pins σ H5 s → RelV y u → RelV z r →
    wpAny (model X.prog X.w) X.A (dictSet D u r) (fun _ s' => ∃ H', Inv X' pins σ H' s' ∧ Nx H') E s
section
variable {X : Cx}
def tDn (X : Cx) (wi : TI) (g : TG) (tt : TT) (tk tv : TE) (vs : List Nat) : TE := fun σ H Q => wi σ H fun J H1 => ∀ D, H1 D = none → (D == sysModules) = false → ∃ W : Nat → Nat → Hp → Prop, (∃ m, W 0 m (upd H1 D (.dK []))) ∧ ∀ i m H, W i m H →
  (J.stop i H ∧ Q (.ref D) H) ∨ (J.go i H ∧ ∃ Nx : Hp → Prop, (∀ H', Nx H' → ∃ m', m' < m ∧ W (i + 1) m' H') ∧ ∀ x H', J.yld i H x H' → g x (L2.wipe σ vs) H' fun σ2 H2 => L2.wipe σ2 vs = L2.wipe σ vs ∧ tt σ2 H2 fun b H3 =>
    if b = true then tk σ2 H3 fun y H4 => tv σ2 H4 fun z H5 => Puts X D y z H5 Nx else Nx H3)
theorem dn_core {pins : List (Addr × Obj)} {s : Shared} {σ : L2.St} {H : Hp} {Q : VK} {kx vx tg iter : Expr} {ifs : List Expr} {scope : Scope} {own : List (Str × Nat)} {pos pos' : Pos} {wi : TI} {g : TG} {tt : TT} {tk tv : TE} {use : Option (Value → Sem Unit)} {Qf : Value → Shared → Prop}
    (hc : X.calm = true) (hN : X.N.Nodup) (I : Inv X pins σ H s) (hi : PI X tg iter wi) (ok : BlkOk X.N X.env.scope scope own) (hs : ∀ x, foldedSetIterable iter X.env x = pure x)
    (hg : ∀ (s : Shared) (H : Hp) (C : Addr) (cl : List (Str × Addr)) (fp : List Addr), PG (X.blk s H scope (compEnvC scope cl C X.env) fp) tg g)
    (ht : ∀ (s : Shared) (H : Hp) (C : Addr) (cl : List (Str × Addr)) (fp : List Addr), PTs (X.blk s H scope (compEnvC scope cl C X.env) fp) ifs tt)
    (hk : ∀ (s : Shared) (H : Hp) (C : Addr) (cl : List (Str × Addr)) (fp : List Addr), PE (X.blk s H scope (compEnvC scope cl C X.env) fp) kx tk)
    (he : ∀ (s : Shared) (H : Hp) (C : Addr) (cl : List (Str × Addr)) (fp : List Addr), PE (X.blk s H scope (compEnvC scope cl C X.env) fp) vx tv)
    (h : tDn X wi g tt tk tv (own.map (·.2)) σ H Q)
    (hRR : ∀ D C s' m H', Inv X pins σ H' s' → Q (.ref D) H' → s'.heap.Ns C m → FpOk X pins H' C → compPost (model X.prog X.w) X.A X.xe use Qf (.ref D) C (.ok .next) s') :
    wpAny (model X.prog X.w) X.A (comprehension (.DictComp kx vx [⟨tg, iter, ifs, 0⟩] scope pos) scope X.env pos' newDict false (eval iter X.env) use) Qf X.xe s := by
  have free' : ∀ y ∈ scope.names, y.2 = .free → ∃ c, X.env.cells.lookup y.1 = some c := fun y hy ey => (ok.free y hy ey).elim (fun z => I.ok.has _ (.inl z)) fun z => I.ok.has _ (.inr z)
  refine wpAny_comprehension_free (use := use) rfl hs (closure_ok free') ok.kind (fun y hy ey => by rw [ok.uniq y hy, ey])
    (thn (hi.run pins s σ H _ I h) fun xv s1 hx => thn hx fun itv s2 hx2 => ?_)
  obtain ⟨it, fp, tn, J, H2, eit, I2, T, st2, f2, q⟩ := hx2
  subst eit
  refine wpAny_newObj_type (newEnv_comp ?_)
  generalize eD : s2.heap.objs.size = D
  have noD : H2 D = none := I2.hok.fresh (Nat.le_of_eq eD)
  have sysD : (D == sysModules) = false := by
    rw [← eD]
    exact beq_eq_false_iff_ne.mpr (Nat.ne_of_gt I2.big)
  obtain ⟨W, ⟨m0, w0⟩, turn⟩ := q D noD sysD
  generalize es3 : ({ s2 with heap := s2.heap.push { cls := .type "dict", data := .dict #[] } } : Shared) = s3
  have I3 : Inv X pins σ (upd H2 D (.dK [])) s3 := by
    subst es3
    refine I2.laid (t' := s2.toks) (fun b o eb => Heap.get?_push_of_some _ eb) (Nat.le_of_eq eD) ?_
    subst eD
    exact dk_empty s2.heap I2.big
  have heq3 : s3.heap = s2.heap.push { cls := .type "dict", data := .dict #[] } := by rw [← es3]
  have small : ∀ b ∈ fp, b < s2.heap.objs.size := fun b hb => (T.obj _ _ st2 b hb).elim fun o ho => Heap.lt_size ho.1
  have f3 : ∀ b ∈ fp, FpOk X pins (upd H2 D (.dK [])) b ∧ b < s3.heap.objs.size := fun b hb => by
    have lt := small b hb
    have ne : b ≠ D := by rw [← eD]; exact Nat.ne_of_lt lt
    exact ⟨⟨(upd_ne ne).trans (f2 b hb).1, (f2 b hb).2⟩, by rw [heq3, Heap.size_push]; exact Nat.lt_succ_of_lt lt⟩
  have st3 : tn 0 s3.heap := T.keep _ _ _ st2 fun b _ o eb => by
    rw [heq3]
    exact Heap.get?_push_of_some _ eb
  have I4 := block_start I3 ok hN f3
  have rg := hg s3 (upd H2 D (.dK [])) s3.heap.objs.size (cellsFrom (s3.heap.objs.size + 1) scope.names (cloFrom X.env.cells scope.names [])) fp
  have rt := ht s3 (upd H2 D (.dK [])) s3.heap.objs.size (cellsFrom (s3.heap.objs.size + 1) scope.names (cloFrom X.env.cells scope.names [])) fp
  have rk := hk s3 (upd H2 D (.dK [])) s3.heap.objs.size (cellsFrom (s3.heap.objs.size + 1) scope.names (cloFrom X.env.cells scope.names [])) fp
  have rv := he s3 (upd H2 D (.dK [])) s3.heap.objs.size (cellsFrom (s3.heap.objs.size + 1) scope.names (cloFrom X.env.cells scope.names [])) fp
  show codeAny _ _ (.compStart (.DictComp kx vx [⟨tg, iter, ifs, 0⟩] scope pos) 0 (.ref it) (.ref D) (compEnvC scope (cellsFrom (s3.heap.objs.size + 1) scope.names (cloFrom X.env.cells scope.names [])) s3.heap.objs.size X.env))
    (compPost (model X.prog X.w) X.A X.xe use Qf (.ref D) s3.heap.objs.size) { s3 with heap := pushCells (s3.heap.push { cls := .type "dict", data := .dict #[] }) scope.names }
  have nofp : ∀ b ∈ fp, (upd H2 D (.dK [])) b = none := fun b hb => (f3 b hb).1.1
  generalize hce : compEnvC scope (cellsFrom (s3.heap.objs.size + 1) scope.names (cloFrom X.env.cells scope.names [])) s3.heap.objs.size X.env = ce at I4 rg rt rk rv ⊢
  have eloc : ce.locals = s3.heap.objs.size := by rw [← hce] <;> rfl
  generalize hH3 : upd H2 D (.dK []) = H3 at I3 I4 rg rt rk rv w0 nofp f3
  generalize es4 : ({ s3 with heap := pushCells (s3.heap.push { cls := .type "dict", data := .dict #[] }) scope.names } : Shared) = s4 at I4 ⊢
  have st4 : tn 0 s4.heap := T.keep _ _ _ st3 fun b _ o eb => by
    rw [← es4]
    exact pushCells_keeps _ _ _ _ (Heap.get?_push_of_some _ eb)
  have fpk : ∀ {σ' : L2.St} {H' : Hp} {s' : Shared}, Inv (X.blk s3 H3 scope ce fp) [] σ' H' s' → (∀ b ∈ fp, H' b = none) → ∀ b ∈ fp, FpOk (X.blk s3 H3 scope ce fp) [] H' b := fun {σ' H' s'} J' hn b hb =>
    ⟨hn b hb, (J'.ok.exf b hb).1, J'.ok.exfs b hb, .inl hb, fun x c ec => (J'.ok.exf b hb).2 x c ec, fun p hp => absurd (show p ∈ ([] : List (Addr × Obj)) ++ [] from hp) (by simp)⟩
  have loop : codeAny (model X.prog X.w) X.A (.compLoop (.DictComp kx vx [⟨tg, iter, ifs, 0⟩] scope pos) 0 (.ref it) (.ref D) ce) (compPost (model X.prog X.w) X.A X.xe use Qf (.ref D) s3.heap.objs.size) s4 := by
    refine compLoop_anyD (fun n s' => ∃ i H', Inv (X.blk s3 H3 scope ce fp) [] (L2.wipe σ (own.map (·.2))) H' s' ∧ tn i s'.heap ∧ (∀ b ∈ fp, H' b = none) ∧ W i n H') ?_ m0 ⟨0, H3, I4, st4, nofp, w0⟩
    rintro n s5 ⟨i, H5, I5, st5, n5, w5⟩
    rcases turn i n H5 w5 with ⟨stop, qq⟩ | ⟨go, Nx, hNx, step⟩
    · refine thnF (T.done (X.blk s3 H3 scope ce fp) rfl rfl rfl hc i [] s5 _ H5 (fun _ _ => False) I5 (fpk I5 n5) st5 stop) fun r s6 ⟨er, I6⟩ => ?_
      subst er
      have I7 : Inv X pins σ H5 s6 := I3.call' (ch := fp) I6.os I6.base I6.hok I6.bare fun b hb => ⟨(f3 b hb).1.2.2.2.1, (f3 b hb).1.2.1, (f3 b hb).1.2.2.2.2.1, (f3 b hb).1.2.2.2.2.2⟩
      have nC : H5 s3.heap.objs.size = none := by
        have z : H5 ce.locals = none := I6.free
        rw [eloc] at z
        exact z
      obtain ⟨m, hn, _⟩ := I6.loc
      have hn : s6.heap.Ns ce.locals m := hn
      rw [eloc] at hn
      exact hRR D s3.heap.objs.size s6 m H5 I7 qq hn (I3.fpOk (Nat.le_refl _) nC)
    · refine thnF (T.item (X.blk s3 H3 scope ce fp) rfl rfl rfl hc i [] s5 _ H5 (fun _ _ => False) I5 (fpk I5 n5) st5 go) fun r s6 ⟨u, er, h6⟩ => ?_
      subst er
      refine thnF h6 fun _ s7 ⟨x, H7, I7, r7, y7, st7, n7⟩ => ?_
      have J7 := I7.pinned (fpk I7 n7) (T.obj _ _ st7)
      refine thnF (rg.run _ s7 _ H7 x u _ J7 r7 (step x H7 y7)) fun _ s8 ⟨σ8, H8, I8, hw8, q8⟩ => ?_
      refine thnF (rt.run _ s8 σ8 H8 _ I8 q8) fun b s9 ⟨H9, I9, q9⟩ => ?_
      have fin : ∀ {s' : Shared} {H' : Hp}, Inv (X.blk s3 H3 scope ce fp) ([] ++ pinsAt fp s7.heap) σ8 H' s' → Nx H' → ∃ m, m < n ∧ ∃ i H', Inv (X.blk s3 H3 scope ce fp) [] (L2.wipe σ (own.map (·.2))) H' s' ∧ tn i s'.heap ∧ (∀ b ∈ fp, H' b = none) ∧ W i m H' := fun {s' H'} J' nx => by
        obtain ⟨m', hm, w'⟩ := hNx H' nx
        have keep : ∀ b ∈ fp, ∀ o, s7.heap.get? b = some o → s'.heap.get? b = some o ∧ H' b = none := fun b hb o eb =>
          let z := J'.pin (b, o) (List.mem_append_right _ (List.mem_append_right _ (mem_pinsAt hb eb)))
          ⟨z.1, z.2.1⟩
        refine ⟨m', hm, i + 1, H', (J'.unpinned (pins := [])).weak (by rw [← hw8, wipe_length]) (fun j v ej => ?_), T.keep _ _ _ st7 fun b hb o eb => (keep b hb o eb).1, fun b hb => ?_, w'⟩
        · rw [← hw8] at ej
          exact (wipe_some ej).1
        · exact (T.obj _ _ st7 b hb).elim fun o ho => (keep b hb o ho.1).2
      cases b with
      | false =>
        simp only [Bool.false_eq_true, if_false] at q9 ⊢
        exact fin I9 q9
      | true =>
        simp only [if_true] at q9 ⊢
        refine thnF (rk.run _ s9 σ8 H9 _ I9 q9) fun z s10 ⟨yk, H10, I10, r10, q10⟩ => ?_
        refine thnF (rv.run _ s10 σ8 H10 _ I10 q10) fun z2 s11 ⟨yv, H11, I11, r11, put⟩ => ?_
        exact thn (put (X.blk s3 H3 scope ce fp) _ σ8 s11 _ z z2 rfl rfl rfl rfl I11 r10 r11) fun _ s12 ⟨H12, I12, nx⟩ => fin I12 nx
  exact codeAny_compStart_dict loop (T.self X.A 0 _ _ _ st4 loop)
theorem pe_dn {kx vx tg iter : Expr} {ifs : List Expr} {scope : Scope} {own : List (Str × Nat)} {pos : Pos} {wi : TI} {g : TG} {tt : TT} {tk tv : TE} (hc : X.calm = true) (hN : X.N.Nodup) (hi : PI X tg iter wi) (ok : BlkOk X.N X.env.scope scope own) (hs : ∀ x, foldedSetIterable iter X.env x = pure x)
    (hg : ∀ (s : Shared) (H : Hp) (C : Addr) (cl : List (Str × Addr)) (fp : List Addr), PG (X.blk s H scope (compEnvC scope cl C X.env) fp) tg g)
    (ht : ∀ (s : Shared) (H : Hp) (C : Addr) (cl : List (Str × Addr)) (fp : List Addr), PTs (X.blk s H scope (compEnvC scope cl C X.env) fp) ifs tt)
    (hk : ∀ (s : Shared) (H : Hp) (C : Addr) (cl : List (Str × Addr)) (fp : List Addr), PE (X.blk s H scope (compEnvC scope cl C X.env) fp) kx tk)
    (he : ∀ (s : Shared) (H : Hp) (C : Addr) (cl : List (Str × Addr)) (fp : List Addr), PE (X.blk s H scope (compEnvC scope cl C X.env) fp) vx tv) :
    PE X (.DictComp kx vx [⟨tg, iter, ifs, 0⟩] scope pos) (tDn X wi g tt tk tv (own.map (·.2))) := by
  refine ⟨fun pins s σ H Q I h => ?_⟩
  rw [arm_eval_DictComp]
  refine dn_core hc hN I hi ok hs hg ht hk he h fun D C s' m H' I' q hn ⟨f0, f1, f2, f3, f4, f5⟩ => ⟨m, hn, fun h'' sb => ?_⟩
  exact ⟨.ref D, H', I'.turned (t' := s'.toks) (fun b o hb eb => (sb.2 b hb).trans eb) f0 f1 f3 f4 f5, rfl, q⟩
end
end Ev
end

section
set_option Elab.async false
set_option linter.all false
set_option autoImplicit true
set_option maxRecDepth 100000
set_option maxHeartbeats 4000000
/-! EwI: what a dict comprehension gathers. -/
namespace Ev
open PySem PySem.Spec PyProof.Rows L2
section
variable {c : Cfg} {Wx Wy : WX} {T : Tb} {X : Cx} {σ : L2.St} {F F1 F2 F3 H H1 H2 H3 F' H' Fx : Hp} {P P1 P2 P3 Pt Pn Pi Pw Pr : Addr → Prop} {env env1 env3 env' : Env} {rs : List R} {vs : List V} {i : Nat} {tg : Expr} {own : List Nat}
/-- what a store makes of the dict at D -/
def PutR (c : Cfg) (F H : Hp) (D : Addr) (acc : W) (Nx : Hp → Prop) : Prop := ∀ o, ¬ IsFrz o → WR c.K c.G F (upd H D o) acc (.ref D) (fun a => a = D) → Nx (upd H D o)
theorem puts_ok (hK : c.K = X.K) (hG : c.On X) (hu : X.A.units + 65 < cLine) {D : Addr} {acc acc' : W} {kx vx : Ev.D} {y z : V} {Nx : Hp → Prop} (sb : Sub F H) (hw : WR c.K c.G F H acc (.ref D) (fun a => a = D)) (hD : (D == sysModules) = false) (dy : DR c.K c.G F y kx) (dz : DR c.K c.G F z vx) (e : putDict acc kx vx = some acc')
    (q : PutR c F H D acc' Nx) : Puts X D y z H Nx := by
  intro X' pins σ s E u r e1 e2 e3 e4 I ry rz
  unfold putDict at e
  split at e
  · -- ints, texts
    rename_i kvs k ek
    split at e
    · rename_i hz
      cases e
      cases hw with
      | @dct _ _ vs _ h1 h2 h3 =>
        have hy : y = kV k := by
          cases kx <;> simp [keyD] at ek
          · subst ek; cases dy; rfl
          · subst ek; cases dy; rfl
        subst hy
        rw [← e1, ← e2, ← e4]
        refine d_dictSet I h1 (by rw [kd_len h3]; exact big_lt hz) ry rz fun s' I' => ⟨_, I', q _ (fun z => z) ?_⟩
        exact .dct upd_at rfl (kd_put dz h3)
    · cases e
  · -- the first tuple
    rename_i ek
    cases et : tupK kx with
    | none => rw [et] at e; cases e
    | some k =>
      rw [et] at e
      cases e
      obtain ⟨⟨xs, rfl⟩, hk, hdp⟩ := tupK_ok et
      cases hw with
      | @dct _ _ vs _ h1 h2 h3 =>
        cases h3
        obtain ⟨zz, hd, us, rel, o, es, ep, h4, h5, h6, _, h7, _⟩ := dk_of I.hok h1
        cases rel
        cases dy with
        | @tup b _ _ h8 h9 =>
          obtain rfl := (show u = .ref b from ry)
          refine putN hK hu hG e1 e2 e3 I sb (by rw [h1]; trivial) (vs := []) (by rw [sizeLine_eq]; decide) hD (by simp) hdp .nil (b := b) (by rw [hk]; exact .tup h8 h9) dz rz [] .nil ⟨o, es, ep, h4, h5, h6, ?_, by simp, by simp⟩ fun s' I' nd => ⟨_, I', q _ (fun z => z) (.dcn upd_at rfl nd)⟩
          generalize es.toList = l at h7 ⊢
          cases h7
          rfl
  · -- one more
    rename_i kvs ek
    cases et : tupK kx with
    | none => rw [et] at e; cases e
    | some k =>
      rw [et] at e
      simp only [Option.bind_some] at e
      split at e
      · rename_i hz
        cases e
        obtain ⟨⟨xs, rfl⟩, hk, hdp⟩ := tupK_ok et
        cases hw with
        | @dcn _ _ vs _ h1 h2 h3 =>
          have h1' := h1
          rw [hG.1, hG.2, ← e1, ← e2] at h1'
          obtain ⟨zz, hd, hdps, ys, rel, dd⟩ := dn_of (hK.trans e3.symm) I sb h1' h3
          rw [e1, e2] at dd
          cases dy with
          | @tup b _ _ h8 h9 =>
            obtain rfl := (show u = .ref b from ry)
            refine putN hK hu hG e1 e2 e3 I sb (by rw [h1]; trivial) (by rw [h3.length]; exact big_lt hz) hD hdps hdp h3 (b := b) (by rw [hk]; exact .tup h8 h9) dz rz ys rel dd fun s' I' nd => ⟨_, I', q _ (fun z => z) (.dcn upd_at rfl nd)⟩
      · cases e
  · cases e
end
end Ev
end

section
set_option Elab.async false
set_option linter.all false
set_option autoImplicit true
set_option maxRecDepth 100000
set_option maxHeartbeats 4000000
/-! EwJ: dict comprehensions, the loop. -/
namespace Ev
open PySem PySem.Spec PyProof.Rows L2
section
variable {c : Cfg} {Wx Wy : WX} {T : Tb} {X : Cx} {σ : L2.St} {F F1 F2 F3 H H1 H2 H3 F' H' Fx : Hp} {P P1 P2 P3 Pt Pn Pi Pw Pr : Addr → Prop} {env env1 env3 env' : Env} {rs : List R} {vs : List V} {i : Nat} {tg : Expr} {own : List Nat}
/-- a turn of the loop: D the dict that gathers -/
structure DI (c : Cfg) (D : Addr) (Fx F H : Hp) (env : Env) (σ : L2.St) (P : Addr → Prop) (acc : W) : Prop where
  sr : SR c.K c.G F H env σ P
  wr : WR c.K c.G F H acc (.ref D) fun a => a = D
  at_ : ∃ o, H D = some o ∧ ¬ IsFrz o
  nP : ¬ P D
  fD : F D = none
  ln : Leans F Fx H
  xD : Fx D = none
def DI.all (P : Addr → Prop) (D : Addr) : Addr → Prop := fun a => P a ∨ a = D
theorem DI.aside {D : Addr} {acc : W} (l : DI c D Fx F H env σ P acc) : Good F H (fun a => a = D) ∧ ∀ a, P a → ¬ a = D :=
  ⟨⟨l.sr.good.sub, fun a h => by subst h; exact l.fD, fun a h => by subst h; obtain ⟨o, e, _⟩ := l.at_; rw [e]; simp⟩, fun a h z => l.nP (z ▸ h)⟩
theorem DI.move {D : Addr} {acc : W} {σ' : L2.St} (l : DI c D Fx F H env σ P acc) (s : Step F H P F' H' P1) (S : SR c.K c.G F' H' env' σ' P1) : DI c D Fx F' H' env' σ' P1 acc ∧ Step F H (DI.all P D) F' H' (DI.all P1 D) := by
  obtain ⟨g, dj⟩ := l.aside
  obtain ⟨g', dj', kp⟩ := s.aside g dj S.good
  obtain ⟨o, e, nf⟩ := l.at_
  refine ⟨⟨S, l.wr.stay s.ext fun a o h e => kp a o h e, ⟨o, kp D o rfl e, nf⟩, fun z => dj' D z rfl, g'.off D rfl, l.ln.step s S.good.sub, l.xD⟩, ?_⟩
  exact s.wide (fun _ h => .inl h) fun a h => h.elim .inl fun z => .inr (.inl (.inr z))
theorem DI.put {D : Addr} {acc acc' : W} {o : HO} (l : DI c D Fx F H env σ P acc) (nf : ¬ IsFrz o) (hw : WR c.K c.G F (upd H D o) acc' (.ref D) fun a => a = D) :
    DI c D Fx F (upd H D o) env σ P acc' ∧ Step F H (DI.all P D) F (upd H D o) (DI.all P D) := by
  have np : ∀ b, P b → b ≠ D := fun b hb z => l.nP (z ▸ hb)
  have sb : Sub F (upd H D o) := fun a u e => by
    have : a ≠ D := by rintro rfl; rw [l.fD] at e; cases e
    rw [upd_ne this]
    exact l.sr.good.sub a u e
  obtain ⟨o0, e0, nf0⟩ := l.at_
  refine ⟨⟨?_, hw, ⟨o, upd_at, nf⟩, l.nP, l.fD, ⟨fun a u e => ?_, l.ln.of⟩, l.xD⟩, Step.updP (.inr rfl) e0 nf0 fun a h => h⟩
  · obtain ⟨Ps, h1, h2, h3⟩ := l.sr.rel
    exact ⟨l.sr.len, ⟨sb, l.sr.good.off, fun a h => by rw [upd_ne (np a h)]; exact l.sr.good.trk a h⟩, Ps, h1, h2, fun i p w e => let ⟨v, ev, hw⟩ := h3 i p w e; ⟨v, ev, wr_up hw fun b hb => np b (h1 i b hb)⟩⟩
  · have : a ≠ D := by rintro rfl; rw [l.xD] at e; cases e
    rw [upd_ne this]
    exact l.ln.in_ a u e
theorem DI.reE {D : Addr} {acc : W} {σ' : L2.St} (l : DI c D Fx F H env σ P acc) (S : SR c.K c.G F H env' σ' P) : DI c D Fx F H env' σ' P acc := ⟨S, l.wr, l.at_, l.nP, l.fD, l.ln, l.xD⟩
theorem DI.fresh {D : Addr} {acc : W} (l : DI c D Fx F H env σ P acc) (n : New F H F' H' fun _ => False) : DI c D Fx F' H' env σ P acc ∧ Step F H (DI.all P D) F' H' (DI.all P D) := by
  obtain ⟨S, _, st⟩ := l.sr.new n
  exact l.move (st.wide (fun _ h => h) fun a h => .inl (.inl h)) S
theorem DI.begin {D : Addr} (S : SR c.K c.G F H env σ P) (ln : Leans F Fx H) (hD : H D = none) : DI c D Fx F (upd H D (.dK [])) (wipeE env own) (L2.wipe σ own) P (.dct false []) ∧ Step F H P F (upd H D (.dK [])) (DI.all P D) := by
  obtain ⟨S', _, st⟩ := S.new (New.own S.good.sub hD (o := .dK []))
  refine ⟨⟨S'.wipe, .dct upd_at rfl .nil, ⟨_, upd_at, id⟩, fun z => S.good.trk D z hD, off_of S.good.sub hD, ⟨fun a o e => ?_, ln.of⟩, ?_⟩, ?_⟩
  · have q := ln.in_ a o e
    rw [upd_ne (ne_of_none q hD)]; exact q
  · cases e : Fx D with
    | none => rfl
    | some o => rw [ln.in_ D o e] at hD; cases hD
  · exact st.wide (fun _ h => h) fun a h => h.elim (fun h => .inl (.inl h)) fun h => .inl (.inr h)
theorem DI.end_ {D : Addr} {w : W} (l : DI c D Fx F H env (L2.wipe σ own) P w) : Tm c F H env σ P [.own w] [.ref D] fun a => a = D :=
  ⟨l.sr.unwipe, RRs.mk1 (.own l.wr), l.aside.2, l.aside.1⟩
/-- an expression as data -/
def datM (T : Tb) (e : E) : M D := bnd (ev T e) fun xs => bnd (sole xs) dat
theorem datM_run {e : E} {Q : VK} {x : Ev.D} (S : SR c.K c.G F H env σ P) (h : datM T e env = some (.ok x, env1)) (k : ∀ y F1 H1 P1, SR c.K c.G F1 H1 env1 σ P1 → DR c.K c.G F1 y x → Step F H P F1 H1 P1 → Q y H1) : rdE c Wx T e σ H Q := by
  obtain ⟨rs, env2, e1, e2⟩ := bnd_ok h
  obtain ⟨r, env3, e3, e4⟩ := bnd_ok e2
  obtain ⟨rfl, e5⟩ := sole_ok e3
  rw [e5] at e4
  refine ⟨F, P, env, S, ?_⟩
  rw [e1]
  intro vs F1 H1 P1 Pt t s
  obtain ⟨v, rfl, hr⟩ := t.rr.one
  refine ⟨v, rfl, ?_⟩
  obtain ⟨F2, P2, Pt2, hd, t2, st⟩ := dat_run t e4
  exact k v F2 H1 P2 t2.sr hd (s.trans (st.wide (fun _ h => h) fun a h => .inl (.inl h)))
def kvM (T : Tb) (k v : E) : M (D × D) := bnd (ev T k) fun xs => bnd (sole xs) fun x => bnd (dat x) fun kx => bnd (ev T v) fun ys => bnd (sole ys) fun y => bnd (dat y) fun vx => ret (kx, vx)
theorem kvM_eq {k v : E} {p : D × D} (h : kvM T k v env = some (.ok p, env')) : ∃ e1, datM T k env = some (.ok p.1, e1) ∧ datM T v e1 = some (.ok p.2, env') := by
  obtain ⟨rs, e1, h1, h⟩ := bnd_ok h
  obtain ⟨r, e2, h2, h⟩ := bnd_ok h
  obtain ⟨x, e3, h3, h⟩ := bnd_ok h
  obtain ⟨rs', e4, h4, h⟩ := bnd_ok h
  obtain ⟨r', e5, h5, h⟩ := bnd_ok h
  obtain ⟨x', e6, h6, h⟩ := bnd_ok h
  cases h
  refine ⟨e3, ?_, ?_⟩
  · unfold datM bnd
    rw [h1]
    simp only
    rw [h2]
    exact h3
  · unfold datM bnd
    rw [h4]
    simp only
    rw [h5]
    exact h6
theorem dcL_eq {as : D → M Unit} {cm : M Bool} {el : M (D × D)} {x : D} {xs : List D} {acc w : W} (h : dcL own as cm el (x :: xs) acc env = some (.ok w, env')) :
    ∃ e1 b e2, as x env = some (.ok (), e1) ∧ cm e1 = some (.ok b, e2) ∧ ((b = true ∧ ∃ p e3 acc', el e2 = some (.ok p, e3) ∧ putDict acc p.1 p.2 = some acc' ∧ dcL own as cm el xs acc' (wipeE e3 own) = some (.ok w, env')) ∨ (b = false ∧ dcL own as cm el xs acc (wipeE e2 own) = some (.ok w, env'))) := by
  rw [dcL] at h
  obtain ⟨_, e1, h1, h⟩ := bnd_ok h
  obtain ⟨b, e2, h2, h⟩ := bnd_ok h
  refine ⟨e1, b, e2, h1, h2, ?_⟩
  cases b with
  | true =>
    rw [if_pos rfl] at h
    obtain ⟨p, e3, h3, h⟩ := bnd_ok h
    cases hp : putDict acc p.1 p.2 with
    | none => rw [hp] at h; cases h
    | some acc' => rw [hp] at h; exact .inl ⟨rfl, p, e3, acc', h3, hp, h⟩
  | false => exact .inr ⟨rfl, h⟩
theorem dc_loop (hK : c.K = X.K) (hG : c.On X) (hu : X.A.units + 65 < cLine) {D : Addr} (hD : (D == sysModules) = false) {t cE ke ve : E} {xs : List Ev.D} {w acc : W} {J : It} {F0 : Hp} {Qd : Hp → Prop} (wk : Walks c Fx F0 J xs) (hn : ∀ i ∈ t.names, i ∈ own) (l : DI c D Fx F H env (L2.wipe σ own) P acc) (s0 : Sub F0 F)
    (e : dcL own (fun x => asg T t [.d x]) (condM T cE) (kvM T ke ve) xs acc env = some (.ok w, env'))
    (k : ∀ F' H' P', DI c D Fx F' H' env' (L2.wipe σ own) P' w → Step F H (DI.all P D) F' H' (DI.all P' D) → Qd H') :
    ∃ W : Nat → Nat → Hp → Prop, (∃ m, W 0 m H) ∧ ∀ i m H, W i m H →
      (J.stop i H ∧ Qd H) ∨ (J.go i H ∧ ∃ Nx : Hp → Prop, (∀ H', Nx H' → ∃ m', m' < m ∧ W (i + 1) m' H') ∧ ∀ x H', J.yld i H x H' → rdG c T t x (L2.wipe σ own) H' fun σ2 H2 => L2.wipe σ2 own = L2.wipe σ own ∧ rdC c Wx T cE σ2 H2 fun b H3 =>
        if b = true then rdE c Wx T ke σ2 H3 fun y H4 => rdE c Wx T ve σ2 H4 fun z H5 => Puts X D y z H5 Nx else Nx H3) := by
  refine ⟨fun i m H' => m = xs.length - i ∧ i ≤ xs.length ∧ ∃ F' env1 P' acc', DI c D Fx F' H' env1 (L2.wipe σ own) P' acc' ∧ Sub F0 F' ∧ Step F H (DI.all P D) F' H' (DI.all P' D) ∧ dcL own (fun x => asg T t [.d x]) (condM T cE) (kvM T ke ve) (xs.drop i) acc' env1 = some (.ok w, env'),
    ⟨xs.length, rfl, Nat.zero_le _, F, env, P, acc, l, s0, Step.refl _ _ _, by simpa using e⟩, ?_⟩
  rintro i m H' ⟨rfl, hi, F', env1, P', acc', l', s0', st, e'⟩
  obtain ⟨w1, w2⟩ := wk i F' H' s0' l'.ln.in_ l'.sr.good.sub
  by_cases hlt : i < xs.length
  · have ed : xs.drop i = xs[i] :: xs.drop (i + 1) := List.drop_eq_getElem_cons hlt
    rw [ed] at e'
    obtain ⟨go, yl⟩ := w1 _ (List.getElem?_eq_getElem hlt)
    refine .inr ⟨go, fun H2 => (xs.length - (i + 1) = xs.length - (i + 1) ∧ i + 1 ≤ xs.length ∧ ∃ F' env1 P' acc', DI c D Fx F' H2 env1 (L2.wipe σ own) P' acc' ∧ Sub F0 F' ∧ Step F H (DI.all P D) F' H2 (DI.all P' D) ∧ dcL own (fun x => asg T t [.d x]) (condM T cE) (kvM T ke ve) (xs.drop (i + 1)) acc' env1 = some (.ok w, env')),
      fun H2 h => ⟨xs.length - (i + 1), by omega, h⟩, fun x Hx hy => ?_⟩
    obtain ⟨Fx', nx, dx⟩ := yl x Hx hy
    obtain ⟨l1, st1⟩ := l'.fresh nx
    obtain ⟨e1, b, e2, h1, h2, h3⟩ := dcL_eq e'
    refine ⟨Fx', P', env1, fun _ => False, .d xs[i], e1, ⟨l1.sr, RRs.mk1 (.d dx), fun _ _ z => z, Good.none l1.sr.good.sub⟩, h1, fun σ2 F2 H2 P2 S2 sg on => ⟨(on.wipe hn).trans wipe_wipe, ?_⟩⟩
    have sg' : Step Fx' Hx P' F2 H2 P2 := sg.wide (fun a h => h.elim id fun z => z.elim) fun _ h => .inl h
    obtain ⟨l2, st2⟩ := l1.move sg' S2
    refine rdC_run S2 h2 fun F3 H3 P3 S3 sc => ?_
    obtain ⟨l3, st3⟩ := l2.move sc S3
    have sA := st.trans (st1.trans (st2.trans st3))
    have hw0 : L2.wipe σ2 own = L2.wipe σ own := (on.wipe hn).trans wipe_wipe
    rcases h3 with ⟨rfl, p, e3, acc2, h4, hp, h5⟩ | ⟨rfl, h5⟩
    · rw [if_pos rfl]
      obtain ⟨e4, hk, hv⟩ := kvM_eq h4
      refine datM_run S3 hk fun y F4 H4 P4 S4 dy s4 => ?_
      obtain ⟨l4, st4⟩ := l3.move s4 S4
      refine datM_run S4 hv fun z F5 H5 P5 S5 dz s5 => ?_
      obtain ⟨l5, st5⟩ := l4.move s5 S5
      refine puts_ok hK hG hu S5.good.sub l5.wr hD (dy.mono s5.ext) dz hp fun o nf hw => ?_
      obtain ⟨l6, st6⟩ := l5.put nf hw
      exact ⟨rfl, hlt, F5, wipeE e3 own, P5, acc2, l6.reE (by rw [← hw0]; exact l6.sr.wipe), s0'.trans (nx.ext.trans (sg.ext.trans (sc.ext.trans (s4.ext.trans s5.ext)))), sA.trans (st4.trans (st5.trans st6)), h5⟩
    · rw [if_neg (by decide)]
      exact ⟨rfl, hlt, F3, wipeE e2 own, P3, acc', l3.reE (by rw [← hw0]; exact l3.sr.wipe), ((s0'.trans nx.ext).trans (sg.ext.trans sc.ext)), sA, h5⟩
  · have e : i = xs.length := by omega
    subst e
    rw [List.drop_length, dcL] at e'
    cases e'
    exact .inl ⟨w2 (List.getElem?_eq_none (Nat.le_refl _)), k F' H' P' l' st⟩
def dcM (T : Tb) (own : List Nat) (t it cE ke ve : E) : M (List R) := bnd (evI T it) fun src env => match dcL own (fun x => asg T t [.d x]) (condM T cE) (kvM T ke ve) src (.dct false []) (wipeE env own) with
  | some (.ok w, e) => some (.ok [.own w], e)
  | _ => none
theorem ev_dc {t it cE ke ve : E} : ev T (.dc own t it cE ke ve) = whileLk it (dcM T own t it cE ke ve) := by
  rw [ev]
  rfl
theorem rd_dc (hK : c.K = X.K) (hG : c.On X) (hu : X.A.units + 65 < cLine) {t it cE ke ve : E} {Q : VK} (hn : ∀ i ∈ t.names, i ∈ own) (q : rdM c Wx (dcM T own t it cE ke ve) σ H Q) : tDn X (rdI c Wx T it) (rdG c T t) (rdC c Wy T cE) (rdE c Wy T ke) (rdE c Wy T ve) own σ H Q := by
  obtain ⟨F, P, env, S, q⟩ := q
  refine ⟨F, P, env, S, ?_⟩
  unfold dcM bnd at q
  cases e : evI T it env with
  | none => rw [e] at q; exact q
  | some p =>
    obtain ⟨p, env1⟩ := p
    rw [e] at q
    cases p with
    | ex x => exact q
    | ok xs =>
      intro F1 H1 P1 J Fx S1 st ln w D hD sD
      simp only at q
      cases el : dcL own (fun x => asg T t [.d x]) (condM T cE) (kvM T ke ve) xs (.dct false []) (wipeE env1 own) with
      | none => rw [el] at q; exact False.elim q
      | some pr =>
        obtain ⟨pr, e'⟩ := pr
        rw [el] at q
        cases pr with
        | ex x => exact False.elim q
        | ok ws =>
          obtain ⟨l, sl⟩ := DI.begin (own := own) S1 ln hD
          refine dc_loop hK hG hu sD w hn l (Sub.refl F1) el fun F' H' P' l' st' => ?_
          obtain ⟨v, ev, q⟩ := q [.ref D] F' H' P' _ l'.end_ (st.trans (sl.trans st'))
          cases ev
          exact q
theorem dc_held {t it cE ke ve : E} : ∀ env rs env', dcM T own t it cE ke ve env = some (.ok rs, env') → ∀ r ∈ rs, r.held := by
  intro env rs env' h
  obtain ⟨xs, e1, _, h⟩ := bnd_ok h
  split at h
  · cases h
    intro r hr
    simp at hr
    subst hr
    trivial
  · cases h
theorem e_dc (hK : c.K = X.K) (hG : c.On X) (hu : X.A.units + 65 < cLine) {kx vx tg iter : Expr} {ifs : List Expr} {scope : Scope} {ow : List (Str × Nat)} {pos : Pos} {t it cE ke ve : E} (hc : X.calm = true) (hN : X.N.Nodup) (hi : PI X tg iter (rdI c Wx T it)) (ok : BlkOk X.N X.env.scope scope ow)
    (hn : ∀ i ∈ t.names, i ∈ ow.map (·.2)) (hs : ∀ x, foldedSetIterable iter X.env x = pure x)
    (hg : ∀ (s : Shared) (H : Hp) (C : Addr) (cl : List (Str × Addr)) (fp : List Addr), PG (X.blk s H scope (compEnvC scope cl C X.env) fp) tg (rdG c T t))
    (ht : ∀ (s : Shared) (H : Hp) (C : Addr) (cl : List (Str × Addr)) (fp : List Addr), PTs (X.blk s H scope (compEnvC scope cl C X.env) fp) ifs (rdC c Wy T cE))
    (hk : ∀ (s : Shared) (H : Hp) (C : Addr) (cl : List (Str × Addr)) (fp : List Addr), PE (X.blk s H scope (compEnvC scope cl C X.env) fp) kx (rdE c Wy T ke))
    (he : ∀ (s : Shared) (H : Hp) (C : Addr) (cl : List (Str × Addr)) (fp : List Addr), PE (X.blk s H scope (compEnvC scope cl C X.env) fp) vx (rdE c Wy T ve)) :
    PE X (.DictComp kx vx [⟨tg, iter, ifs, 0⟩] scope pos) (rdE c Wx T (.dc (ow.map (·.2)) t it cE ke ve)) := by
  have h1 : PE X (.DictComp kx vx [⟨tg, iter, ifs, 0⟩] scope pos) (rdM c Wx (dcM T (ow.map (·.2)) t it cE ke ve)) := (pe_dn hc hN hi ok hs hg ht hk he).imp fun _ _ _ => rd_dc hK hG hu hn
  have h2 := e_lock (it := it) dc_held h1
  rw [← ev_dc] at h2
  exact h2
end
end Ev
end

section
set_option Elab.async false
set_option linter.all false
set_option autoImplicit true
set_option maxRecDepth 100000
set_option maxHeartbeats 4000000
/-! EwK: a, b = x, y by way of a pair. -/
namespace Ev
open PySem PySem.Spec PyProof.Rows L2
section
variable {c : Cfg} {Wx : WX} {T : Tb} {X : Cx} {D : Ends} {σ : L2.St} {F H : Hp} {P : Addr → Prop} {l : List Nat}
theorem New.junk (s : Sub F H) {p : Addr} {o : HO} (h : H p = none) : New F H F (upd H p o) fun _ => False :=
  ⟨Sub.refl F, sub_upd h, Good.none (s.trans (sub_upd h)), fun _ z => z.elim, fun _ _ e => .inl e⟩
def junkD (D : Ends) : Ends := { D with nx := fun σ' H' => ∀ (p : Addr) (o : HO), H' p = none → D.nx σ' (upd H' p o) }
theorem AftX.junk {res : Option (Fl × Env)} (h : AftX c Wx D l σ F H P res) : AftX c Wx (junkD D) l σ F H P res := by
  cases res with
  | none => exact h
  | some r =>
    obtain ⟨f, e⟩ := r
    cases f with
    | nx =>
      intro σ' F' H' P' S s o p u hp
      obtain ⟨S', _, st⟩ := S.new (New.junk S.good.sub hp (o := u))
      exact h σ' F' _ P' S' (s.trans (st.wide (fun _ h => h) fun _ h => .inl (.inl h))) o
    | _ => exact h
theorem rdA_monoT {es : E} {Q Q' : List V → Hp → Prop} (h : rdA c Wx T es σ H Q) (k : ∀ vs H', Q vs H' → Q' vs H') : rdA c Wx T es σ H Q' := by
  obtain ⟨F, P, env, S, h⟩ := h
  refine ⟨F, P, env, S, ?_⟩
  cases e : ev T es env with
  | none => rw [e] at h; exact h
  | some r =>
    obtain ⟨r, e1⟩ := r
    rw [e] at h
    cases r with
    | ok rs => exact fun vs F' H' P' Pt t s => k vs H' (h vs F' H' P' Pt t s)
    | ex x => exact h
theorem s_parT {i j : Nat} {x y : Str} {a b : Expr} {es : E} {px py pt pos : Pos} {kt k2 pt2} (hc : X.calm = true) (hN : X.N.Nodup) (hi : X.N[i]? = some x) (hj : X.N[j]? = some y) (hij : i ≠ j)
    (hx : Loc X.env.scope x) (hfx : X.fn x = true ∨ X.env.scope.names.lookup x = some .local) (hy : Loc X.env.scope y) (hfy : X.fn y = true ∨ X.env.scope.names.lookup y = some .local) (ha : PA X [a, b] (rdA c Wx T es))
    (hw : swappedStores [.Tuple [.Name x px, .Name y py] kt pt] (.Tuple [a, b] k2 pt2) X.env = pure none)
    (hs : swapsWithSole [.Tuple [.Name x px, .Name y py] kt pt] (.Tuple [a, b] k2 pt2) pos.line X.env = pure false) :
    PS X (.Assign [.Tuple [.Name x px, .Name y py] kt pt] (.Tuple [a, b] k2 pt2) pos) (rdS c Wx T (.par (.cons (.var i) (.cons (.var j) .nil)) es)) := by
  refine (ps_asg (pe_tup ha) (pg_tup (n := 2) hc (pgs_cons (pg_name hN hi hx hfx) (pgs_cons (pg_name hN hj hy hfy) pgs_nil))) hs hw).imp fun D σ H h => ?_
  have h2 : rdS c Wx T (.par (.cons (.var i) (.cons (.var j) .nil)) es) (junkD D) σ H := by
    obtain ⟨F, P, env, S, h⟩ := h
    exact ⟨F, P, env, S, h.junk⟩
  refine rdA_monoT (rd_par hij h2) fun vs H1 ⟨v, w, e, q⟩ => ?_
  subst e
  refine ⟨by rw [sizeLine_eq]; simp, fun p hp => ⟨p, [v, w], rfl, SqT.of upd_same, rfl, v, [w], rfl, w, [], rfl, rfl, ?_⟩⟩
  exact q p _ hp
end
end Ev
end

section
set_option Elab.async false
set_option linter.all false
set_option autoImplicit true
set_option maxRecDepth 100000
set_option maxHeartbeats 4000000
/-! EvX: the translator of expressions. -/
namespace Ev
open PySem (Str Expr Stmt Scope Comprehension Keyword)
/-- what is known of the module: defs by name (number, parameters), constants, names that stay built-in -/
structure St where
  fns : List (Str × (Nat × List Str))
  glb : List Str
  blt : List Str
/-- where an expression stands: the def's slots, the scope, a comprehension's own scope -/
structure Gc where
  N : List Str
  sc : Scope
  blk : Option Scope
def Gc.kind (g : Gc) (x : Str) : Option PySem.NameKind := g.sc.names.lookup x
def Gc.isGl (g : Gc) (x : Str) : Bool := g.kind x == some .globalImplicit
def Gc.vis (g : Gc) (x : Str) : Bool := g.kind x == some .local || g.kind x == some .cell || g.kind x == some .free
def Gc.stores (g : Gc) (x : Str) : Bool := g.kind x == some .local || (g.kind x == some .cell && match g.blk with
  | none => true
  | some s => s.names.lookup x == some .cell)
def slotIn : List Str → Str → Option Nat
  | [], _ => none
  | y :: N, x => if y = x then some 0 else (slotIn N x).map (· + 1)
def plainName (x : Str) : Bool := !(x == ("__debug__" : Str)) && !(x == ("__classdict__" : Str)) && decide (x ≠ "__name__")
def noStar : Expr → Bool
  | .Starred _ _ => false
  | _ => true
def noSet : Expr → Bool
  | .Set _ _ _ => false
  | _ => true
def noSlice : Expr → Bool
  | .Slice _ _ _ _ => false
  | _ => true
/-- what a method may be asked of -/
def baseOk : Expr → Bool
  | .Name _ _ => true
  | .Subscript _ _ _ => true
  | _ => false
def biTab : List (Str × BI) := [("len", .len), ("tuple", .tuple), ("list", .list), ("int", .int), ("abs", .abs), ("max", .max), ("min", .min), ("sum", .sum), ("all", .all), ("any", .any), ("divmod", .divmod), ("sorted", .sorted)]
def miTab : List (Str × MI) := [("append", .append), ("extend", .extend), ("pop", .pop), ("setdefault", .setdefault), ("get", .get)]
def tyTab : List (Str × String) := [("bool", "bool"), ("int", "int"), ("str", "str"), ("tuple", "tuple"), ("list", "list"), ("dict", "dict")]
def trL (f : Expr → E) : List Expr → E
  | [] => .nil
  | .Starred e _ :: es => .scons (f e) (trL f es)
  | e :: es => .cons (f e) (trL f es)
def orNever (b : Bool) (e : E) : E := if b = true then e else neverE
/-- a slice's part -/
def trO (f : Expr → E) : Option Expr → E
  | none => .nil
  | some e => if (f e).isNil = true then neverE else f e
def isRange (s : St) (g : Gc) : Expr → Bool
  | .Call (.Name x _) _ [] _ => decide (x = "range") && g.isGl x && s.blt.contains x
  | _ => false
def trR (f : Expr → E) : Expr → E
  | .Call _ [a] [] _ => if noStar a = true then .rng (.cons (f a) .nil) else neverE
  | .Call _ [a, b] [] _ => if (noStar a && noStar b) = true then .rng (.cons (f a) (.cons (f b) .nil)) else neverE
  | _ => neverE
/-- targets -/
def trG (g : Gc) (f : Expr → E) : Nat → Expr → E
  | 0, _ => neverE
  | _ + 1, .Name x _ => match slotIn g.N x with
    | some i => orNever (g.stores x) (.var i)
    | none => neverE
  | _ + 1, .Subscript o i _ => orNever (noSlice i) (.idx (f o) (f i))
  | n + 1, .Tuple es _ _ => orNever (es.all noStar) (.tup (es.foldr (fun e t => .cons (trG g f n e) t) .nil))
  | _, _ => neverE
def isTupE : Expr → Bool
  | .Tuple _ _ _ => true
  | _ => false
def trI (s : St) (g : Gc) (f : Expr → E) (tg iter : Expr) : E :=
  let gen := orNever (!(f iter).isIt) (f iter)
  match iter with
  | .Call (.Name x p) args [] pos =>
    if (decide (x = "range") && g.isGl x && s.blt.contains x) = true then trR f iter
    else if (decide (x = "enumerate") && g.isGl x && s.blt.contains x && isTupE tg) = true then match args with
      | [a] => orNever (noStar a) (.enum (f a))
      | _ => neverE
    else if (decide (x = "zip") && g.isGl x && s.blt.contains x && isTupE tg) = true then match args with
      | [a, b] => orNever (noStar a && noStar b) (.zip (f a) (f b))
      | _ => neverE
    else gen
  | .Call (.Attribute o m apos) [] [] cpos => if (decide (m = "items") && isTupE tg && baseOk o && (apos.endLine == cpos.line)) = true then .itms (f o) else gen
  | _ => gen
def trC (f : Expr → E) : List Expr → E
  | [] => .nil
  | [c] => if (f c).isNil = true then neverE else f c
  | _ => neverE
/-- the own names of a comprehension, with their places -/
def ownOf (N : List Str) (scope : Scope) : List (Str × Nat) := scope.names.filterMap fun y => match y.2 with
  | .local => (slotIn N y.1).map (y.1, ·)
  | .cell => (slotIn N y.1).map (y.1, ·)
  | _ => none
def Gc.inner (g : Gc) (scope : Scope) : Gc := ⟨g.N, L2.relS scope g.sc, some scope⟩
def within (a b : List Nat) : Bool := a.all b.contains
def E.app : E → E → E
  | .nil, b => b
  | .cons a r, b => .cons a (r.app b)
  | .scons a r, b => .scons a (r.app b)
  | e, _ => e
/-- which keywords may stand: distinct, parameters that no positional value fills, all of them -/
def kwOk (ps ks : List Str) (n : Nat) : Bool := decide ks.Nodup && decide (n + ks.length = ps.length) && ks.all (fun k => (ps.drop n).contains k) && ps.all (fun p => (ps.take n).contains p || ks.contains p) && decide ps.Nodup
/-- where each parameter's value stands in the call: positional ones first, then by keyword -/
def kwIx : List Str → Str → Nat
  | [], _ => 0
  | k :: ks, x => if k = x then 0 else kwIx ks x + 1
def permOf (ps ks : List Str) (n : Nat) : List Nat := (ps.zip (List.range ps.length)).map fun p => if p.2 < n then p.2 else n + kwIx ks p.1
def trK (f : Expr → E) : List Keyword → E
  | [] => .nil
  | k :: ks => .cons (f k.value) (trK f ks)
/-- calls with keywords -/
def trKw (s : St) (g : Gc) (f : Expr → E) (x : Str) (args : List Expr) (kws : List Keyword) : E := match s.fns.lookup x with
  | some (j, ps) => orNever (plainName x && g.isGl x && args.all noStar && kws.all (fun k => k.arg.isSome) && kwOk ps (kws.filterMap (·.arg)) args.length && decide (permOf ps (kws.filterMap (·.arg)) args.length).Nodup)
      (.callk j (permOf ps (kws.filterMap (·.arg)) args.length) ((trL f args).app (trK f kws)))
  | none => neverE
/-- calls by name -/
def trF (s : St) (g : Gc) (f : Expr → E) (x : Str) (args : List Expr) : E :=
  if (plainName x && g.isGl x) = true then match s.fns.lookup x with
    | some (j, ps) => orNever (args.all noStar && decide (args.length = ps.length)) (.call j (trL f args))
    | none => if s.blt.contains x = true then
        if x = "isinstance" then match args with
          | [a, .Name y _] => match tyTab.lookup y with
            | some t => orNever (noStar a && plainName y && g.isGl y && s.blt.contains y) (.isi (f a) [t])
            | none => neverE
          | _ => neverE
        else match biTab.lookup x with
          | none => neverE
          | some b => match b, args with
            | .sum, [a, .List [] _] => orNever (noStar a) (.sumL (f a))
            | .list, [a] => if isRange s g a = true then match trR f a with
                | .rng es => .lrng es
                | _ => neverE
              else orNever (noStar a) (.bi b (.cons (f a) .nil))
            | .tuple, [a] => if isRange s g a = true then match trR f a with
                | .rng es => .bi .tuple (.cons (.lrng es) .nil)
                | _ => neverE
              else orNever (noStar a) (.bi b (.cons (f a) .nil))
            | _, [] => neverE
            | b, args => orNever (args.all noStar) (.bi b (trL f args))
      else neverE
  else if (plainName x && g.vis x) = true then match slotIn g.N x, args with
    | some i, e :: es => orNever ((e :: es).all noStar) (.callv i (trL f (e :: es)))
    | _, _ => neverE
  else neverE
def isRev : Expr → Bool
  | .Slice .none .none (some (.UnaryOp .USub (.Constant (.int 1) _ _) _)) _ => true
  | _ => false
def trSub (f : Expr → E) (a i : Expr) : E := if isRev i = true then .rev (f a) else match i with
  | .Slice lo hi .none _ => .slc (f a) (trO f lo) (trO f hi)
  | .Slice _ _ (some _) _ => neverE
  | i => .idx (f a) (f i)
/-- expressions; the second: as tests -/
def trE (s : St) : Nat → Gc → Expr → E × E
  | 0, _, _ => (neverE, neverE)
  | n + 1, g, e =>
    let f := fun e => (trE s n g e).1
    let t := fun e => (trE s n g e).2
    let both := fun e : E => (e, e)
    match e with
    | .Constant c _ _ => match c with
      | .int i => both (.cst (.int i))
      | .bool b => both (.cst (.bool b))
      | .str x => both (.cst (.str x))
      | .none => both (.cst .none)
      | _ => both neverE
    | .Name x _ => if plainName x = true then
        if g.vis x = true then match slotIn g.N x with
          | some i => both (.var i)
          | none => both neverE
        else if (g.isGl x && s.glb.contains x) = true then both (.glb x) else if g.isGl x = true then match s.fns.lookup x with
          | some (j, _) => both (.cst (fnD j))
          | none => both neverE
        else both neverE
      else both neverE
    | .BinOp a op b _ => both (.bin op (f a) (f b))
    | .UnaryOp .Not a _ => (.not (f a), .not (t a))
    | .UnaryOp op a _ => both (.un op (f a))
    | .BoolOp .And [a] _ => (f a, t a)
    | .BoolOp .Or [a] _ => (f a, t a)
    | .BoolOp .And (a :: b :: r) p => (.and (f a) (f (.BoolOp .And (b :: r) p)), .and (t a) (t (.BoolOp .And (b :: r) p)))
    | .BoolOp .Or (a :: b :: r) p => (.or (f a) (f (.BoolOp .Or (b :: r) p)), .or (t a) (t (.BoolOp .Or (b :: r) p)))
    | .Compare a [o] [b] _ => both (orNever (!PySem.behindInMarks o b) (.cmp o (f a) (f b)))
    | .Compare a [o, o'] [b, z] _ => both (orNever (!PySem.lastMarks [o, o'] [b, z]) (.chn o o' (f a) (f b) (f z)))
    | .IfExp c a b _ => (.ife (t c) (f a) (f b), neverE)
    | .Tuple es _ _ => both (.tup (trL f es))
    | .List es _ => both (.lst (trL f es))
    | .Subscript a i _ => both (trSub f a i)
    | .Call (.Name x _) args [] _ => both (trF s g f x args)
    | .Call (.Name x _) args (k :: ks) _ => both (trKw s g f x args (k :: ks))
    | .Call (.Attribute o m apos) args [] cpos => both (match miTab.lookup m with
      | some mi => orNever (baseOk o && (apos.endLine == cpos.line) && args.all noStar && decide (args.length < 20)) (.meth mi (f o) (trL f args))
      | none => neverE)
    | .Dict [] [] _ => both .dnew
    | .ListComp elt gens scope _ =>
      let ow := ownOf g.N scope
      let f' := fun e => (trE s n (g.inner scope) e).1
      let t' := fun e => (trE s n (g.inner scope) e).2
      both (match gens with
        | [⟨tg, it, ifs, a⟩] => orNever (decide (a = 0) && L2.blkC g.N g.sc scope ow && within (trG (g.inner scope) f' 5 tg).names (ow.map (·.2)) && noSet it)
            (.lc (ow.map (·.2)) (trG (g.inner scope) f' 5 tg) (trI s g f tg it) (trC t' ifs) (f' elt))
        | [⟨tg, it, ifs, a⟩, ⟨tg2, it2, ifs2, a2⟩] => orNever (decide (a = 0) && decide (a2 = 0) && L2.blkC g.N g.sc scope ow && within (trG (g.inner scope) f' 5 tg).names (ow.map (·.2)) && within (trG (g.inner scope) f' 5 tg2).names (ow.map (·.2)) && noSet it && noSet it2)
            (.lc2 (ow.map (·.2)) (trG (g.inner scope) f' 5 tg2).names (trG (g.inner scope) f' 5 tg) (trI s g f tg it) (trC t' ifs) (trG (g.inner scope) f' 5 tg2) (trI s (g.inner scope) f' tg2 it2) (trC t' ifs2) (f' elt))
        | _ => neverE)
    | .DictComp kx vx gens scope _ =>
      let ow := ownOf g.N scope
      let f' := fun e => (trE s n (g.inner scope) e).1
      let t' := fun e => (trE s n (g.inner scope) e).2
      both (match gens with
        | [⟨tg, it, ifs, a⟩] => orNever (decide (a = 0) && L2.blkC g.N g.sc scope ow && within (trG (g.inner scope) f' 5 tg).names (ow.map (·.2)) && noSet it)
            (.dc (ow.map (·.2)) (trG (g.inner scope) f' 5 tg) (trI s g f tg it) (trC t' ifs) (f' kx) (f' vx))
        | _ => neverE)
    | _ => both neverE
end Ev
end

section
set_option Elab.async false
set_option linter.all false
set_option autoImplicit true
set_option maxRecDepth 100000
set_option maxHeartbeats 4000000
/-! EwD: calls with keywords. -/
namespace Ev
open PySem PySem.Spec PyProof.Rows L2
theorem kw_loop {ps : List Str} {f : Str × Value → List (Str × Value) × List (Str × Value) → Sem (ForInStep (List (Str × Value) × List (Str × Value)))}
    (hf : ∀ k v S E, ps.contains k = true → S.lookup k = none → f (k, v) (S, E) = pure (.yield (S ++ [(k, v)], E))) : ∀ (kws : List (Str × Value)) (S E : List (Str × Value)), (∀ p ∈ kws, ps.contains p.1 = true ∧ S.lookup p.1 = none) → (kws.map (·.1)).Nodup →
    forIn kws (S, E) f = pure (S ++ kws, E)
  | [], S, E, _, _ => by rw [List.forIn_nil, List.append_nil]
  | (k, v) :: kws, S, E, h, nd => by
    have h0 := h (k, v) (by simp)
    rw [List.forIn_cons, hf k v S E h0.1 h0.2]
    simp only [pure_bind]
    rw [kw_loop hf kws (S ++ [(k, v)]) E (fun p hp => ⟨(h p (by simp [hp])).1, ?_⟩) (List.nodup_cons.mp nd).2]
    · simp
    · rw [List.lookup_append, (h p (by simp [hp])).2]
      show ([(k, v)] : List (Str × Value)).lookup p.1 = none
      rw [List.lookup_cons]
      have : (p.1 == k) = false := by
        apply beq_eq_false_iff_ne.mpr
        rintro rfl
        exact (List.nodup_cons.mp nd).1 (List.mem_map.mpr ⟨p, hp, rfl⟩)
      rw [this]
      rfl
/-- the values in the parameters' order -/
def gOf {α : Type} (ps ks : List Str) (us ws : List α) : List α := ps.filterMap fun n => ((ps.zip us) ++ (ks.zip ws)).lookup n
theorem filterMap_some {α : Type} {L : List (Str × α)} : ∀ {ps : List Str}, (∀ p ∈ ps, (L.lookup p).isSome = true) → ps.filterMap (fun n => (L.lookup n).map (n, ·)) = ps.zip (ps.filterMap fun n => L.lookup n)
  | [], _ => rfl
  | p :: ps, h => by
    obtain ⟨v, hv⟩ := Option.isSome_iff_exists.mp (h p (by simp))
    rw [List.filterMap_cons, List.filterMap_cons, hv]
    show (p, v) :: _ = (p, v) :: _
    rw [filterMap_some fun q hq => h q (by simp [hq])]
    rfl
theorem lookup_zip_none {α : Type} : ∀ {ps : List Str} {us : List α} {x : Str}, x ∉ ps.take us.length → (ps.zip us).lookup x = none
  | [], us, x, _ => by cases us <;> rfl
  | p :: ps, [], x, _ => rfl
  | p :: ps, u :: us, x, h => by
    show ((p, u) :: ps.zip us).lookup x = none
    rw [List.length_cons, List.take_succ_cons] at h
    rw [List.lookup_cons]
    have : (x == p) = false := beq_eq_false_iff_ne.mpr fun z => h (by simp [z])
    rw [this]
    exact lookup_zip_none fun z => h (by simp [z])
theorem take_zip {α : Type} : ∀ (ps : List Str) (us : List α), (ps.take us.length).zip us = ps.zip us
  | [], us => by simp
  | p :: ps, [] => by simp
  | p :: ps, u :: us => by
    rw [List.length_cons, List.take_succ_cons]
    show (p, u) :: (ps.take us.length).zip us = (p, u) :: ps.zip us
    rw [take_zip ps us]
theorem bind_kw {x qual : Str} {params : Arguments} {body : List Stmt} {scope : Scope} {kV doc pm : Value} {an : Option Addr} {cdv ct : Value} {us ws : List Value} {ks : List Str} (hp : plainPs params = true) (hk : kwOk (params.args.map (·.arg)) ks us.length = true) (hw : ws.length = ks.length) :
    bindArgs (PySem.W.fnOf x qual params body scope .none kV doc pm an cdv ct) ⟨us, ks.zip ws⟩ = pure ((params.args.map (·.arg)).zip (gOf (params.args.map (·.arg)) ks us ws)) := by
  obtain ⟨po, args, va, ko, kd, kw, df⟩ := params
  unfold plainPs at hp
  simp only [Bool.and_eq_true, List.isEmpty_iff, Option.isNone_iff_eq_none] at hp
  obtain ⟨⟨⟨rfl, rfl⟩, rfl⟩, rfl⟩ := hp
  unfold bindArgs PySem.W.fnOf
  simp only at hk ⊢
  generalize hps : args.map (·.arg) = ps at hk ⊢
  unfold kwOk at hk
  simp only [Bool.and_eq_true, decide_eq_true_eq] at hk
  obtain ⟨⟨⟨⟨k1, k2⟩, k3⟩, k4⟩, nd⟩ := hk
  have hz : (ks.zip ws).map (·.1) = ks := by rw [List.map_fst_zip]; omega
  have hin : ∀ p ∈ ks.zip ws, ps.contains p.1 = true ∧ (ps.zip us).lookup p.1 = none := fun p hp => by
    have hm : p.1 ∈ ks := (List.of_mem_zip hp).1
    have hd := List.contains_iff_mem.mp (List.all_eq_true.mp k3 p.1 hm)
    refine ⟨List.contains_iff_mem.mpr (List.mem_of_mem_drop hd), lookup_zip_none fun z => ?_⟩
    have := List.take_append_drop us.length ps
    rw [← this] at nd
    exact (List.nodup_append.mp nd).2.2 _ z _ hd rfl
  have all : ∀ p ∈ ps, ((ps.zip us ++ ks.zip ws).lookup p).isSome = true := fun p hp => by
    have := List.all_eq_true.mp k4 p hp
    rw [Bool.or_eq_true] at this
    rw [List.lookup_append]
    rcases this with h | h
    · have hm := List.contains_iff_mem.mp h
      have := lookup_zip_some (ps := ps.take us.length) (us := us) (by rw [List.length_take]; omega) hm
      have e : (ps.take us.length).zip us = ps.zip us := take_zip ps us
      rw [e] at this
      cases hh : (ps.zip us).lookup p with
      | none => rw [hh] at this; cases this
      | some v => rfl
    · have hm := List.contains_iff_mem.mp h
      have := lookup_zip_some (us := ws) hw.symm hm
      cases hh : (ps.zip us).lookup p with
      | none => exact this
      | some v => rfl
  have hmiss : (ps.filter fun n => ((ps.zip us ++ ks.zip ws).lookup n).isNone) = [] := List.filter_eq_nil_iff.mpr fun a ha => by
    have := all a ha
    cases e : (ps.zip us ++ ks.zip ws).lookup a with
    | none => rw [e] at this; cases this
    | some _ => simp
  have hfm := filterMap_some all
  have hlen : ¬ us.length > ps.length := by omega
  have hz2 : ((ks.zip ws).map (·.1)).Nodup := by rw [hz]; exact k1
  simp only [List.map_nil, List.nil_append, List.append_nil]
  rw [kw_loop (ps := ps) (fun k v S E h1 h2 => by simp only [h1, h2]; rfl) (ks.zip ws) (ps.zip us) [] hin hz2]
  simp [seqItems?, notAStandIn, hlen, hmiss, hfm]
  rfl
end Ev
end

section
set_option Elab.async false
set_option linter.all false
set_option autoImplicit true
set_option maxRecDepth 100000
set_option maxHeartbeats 4000000
/-! EwE: argument lists one behind the other, values in another order. -/
namespace Ev
open PySem PySem.Spec PyProof.Rows L2
def E.isA : E → Bool
  | .nil => true
  | .cons _ r => r.isA
  | .scons _ r => r.isA
  | _ => false
section
variable {c : Cfg} {Wx Wy : WX} {T : Tb} {X : Cx} {σ : L2.St} {F F1 F2 F3 H H1 H2 H3 F' H' Fx Fy : Hp} {P P1 P2 P3 Pt Pn Pi Pw Pr : Addr → Prop} {env env0 env1 env3 env' : Env} {rs : List R} {vs : List V} {i : Nat}
theorem bnd_ret {α β : Type} {m : M α} {f : α → M β} {a : α} : bnd (ret a) f = f a := rfl
theorem ev_app : ∀ {a b : E}, a.isA = true → ev T (a.app b) = bnd (ev T a) fun xs => bnd (ev T b) fun ys => ret (xs ++ ys)
  | .nil, b, _ => by
    show ev T b = _
    rw [ev]
    show ev T b = bnd (ev T b) fun ys => ret ([] ++ ys)
    funext env
    unfold bnd
    cases ev T b env with
    | none => rfl
    | some p => obtain ⟨p, e⟩ := p; cases p <;> rfl
  | .cons a r, b, h => by
    show ev T (.cons a (r.app b)) = _
    rw [ev, ev, ev_app (a := r) h]
    simp only [bnd_assoc]
    rfl
  | .scons a r, b, h => by
    show ev T (.scons a (r.app b)) = _
    rw [ev, ev, ev_app (a := r) h]
    simp only [bnd_assoc]
    congr 1
    funext xs
    congr 1
    funext x
    congr 1
    funext w
    congr 1
    funext zs
    congr 1
    funext ys
    show (bnd (ev T b) fun us => ret (List.map R.d zs ++ (ys ++ us))) = bnd (ev T b) fun us => ret ((List.map R.d zs ++ ys) ++ us)
    simp only [List.append_assoc]
theorem settle_held {r r' : R} (h : settle r env = some (.ok r', env')) : r'.held := by
  unfold settle at h
  split at h
  · obtain ⟨x, e, _, h2⟩ := bnd_ok h
    cases h2
    trivial
  · rename_i hn
    cases h
    cases r with
    | d _ => trivial
    | own _ => trivial
    | pth i sel =>
      cases sel with
      | nil => trivial
      | cons k sel => exact (hn i k sel rfl).elim
theorem ev_held : ∀ {a : E} {env env' : Env} {rs : List R}, a.isA = true → ev T a env = some (.ok rs, env') → ∀ r ∈ rs, r.held
  | .nil, env, env', rs, _, h => by rw [ev] at h; cases h; simp
  | .cons a r, env, env', rs, ha, h => by
    rw [ev] at h
    obtain ⟨xs, e1, h1, h⟩ := bnd_ok h
    obtain ⟨x, e2, h2, h⟩ := bnd_ok h
    obtain ⟨x', e3, h3, h⟩ := bnd_ok h
    obtain ⟨ys, e4, h4, h⟩ := bnd_ok h
    cases h
    intro q hq
    rcases List.mem_cons.mp hq with rfl | hq
    · exact settle_held h3
    · exact ev_held (a := r) ha h4 q hq
  | .scons a r, env, env', rs, ha, h => by
    rw [ev] at h
    obtain ⟨xs, e1, h1, h⟩ := bnd_ok h
    obtain ⟨x, e2, h2, h⟩ := bnd_ok h
    obtain ⟨w, e3, h3, h⟩ := bnd_ok h
    obtain ⟨zs, e5, h5, h⟩ := bnd_ok h
    obtain ⟨ys, e4, h4, h⟩ := bnd_ok h
    cases h
    intro q hq
    rcases List.mem_append.mp hq with hq | hq
    · obtain ⟨d, _, rfl⟩ := List.mem_map.mp hq
      trivial
    · exact ev_held (a := r) ha h4 q hq
theorem rd_app {a b : E} {Q : List V → Hp → Prop} (h : a.isA = true) (q : rdA c Wx T (a.app b) σ H Q) : rdA c Wx T a σ H fun vs H1 => rdA c Wx T b σ H1 fun zs H2 => Q (vs ++ zs) H2 := by
  obtain ⟨F, P, env, S, q⟩ := q
  rw [ev_app h] at q
  refine ⟨F, P, env, S, Aft.fst q S fun rs env1 vs F1 H1 P1 Pt e1 t s q => ?_⟩
  exact ⟨F1, P1, env1, t.sr, Aft.seq q t (ev_held h e1) s fun rs2 env2 vs2 F2 H2 P2 Pt2 _ t t2 s q => q _ F2 H2 P2 _ t s⟩
/-! ### another order -/
theorem RRs.fam : ∀ {rs : List R} {vs : List V} {P : Addr → Prop}, RRs c.K c.G F H σ rs vs P → ∃ Ps : Nat → Addr → Prop, (∀ i a, Ps i a → P a) ∧ (∀ i j a, Ps i a → Ps j a → i = j) ∧ rs.length = vs.length ∧ ∀ (i : Nat) (r : R) (v : V), rs[i]? = some r → vs[i]? = some v → RR c.K c.G F H σ r v (Ps i)
  | [], _, P, h => by cases h; exact ⟨fun _ _ => False, fun _ _ z => z.elim, fun _ _ _ z => z.elim, rfl, fun i r v e => by simp at e⟩
  | r0 :: rs, _, P, h => by
    cases h with
    | @cons _ v0 _ vs _ Q1 Q2 h1 h2 h3 h4 =>
      obtain ⟨Ps, k1, k2, k0, k3⟩ := RRs.fam h4
      refine ⟨fun i => match i with | 0 => Q1 | i + 1 => Ps i, fun i a h => ?_, fun i j a h h' => ?_, by simp [k0], fun i r v e e' => ?_⟩
      · cases i with
        | zero => exact (h1 a h).1
        | succ i => exact h2 a (k1 i a h)
      · cases i with
        | zero =>
          cases j with
          | zero => rfl
          | succ j => exact ((h1 a h).2 (k1 j a h')).elim
        | succ i =>
          cases j with
          | zero => exact ((h1 a h').2 (k1 i a h)).elim
          | succ j => rw [k2 i j a h h']
      · cases i with
        | zero =>
          simp at e e'
          subst e e'
          exact h3
        | succ i => exact k3 i r v (by simpa using e) (by simpa using e')
theorem RRs.perm {rs : List R} {vs : List V} (h : RRs c.K c.G F H σ rs vs P) : ∀ {perm : List Nat} {rs' : List R}, perm.Nodup → (perm.mapM fun j => rs[j]?) = some rs' → RRs c.K c.G F H σ rs' (perm.filterMap fun j => vs[j]?) P := by
  obtain ⟨Ps, k1, k2, k0, k3⟩ := h.fam
  have gen : ∀ {perm : List Nat} {rs' : List R}, perm.Nodup → (perm.mapM fun j => rs[j]?) = some rs' → RRs c.K c.G F H σ rs' (perm.filterMap fun j => vs[j]?) fun a => ∃ j ∈ perm, Ps j a := by
    intro perm
    induction perm with
    | nil => intro rs' _ e; rw [List.mapM_nil] at e; cases e; exact .nil
    | cons j perm ih =>
      intro rs' nd e
      rw [List.mapM_cons] at e
      cases e1 : rs[j]? with
      | none => rw [e1] at e; cases e
      | some r =>
        rw [e1] at e
        cases e2 : (perm.mapM fun j => rs[j]?) with
        | none => rw [e2] at e; cases e
        | some rest =>
          rw [e2] at e
          cases e
          have hj : j < vs.length := by rw [← k0]; exact (List.getElem?_eq_some_iff.mp e1).1
          have ev := List.getElem?_eq_getElem hj
          rw [List.filterMap_cons, ev]
          refine .cons (P1 := Ps j) (P2 := fun a => ∃ j ∈ perm, Ps j a) (fun b hb => ⟨⟨j, by simp, hb⟩, fun ⟨j', hj', hb'⟩ => ?_⟩) (fun b ⟨j', hj', hb'⟩ => ⟨j', by simp [hj'], hb'⟩) (k3 j r _ e1 ev) (ih (List.nodup_cons.mp nd).2 e2)
          rw [k2 j j' b hb hb'] at nd
          exact (List.nodup_cons.mp nd).1 hj'
  intro perm rs' nd e
  exact (gen nd e).big fun a ⟨j, _, h⟩ => k1 j a h
end
end Ev
end

section
set_option Elab.async false
set_option linter.all false
set_option autoImplicit true
set_option maxRecDepth 100000
set_option maxHeartbeats 4000000
/-! EwF: calls with keywords. -/
namespace Ev
open PySem PySem.Spec PyProof.Rows L2
section
variable {c : Cfg} {Wx Wy : WX} {T : Tb} {X : Cx} {σ : L2.St} {F F1 F2 F3 H H1 H2 H3 F' H' Fx Fy : Hp} {P P1 P2 P3 Pt Pn Pi Pw Pr : Addr → Prop} {env env0 env1 env3 env' : Env} {rs : List R} {vs : List V} {i : Nat}
theorem rd_callk {f : Nat} {perm : List Nat} {es : E} {Q : VK} (nd : perm.Nodup) (q : rdE c Wx T (.callk f perm es) σ H Q) : rdA c Wx T es σ H fun vs H1 => spF c (T.call f) (perm.filterMap fun j => vs[j]?) H1 Q (WE Wx σ) := by
  obtain ⟨F, P, env, S, q⟩ := q
  rw [ev] at q
  refine ⟨F, P, env, S, Aft.fst q S fun rs env1 vs F1 H1 P1 Pt _ t s q => ?_⟩
  obtain ⟨rs', ep, q⟩ := q.lft
  exact call_core (rs := rs') (vs := perm.filterMap fun j => vs[j]?) ⟨t.sr, t.rr.perm nd ep, t.dj, t.gt⟩ s q
theorem kwIx_get {α : Type} : ∀ {ks : List Str} {ws : List α} {x : Str}, ks.length = ws.length → x ∈ ks → (ks.zip ws).lookup x = ws[kwIx ks x]?
  | [], _, _, _, h => by simp at h
  | k :: ks, [], _, hl, _ => by cases hl
  | k :: ks, w :: ws, x, hl, h => by
    show ((k, w) :: ks.zip ws).lookup x = _
    rw [List.lookup_cons]
    unfold kwIx
    by_cases e : k = x
    · subst e
      rw [beq_self_eq_true, if_pos rfl]
      rfl
    · have : (x == k) = false := beq_eq_false_iff_ne.mpr (Ne.symm e)
      rw [this, if_neg e]
      rw [List.getElem?_cons_succ]
      rcases List.mem_cons.mp h with h | h
      · exact (e h.symm).elim
      · exact kwIx_get (by simpa using hl) h
/-- the values of a call, ordered -/
def inOrd {α : Type} (perm : List Nat) (xs : List α) : List α := perm.filterMap fun j => xs[j]?
theorem inOrd_vals {perm : List Nat} {vs : List V} {us : List Value} (h : Vals vs us) : Vals (inOrd perm vs) (inOrd perm us) := by
  unfold inOrd
  induction perm with
  | nil => exact .nil
  | cons j perm ih =>
    rw [List.filterMap_cons, List.filterMap_cons]
    cases e : vs[j]? with
    | none =>
      have : us[j]? = none := by
        rw [List.getElem?_eq_none_iff] at e ⊢
        rw [← h.length]; exact e
      rw [this]; exact ih
    | some v =>
      obtain ⟨u, hu, ru⟩ := h.get e
      rw [hu]
      exact .cons ru ih
theorem lookup_zip_get {α : Type} : ∀ {ps : List Str} {us : List α} {j : Nat} {x : Str} {u : α}, ps.Nodup → ps[j]? = some x → us[j]? = some u → (ps.zip us).lookup x = some u
  | [], _, _, _, _, _, h, _ => by simp at h
  | p :: ps, [], _, _, _, _, _, h => by simp at h
  | p :: ps, w :: us, 0, x, u, nd, h1, h2 => by
    simp at h1 h2
    subst h1 h2
    show ((p, w) :: ps.zip us).lookup p = _
    rw [List.lookup_cons, beq_self_eq_true]
  | p :: ps, w :: us, j + 1, x, u, nd, h1, h2 => by
    have h1' : ps[j]? = some x := by simpa using h1
    show ((p, w) :: ps.zip us).lookup x = _
    rw [List.lookup_cons]
    have : (x == p) = false := beq_eq_false_iff_ne.mpr fun z => (List.nodup_cons.mp nd).1 (z ▸ List.mem_of_getElem? h1')
    rw [this]
    exact lookup_zip_get (List.nodup_cons.mp nd).2 h1' (by simpa using h2)
theorem zip_filterMap {α β : Type} {f : α → Option β} : ∀ {ps : List α} {r : List Nat}, ps.length = r.length → (ps.zip r).filterMap (fun p => f p.1) = ps.filterMap f
  | [], _, _ => by simp
  | p :: ps, [], h => by cases h
  | p :: ps, i :: r, h => by
    show ((p, i) :: ps.zip r).filterMap _ = _
    rw [List.filterMap_cons, List.filterMap_cons, zip_filterMap (by simpa using h)]
theorem fm_congr {α β : Type} {f g : α → Option β} : ∀ {l : List α}, (∀ x ∈ l, f x = g x) → l.filterMap f = l.filterMap g
  | [], _ => rfl
  | x :: l, h => by rw [List.filterMap_cons, List.filterMap_cons, h x (by simp), fm_congr fun y hy => h y (by simp [hy])]
theorem gOf_ord {α : Type} {ps ks : List Str} {us ws : List α} (hk : kwOk ps ks us.length = true) (hw : ws.length = ks.length) : gOf ps ks us ws = inOrd (permOf ps ks us.length) (us ++ ws) := by
  unfold kwOk at hk
  simp only [Bool.and_eq_true, decide_eq_true_eq] at hk
  obtain ⟨⟨⟨⟨k1, k2⟩, k3⟩, k4⟩, nd⟩ := hk
  unfold gOf inOrd permOf
  rw [List.filterMap_map, ← zip_filterMap (r := List.range ps.length) (by simp)]
  refine fm_congr fun p hp => ?_
  obtain ⟨n, hn⟩ := List.getElem?_of_mem hp
  obtain ⟨e1, e2⟩ := List.getElem?_zip_eq_some.mp hn
  have hl : n < ps.length := (List.getElem?_eq_some_iff.mp e1).1
  rw [List.getElem?_range hl] at e2
  have e2' : p.2 = n := by cases e2; rfl
  show _ = (us ++ ws)[if p.2 < us.length then p.2 else us.length + kwIx ks p.1]?
  rw [e2']
  by_cases hj : n < us.length
  · rw [if_pos hj, List.getElem?_append_left hj, List.lookup_append, lookup_zip_get nd e1 (List.getElem?_eq_getElem hj), List.getElem?_eq_getElem hj]
    rfl
  · rw [if_neg hj, List.getElem?_append_right (by omega)]
    have hnt : p.1 ∉ ps.take us.length := fun z => by
      have hd : p.1 ∈ ps.drop us.length := List.mem_of_getElem? (i := n - us.length) (by rw [List.getElem?_drop, show us.length + (n - us.length) = n by omega]; exact e1)
      rw [← List.take_append_drop us.length ps] at nd
      exact (List.nodup_append.mp nd).2.2 _ z _ hd rfl
    have hkm : p.1 ∈ ks := by
      have := List.all_eq_true.mp k4 p.1 (List.mem_of_getElem? e1)
      rw [Bool.or_eq_true] at this
      rcases this with h | h
      · exact (hnt (List.contains_iff_mem.mp h)).elim
      · exact List.contains_iff_mem.mp h
    rw [List.lookup_append, lookup_zip_none hnt]
    show (ks.zip ws).lookup p.1 = _
    rw [kwIx_get hw.symm hkm]
    congr 1
    omega
end
end Ev
end

section
set_option Elab.async false
set_option linter.all false
set_option autoImplicit true
set_option maxRecDepth 100000
set_option maxHeartbeats 4000000
/-! EvY: the translator of expressions is right. -/
namespace Ev
open PySem PySem.Spec PyProof.Rows L2
structure OkX (c : Cfg) (T : Tb) (s : St) (l : Nat) (X : Cx) (g : Gc) (Wx : WX) : Prop where
  sc : X.env.scope = g.sc
  N : X.N = g.N
  nd : g.N.Nodup
  calm : X.calm = true
  K : c.K = X.K
  G : c.On X
  room : Room l X.A
  tk : Takes X Wx
  fn : match g.blk with
    | none => ∀ x, X.fn x = true
    | some sp => ∀ x, sp.names.lookup x = some .cell → X.fn x = true
  fns : ∀ x j ps, s.fns.lookup x = some (j, ps) → ∃ f fd, X.mg x = some (.ref f) ∧ PySem.W.keepIn X.K (.ref f) = true ∧ Binds X.K fd ps [] ∧ (∀ (ks : List Str) (n : Nat), kwOk ps ks n = true → ∀ (s : Shared) (us ws : List Value), us.length = n → ws.length = ks.length → BindsTo s fd ⟨us, ks.zip ws⟩ (ps.zip (inOrd (permOf ps ks n) (us ++ ws)))) ∧ FnOk X.prog X.w X.K X.mg X.base (L2.CX X.prog X.w) l f fd ps (spF c (T.call j))
  glb : ∀ x, s.glb.contains x = true → ∃ v u d, T.glob x = some d ∧ X.mg x = some u ∧ RelV v u ∧ ∀ F, DR c.K c.G F v d
  blt : ∀ x, s.blt.contains x = true → X.mg x = none
  fng : ∀ x j ps, s.fns.lookup x = some (j, ps) → ∃ f, X.mg x = some (.ref f) ∧ c.G.fn j = some f
  fnv : ∀ (j : Nat) (f : Addr), c.G.fn j = some f → ∃ (fd : FuncData) (ps : List Str), FnOk X.prog X.w X.K X.mg X.base (L2.CX X.prog X.w) l f fd ps (spF c (T.call j)) ∧ PySem.W.keepIn X.K (.ref f) = true ∧ Binds X.K fd ps []
section
variable {c : Cfg} {Wx Wy : WX} {T : Tb} {X : Cx} {s : St} {l : Nat} {g : Gc} {f t : Expr → E} {env : PySem.Env}
theorem OkX.units (k : OkX c T s l X g Wx) : X.A.units + 65 < cLine := by have := k.room.un; omega
theorem OkX.units1 (k : OkX c T s l X g Wx) : X.A.units + 1 < cLine := by have := k.room.un; omega
theorem OkX.gl (k : OkX c T s l X g Wx) {x : Str} (h : g.isGl x = true) : Gl X x := by
  unfold Gl PySem.Env.kindOf
  rw [k.sc]
  exact eq_of_beq h
theorem OkX.inner (k : OkX c T s l X g Wx) {sh : Shared} {H : Hp} {scope : Scope} {cl : List (Str × Addr)} {C : Addr} {fp : List Addr} : OkX c T s l (X.blk sh H scope (compEnvC scope cl C X.env) fp) (g.inner scope) (fun _ _ _ _ => False) := by
  refine ⟨?_, k.N, k.nd, k.calm, k.K, k.G, k.room, fun _ _ ⟨_, _, _, _, _, _, _, _, _, _, _, _, _, _, _, _, w⟩ => w.elim, fun x h => ?_, k.fns, k.glb, k.blt, k.fng, k.fnv⟩
  · show relS scope X.env.scope = relS scope g.sc
    rw [k.sc]
  · show (scope.names.lookup x == some .cell) = true
    rw [h]; rfl
/-! ### argument lists in the text -/
theorem star_ns {e : Expr} {es : List Expr} (h : noStar e = true) : starEach (e :: es) env = (false, eval e env) :: starEach es env := by
  cases e <;> first | rfl | cases h
theorem any_ns {pos : Pos} : ∀ {es : List Expr}, es.all noStar = true → (backTo pos (starEach es env)).any (·.1) = false
  | [], _ => rfl
  | e :: es, h => by
    rw [List.all_cons, Bool.and_eq_true] at h
    rw [star_ns h.1]
    show (false || (backTo pos (starEach es env)).any (·.1)) = false
    rw [any_ns h.2]
    rfl
theorem all_ns {pos : Pos} : ∀ {es : List Expr}, es.all noStar = true → (backTo pos (starEach es env)).all (fun x => !x.1) = true
  | [], _ => rfl
  | e :: es, h => by
    rw [List.all_cons, Bool.and_eq_true] at h
    rw [star_ns h.1]
    show (true && (backTo pos (starEach es env)).all (fun x => !x.1)) = true
    rw [all_ns h.2]
    rfl
theorem a_tr (hK : c.K = X.K) (hf : ∀ e, PE X e (rdE c Wx T (f e))) : ∀ es : List Expr, PA X es (rdA c Wx T (trL f es))
  | [] => a_nil
  | e :: es => by
    by_cases h : ∃ e' p, e = .Starred e' p
    · obtain ⟨e', p, rfl⟩ := h
      exact a_star hK (hf e') (a_tr hK hf es) rfl
    · have h1 : trL f (e :: es) = .cons (f e) (trL f es) := by
        cases e <;> first | rfl | exact (h ⟨_, _, rfl⟩).elim
      rw [h1]
      refine a_cons (hf e) (a_tr hK hf es) (star_ns ?_)
      cases e <;> first | rfl | exact (h ⟨_, _, rfl⟩).elim
theorem e_orN {b : Bool} {e : Expr} {e' : E} (h : b = true → PE X e (rdE c Wx T e')) : PE X e (rdE c Wx T (orNever b e')) := by
  cases b with
  | true => exact h rfl
  | false => exact e_never
theorem slot_ok : ∀ {N : List Str} {x : Str} {i : Nat}, slotIn N x = some i → N[i]? = some x
  | [], x, i, h => by cases h
  | y :: N, x, i, h => by
    unfold slotIn at h
    by_cases hy : y = x
    · rw [if_pos hy] at h
      cases h
      simp [hy]
    · rw [if_neg hy] at h
      cases e : slotIn N x with
      | none => rw [e] at h; cases h
      | some j =>
        rw [e] at h
        cases h
        simpa using slot_ok e
theorem vis_ok (k : OkX c T s l X g Wx) {x : Str} (h : g.vis x = true) : Vis X.env.scope x := by
  rw [k.sc]
  unfold Gc.vis Gc.kind at h
  simp only [Bool.or_eq_true] at h
  rcases h with (h | h) | h
  · exact .inl (eq_of_beq h)
  · exact .inr (.inl (eq_of_beq h))
  · exact .inr (.inr (eq_of_beq h))
theorem plain_ok {x : Str} (h : plainName x = true) : (x == ("__debug__" : Str)) = false ∧ (x == ("__classdict__" : Str)) = false ∧ x ≠ "__name__" := by
  unfold plainName at h
  simp only [Bool.and_eq_true, Bool.not_eq_true', decide_eq_true_eq] at h
  exact ⟨h.1.1, h.1.2, h.2⟩
theorem bi_boot : ∀ p ∈ biTab, bootBuiltins p.1 = some (biF p.2) := by
  intro p hp
  simp only [biTab, List.mem_cons, List.not_mem_nil, or_false] at hp
  rcases hp with rfl | rfl | rfl | rfl | rfl | rfl | rfl | rfl | rfl | rfl | rfl | rfl <;> decide +kernel
theorem ty_boot : ∀ p ∈ tyTab, bootBuiltins p.1 = some (.type p.2) ∧ p.2 ∈ tyNames := by
  intro p hp
  simp only [tyTab, List.mem_cons, List.not_mem_nil, or_false] at hp
  rcases hp with rfl | rfl | rfl | rfl | rfl | rfl <;> exact ⟨by decide +kernel, by decide⟩
theorem lookup_mem {β : Type} : ∀ {l : List (Str × β)} {x : Str} {y : β}, l.lookup x = some y → (x, y) ∈ l
  | [], x, y, h => by cases h
  | (a, b) :: l, x, y, h => by
    rw [List.lookup_cons] at h
    cases e : x == a with
    | true => rw [e] at h; cases h; rw [eq_of_beq e]; exact List.mem_cons_self
    | false => rw [e] at h; exact List.mem_cons_of_mem _ (lookup_mem h)
theorem noStar_all1 {a : Expr} (h : noStar a = true) : ([a] : List Expr).all noStar = true := by simp [h]
/-! ### range -/
theorem isRange_ok (k : OkX c T s l X g Wx) {a : Expr} (h : isRange s g a = true) : ∃ p args pos, a = .Call (.Name "range" p) args [] pos ∧ Gl X "range" ∧ X.mg "range" = none := by
  unfold isRange at h
  split at h
  · rename_i x p args pos
    simp only [Bool.and_eq_true, decide_eq_true_eq] at h
    obtain ⟨⟨rfl, h2⟩, h3⟩ := h
    exact ⟨p, args, pos, rfl, k.gl h2, k.blt _ h3⟩
  · cases h
theorem r_tr (k : OkX c T s l X g Wx) (hf : ∀ e, PE X e (rdE c Wx T (f e))) {a : Expr} {es : E} (h : isRange s g a = true) (e : trR f a = .rng es) (hn : es ≠ .nil) : PRg X a (rdR c Wx T es) := by
  obtain ⟨p, args, pos, rfl, hg, hm⟩ := isRange_ok k h
  unfold trR at e
  match args with
  | [] => cases e; exact (hn rfl).elim
  | [x] =>
    simp only at e
    split at e
    · rename_i hx
      cases e
      exact prg1 hg hm (hf x) (star_ns hx)
    · cases e; exact (hn rfl).elim
  | [x, y] =>
    simp only at e
    split at e
    · rename_i hx
      rw [Bool.and_eq_true] at hx
      cases e
      exact prg2 hg hm (hf x) (hf y) (star_ns hx.1) (star_ns hx.2) (any_ns (noStar_all1 hx.2))
    · cases e; exact (hn rfl).elim
  | _ :: _ :: _ :: _ => cases e; exact (hn rfl).elim
theorem e_lrng_nil {e : Expr} : PE X e (rdE c Wx T (.lrng .nil)) := ⟨fun pins s σ H Q I ⟨F, P, env, S, q⟩ => by
  rw [ev, ev] at q
  exact False.elim q⟩
theorem e_tlrng_nil {e : Expr} : PE X e (rdE c Wx T (.bi .tuple (.cons (.lrng .nil) .nil))) := ⟨fun pins s σ H Q I ⟨F, P, env, S, q⟩ => by
  rw [ev, ev_one, ev, ev] at q
  exact False.elim q⟩
/-! ### calls by name -/
theorem e_biAll (k : OkX c T s l X g Wx) (hf : ∀ e, PE X e (rdE c Wx T (f e))) {x : Str} {b : BI} {p pos : Pos} {args : List Expr} (hp : plainName x = true) (hg : Gl X x) (hm : X.mg x = none) (hb : biTab.lookup x = some b) (hn : args ≠ []) :
    PE X (.Call (.Name x p) args [] pos) (rdE c Wx T (orNever (args.all noStar) (.bi b (trL f args)))) := by
  refine e_orN fun hs => ?_
  obtain ⟨p1, p2, p3⟩ := plain_ok hp
  have hv : bootBuiltins x = some (biF b) := bi_boot _ (lookup_mem hb)
  cases args with
  | nil => exact (hn rfl).elim
  | cons e es =>
    have h1 := hs
    rw [List.all_cons, Bool.and_eq_true] at h1
    exact e_bi k.K k.G k.calm k.units hg hm hv p3 p1 (a_tr k.K hf (e :: es)) (star_ns h1.1) (any_ns h1.2)
theorem e_trF (k : OkX c T s l X g Wx) (hf : ∀ e, PE X e (rdE c Wx T (f e))) {x : Str} {p pos : Pos} {args : List Expr} : PE X (.Call (.Name x p) args [] pos) (rdE c Wx T (trF s g f x args)) := by
  unfold trF
  split
  · rename_i h0
    rw [Bool.and_eq_true] at h0
    obtain ⟨p1, p2, p3⟩ := plain_ok h0.1
    have hg := k.gl h0.2
    cases hl : s.fns.lookup x with
    | some jk =>
      obtain ⟨j, n⟩ := jk
      simp only
      refine e_orN fun hs => ?_
      rw [Bool.and_eq_true] at hs
      obtain ⟨fa, fd, hm, hk, hb, _, Fn⟩ := k.fns x j n hl
      cases args with
      | nil => exact e_call0 Fn k.room hg hm hk hb k.tk p1
      | cons e es =>
        have h1 := hs.1
        rw [List.all_cons, Bool.and_eq_true] at h1
        exact e_call Fn k.room hg hm hk hb k.tk (a_tr k.K hf (e :: es)) p1 (star_ns h1.1) (any_ns h1.2)
    | none =>
      simp only
      split
      · rename_i hbl
        have hm := k.blt x hbl
        split
        · rename_i hx
          subst hx
          split
          · rename_i a y p2'
            split
            · rename_i t ht
              refine e_orN fun hs => ?_
              simp only [Bool.and_eq_true] at hs
              obtain ⟨⟨⟨h1, h2⟩, h3⟩, h4⟩ := hs
              obtain ⟨q1, q2, q3⟩ := plain_ok h2
              obtain ⟨hv, ht'⟩ := ty_boot _ (lookup_mem ht)
              exact e_isi k.K hg hm (k.gl h3) (k.blt y h4) hv ht' q3 q1 (hf a) (star_ns h1) rfl rfl
            · exact e_never
          · exact e_never
        · cases hb : biTab.lookup x with
          | none => exact e_never
          | some b =>
            simp only
            split
            · rename_i a pl
              refine e_orN fun hs => ?_
              have hx : x = "sum" := by
                have hmem := lookup_mem hb
                simp only [biTab, List.mem_cons, Prod.mk.injEq, List.not_mem_nil, or_false] at hmem
                rcases hmem with h | h | h | h | h | h | h | h | h | h | h | h <;> first | exact h.1 | (cases h.2)
              subst hx
              exact e_sumL k.K k.calm hg hm (hf a) (star_ns hs) rfl rfl
            · rename_i a
              have hx : x = "list" := by
                have hmem := lookup_mem hb
                simp only [biTab, List.mem_cons, Prod.mk.injEq, List.not_mem_nil, or_false] at hmem
                rcases hmem with h | h | h | h | h | h | h | h | h | h | h | h <;> first | exact h.1 | (cases h.2)
              subst hx
              split
              · rename_i hr
                split
                · rename_i es he
                  by_cases hn : es = .nil
                  · subst hn; exact e_lrng_nil
                  · refine e_lrng k.calm hg hm (r_tr k hf hr he hn) ?_
                    obtain ⟨_, _, _, rfl, _⟩ := isRange_ok k hr
                    rfl
                · exact e_never
              · refine e_orN fun hs => ?_
                have := e_biAll k hf (p := p) (pos := pos) (args := [a]) h0.1 hg hm hb (by simp)
                rw [show ([a] : List Expr).all noStar = true from noStar_all1 hs] at this
                have h1 : trL f [a] = .cons (f a) .nil := by cases a <;> first | rfl | cases hs
                rw [h1] at this
                exact this
            · rename_i a
              have hx : x = "tuple" := by
                have hmem := lookup_mem hb
                simp only [biTab, List.mem_cons, Prod.mk.injEq, List.not_mem_nil, or_false] at hmem
                rcases hmem with h | h | h | h | h | h | h | h | h | h | h | h <;> first | exact h.1 | (cases h.2)
              subst hx
              split
              · rename_i hr
                split
                · rename_i es he
                  by_cases hn : es = .nil
                  · subst hn; exact e_tlrng_nil
                  · refine e_tupRg k.calm hg hm (r_tr k hf hr he hn) ?_
                    obtain ⟨_, _, _, rfl, _⟩ := isRange_ok k hr
                    rfl
                · exact e_never
              · refine e_orN fun hs => ?_
                have := e_biAll k hf (p := p) (pos := pos) (args := [a]) h0.1 hg hm hb (by simp)
                rw [show ([a] : List Expr).all noStar = true from noStar_all1 hs] at this
                have h1 : trL f [a] = .cons (f a) .nil := by cases a <;> first | rfl | cases hs
                rw [h1] at this
                exact this
            · exact e_never
            · rename_i hnil
              refine e_biAll k hf h0.1 hg hm hb ?_
              rintro rfl
              simp_all
      · exact e_never
  · split
    · rename_i h0
      rw [Bool.and_eq_true] at h0
      obtain ⟨p1, p2, p3⟩ := plain_ok h0.1
      split
      · rename_i i e es hs
        refine e_orN fun hn => ?_
        have h1 := hn
        rw [List.all_cons, Bool.and_eq_true] at h1
        exact e_callv k.fnv k.room (by rw [k.N]; exact slot_ok hs) (vis_ok k h0.2) k.tk (a_tr k.K hf (e :: es)) p1 p2 (star_ns h1.1) (any_ns h1.2)
      · exact e_never
    · exact e_never
end
end Ev
end

section
set_option Elab.async false
set_option linter.all false
set_option autoImplicit true
set_option maxRecDepth 100000
set_option maxHeartbeats 4000000
/-! EwG: the rule of a call with keywords. -/
namespace Ev
open PySem PySem.Spec PyProof.Rows L2
section
variable {c : Cfg} {Wx Wy : WX} {T : Tb} {X : Cx} {σ : L2.St} {F F1 F2 F3 H H1 H2 H3 F' H' Fx Fy : Hp} {P P1 P2 P3 Pt Pn Pi Pw Pr : Addr → Prop} {env0 env1 env3 env' : Env} {rs : List R} {vs : List V} {i : Nat} {f : Expr → E}
theorem rd_cons {a b : E} {Q : List V → Hp → Prop} (q : rdA c Wx T (.cons a b) σ H Q) : tCons (rdE c Wx T a) (rdA c Wx T b) σ H Q := by
  obtain ⟨F, P, env, S, q⟩ := q
  rw [ev] at q
  refine ⟨F, P, env, S, Aft.fst q S fun rs env1 vs F1 H1 P1 Pt _ t s q => ?_⟩
  obtain ⟨r, rfl, q⟩ := q.sole
  obtain ⟨v, rfl, hr⟩ := t.rr.one
  refine ⟨v, rfl, ?_⟩
  obtain ⟨r', env2, F2, P2, hd, t, s, q⟩ := q.settle t s
  refine ⟨F2, P2, env2, t.sr, Aft.seq q t (by simpa using hd) s fun rs2 env3 vs2 F3 H3 P3 Pt3 _ t t2 s q => ?_⟩
  exact q _ F3 H3 P3 _ t s
theorem k_tr (hf : ∀ e, PE X e (rdE c Wx T (f e))) : ∀ kws : List Keyword, PK X kws (rdA c Wx T (trK f kws))
  | [] => ⟨fun pos pins s σ H Q I ⟨F, P, env, S, q⟩ => pk_nil.run pos pins s σ H Q I (by
      rw [show trK f [] = E.nil from rfl, ev] at q
      exact q [] F H P _ (Tm.nil S) (nilStep S))⟩
  | ⟨nm, e, p⟩ :: ks => ⟨fun pos pins s σ H Q I q => (pk_cons (nm := nm) (kpos := p) (hf e) (k_tr hf ks)).run pos pins s σ H Q I (rd_cons q)⟩
theorem kw_all {pos : Pos} {env : PySem.Env} : ∀ {kws : List Keyword}, kws.all (fun k => k.arg.isSome) = true → (backToKw pos (keywordEach kws env)).all (·.1.isSome) = true ∧ (backToKw pos (keywordEach kws env)).any (·.1.isNone) = false ∧ (backToKw pos (keywordEach kws env)).filterMap (·.1) = kws.filterMap (·.arg)
  | [], _ => ⟨rfl, rfl, rfl⟩
  | ⟨nm, e, p⟩ :: ks, h => by
    rw [List.all_cons, Bool.and_eq_true] at h
    obtain ⟨h1, h2, h3⟩ := kw_all (pos := pos) (env := env) h.2
    cases nm with
    | none => cases h.1
    | some nm =>
      refine ⟨?_, ?_, ?_⟩
      · show (true && (backToKw pos (keywordEach ks env)).all (·.1.isSome)) = true
        rw [h1]; rfl
      · show (false || (backToKw pos (keywordEach ks env)).any (·.1.isNone)) = false
        rw [h2]; rfl
      · show nm :: (backToKw pos (keywordEach ks env)).filterMap (·.1) = nm :: ks.filterMap (·.arg)
        rw [h3]
theorem trL_isA : ∀ es : List Expr, (trL f es).isA = true
  | [] => rfl
  | e :: es => by
    have := trL_isA es
    cases e <;> exact this
/-- as many answers as the list has parts -/
def E.len : E → Nat
  | .cons _ r => r.len + 1
  | _ => 0
def E.isC : E → Bool
  | .nil => true
  | .cons _ r => r.isC
  | _ => false
theorem ev_len : ∀ {a : E} {env env' : Env} {rs : List R}, a.isC = true → ev T a env = some (.ok rs, env') → rs.length = a.len
  | .nil, env, env', rs, _, h => by rw [ev] at h; cases h; rfl
  | .cons a r, env, env', rs, ha, h => by
    rw [ev] at h
    obtain ⟨xs, e1, h1, h⟩ := bnd_ok h
    obtain ⟨x, e2, h2, h⟩ := bnd_ok h
    obtain ⟨x', e3, h3, h⟩ := bnd_ok h
    obtain ⟨ys, e4, h4, h⟩ := bnd_ok h
    cases h
    show ys.length + 1 = r.len + 1
    rw [ev_len (a := r) ha h4]
theorem trL_isC : ∀ {es : List Expr}, es.all noStar = true → (trL f es).isC = true ∧ (trL f es).len = es.length
  | [], _ => ⟨rfl, rfl⟩
  | e :: es, h => by
    rw [List.all_cons, Bool.and_eq_true] at h
    obtain ⟨h1, h2⟩ := trL_isC h.2
    have e1 : trL f (e :: es) = .cons (f e) (trL f es) := by
      have := h.1
      cases e <;> first | rfl | cases this
    rw [e1]
    exact ⟨h1, by show (trL f es).len + 1 = es.length + 1; rw [h2]⟩
theorem trK_isC : ∀ {ks : List Keyword}, (trK f ks).isC = true ∧ (trK f ks).len = ks.length
  | [] => ⟨rfl, rfl⟩
  | k :: ks => by
    obtain ⟨h1, h2⟩ := trK_isC (ks := ks)
    exact ⟨h1, by show (trK f ks).len + 1 = ks.length + 1; rw [h2]⟩
theorem rd_len {a : E} {Q : List V → Hp → Prop} (h : a.isC = true) (q : rdA c Wx T a σ H Q) : rdA c Wx T a σ H fun vs H1 => vs.length = a.len ∧ Q vs H1 := by
  obtain ⟨F, P, env, S, q⟩ := q
  refine ⟨F, P, env, S, ?_⟩
  cases e : ev T a env with
  | none => rw [e] at q; exact q
  | some pr =>
    obtain ⟨pr, env1⟩ := pr
    rw [e] at q
    cases pr with
    | ex x => exact q
    | ok rs => exact fun vs F' H' P' Pt t s => ⟨by rw [← t.rr.length, ev_len h e], q vs F' H' P' Pt t s⟩
theorem rdA_mono {a : E} {Q Q' : List V → Hp → Prop} (h : ∀ vs H, Q vs H → Q' vs H) (q : rdA c Wx T a σ H Q) : rdA c Wx T a σ H Q' := by
  obtain ⟨F, P, env, S, q⟩ := q
  exact ⟨F, P, env, S, AftG.from_ q (Step.refl F H P) fun rs env1 k vs F1 H1 P1 Pt t s => h _ _ (k vs F1 H1 P1 Pt t s)⟩
/-- f(e, .., k = v, ..), whatever stands ahead -/
theorem e_callk {kk : Nat} {fa : Addr} {fd : FuncData} {ps ks : List Str} {n : Nat} {x : Str} {p pos : Pos} {args : List Expr} {kws : List Keyword} (hK : c.K = X.K) (Fn : FnOk X.prog X.w X.K X.mg X.base (L2.CX X.prog X.w) kk fa fd ps (spF c (T.call n))) (hr : Room kk X.A) (hg : Gl X x) (hm : X.mg x = some (.ref fa)) (hk : PySem.W.keepIn X.K (.ref fa) = true)
    (hb : ∀ (s : Shared) (us ws : List Value), us.length = args.length → ws.length = ks.length → BindsTo s fd ⟨us, ks.zip ws⟩ (ps.zip (inOrd (permOf ps ks args.length) (us ++ ws)))) (tk : Takes X Wx) (hf : ∀ e, PE X e (rdE c Wx T (f e)))
    (hs : args.all noStar = true) (ha : kws.all (fun k => k.arg.isSome) = true) (hks : kws.filterMap (·.arg) = ks) (hkl : ks.length = kws.length) (hdb : (x == ("__debug__" : Str)) = false) (nd : (permOf ps ks args.length).Nodup) :
    PE X (.Call (.Name x p) args kws pos) (rdE c Wx T (.callk n (permOf ps ks args.length) ((trL f args).app (trK f kws)))) := by
  refine ⟨fun pins s σ H Q I q => ?_⟩
  have q := rd_len (trL_isC hs).1 (rdA_mono (fun vs H1 q => rd_len trK_isC.1 q) (rd_app (trL_isA args) (rd_callk nd q)))
  rw [(trL_isC hs).2, trK_isC.2] at q
  refine wpAny_Call_Name_kw (ld_glob I hg hm ?_ hdb)
  obtain ⟨k1, k2, k3⟩ := kw_all (pos := pos) (env := X.env) ha
  have fin : ∀ {us ws : List Value} {vs zs : List V} {H2 : Hp} {s2 : Shared}, Inv X pins σ H2 s2 → Vals vs us → Vals zs ws → vs.length = args.length → zs.length = kws.length → spF c (T.call n) ((permOf ps ks args.length).filterMap fun j => (vs ++ zs)[j]?) H2 Q (WE Wx σ) →
      wpAny (model X.prog X.w) X.A (call (.ref fa) us (ks.zip ws)) (EP X pins σ Q) X.xe s2 := fun {us ws vs zs H2 s2} I2 r rz l1 l2 q2 => by
    refine wpAny_call (codeAny_mono (Fn.run X.A X.stack s2 H2 ⟨us, ks.zip ws⟩ (inOrd (permOf ps ks args.length) (us ++ ws)) (inOrd (permOf ps ks args.length) (vs ++ zs)) Q (WE Wx σ) hr I2.env0 (hb s2 us ws (by rw [← r.length]; exact l1) (by rw [← rz.length, hkl]; exact l2)) (inOrd_vals (r.append rz)) q2) fun r s' hq => ?_)
    cases r with
    | error e => exact passAt tk σ pins H2 s2 e s' I2 hq
    | ok fl =>
      cases fl with
      | ret u => exact I2.after hq
      | next => exact False.elim hq
      | brk => exact False.elim hq
      | cont => exact False.elim hq
  cases args with
  | nil =>
    obtain ⟨F, P, env, S, q⟩ := q
    rw [show trL f [] = E.nil from rfl, ev] at q
    obtain ⟨_, q⟩ := q [] F H P _ (Tm.nil S) (nilStep S)
    refine PySem.W.callWith_KW0 (h₀ := X.base) I.ok.mod.kin hk k1 (thn ((k_tr hf kws).run pos pins s σ H _ I q) fun ws s2 ⟨zs, H2, I2, rz, l2, q2⟩ => ⟨I2.kIn, ?_⟩) (by rw [k2]; rfl)
    rw [k3, hks]
    exact fin (us := []) (vs := []) I2 .nil rz rfl l2 q2
  | cons e es =>
    have h5 := hs
    rw [List.all_cons, Bool.and_eq_true] at h5
    refine PySem.W.callWith_KW (h₀ := X.base) I.ok.mod.kin hk k1 (thn ((a_tr hK hf (e :: es)).run pos pins s σ H _ I q) fun us s1 ⟨vs, H1, I1, r, l1, q1⟩ => ?_) (by rw [k2, any_ns hs]; rfl) (star_ns h5.1)
    refine thn ((k_tr hf kws).run pos pins s1 σ H1 _ I1 q1) fun ws s2 ⟨zs, H2, I2, rz, l2, q2⟩ => ⟨I2.kIn, ?_⟩
    rw [k3, hks]
    exact fin I2 r rz l1 l2 q2
theorem e_trKw {s : St} {l : Nat} {g : Gc} (k : OkX c T s l X g Wx) (hf : ∀ e, PE X e (rdE c Wx T (f e))) {x : Str} {p pos : Pos} {args : List Expr} {kws : List Keyword} : PE X (.Call (.Name x p) args kws pos) (rdE c Wx T (trKw s g f x args kws)) := by
  unfold trKw
  cases hl : s.fns.lookup x with
  | none => exact e_never
  | some jp =>
    obtain ⟨j, ps⟩ := jp
    simp only
    refine e_orN fun h => ?_
    simp only [Bool.and_eq_true, decide_eq_true_eq] at h
    obtain ⟨⟨⟨⟨⟨h1, h2⟩, h3⟩, h4⟩, h5⟩, h6⟩ := h
    obtain ⟨fa, fd, hm, hk, _, hb, Fn⟩ := k.fns x j ps hl
    have hlen : ∀ {kws : List Keyword}, kws.all (fun k => k.arg.isSome) = true → (kws.filterMap (·.arg)).length = kws.length := by
      intro kws
      induction kws with
      | nil => intro _; rfl
      | cons k ks ih =>
        intro h
        rw [List.all_cons, Bool.and_eq_true] at h
        obtain ⟨a, ha⟩ := Option.isSome_iff_exists.mp h.1
        rw [List.filterMap_cons, ha]
        show (ks.filterMap (·.arg)).length + 1 = ks.length + 1
        rw [ih h.2]
    exact e_callk k.K Fn k.room (k.gl h2) hm hk (hb _ _ h5) k.tk hf h3 h4 rfl (hlen h4) (plain_ok h1).1 h6
end
end Ev
end

section
set_option Elab.async false
set_option linter.all false
set_option autoImplicit true
set_option maxRecDepth 100000
set_option maxHeartbeats 4000000
/-! EvZ: the translator of expressions is right: targets, walks, all. -/
namespace Ev
open PySem PySem.Spec PyProof.Rows L2
section
variable {c : Cfg} {Wx Wy : WX} {T : Tb} {X : Cx} {s : St} {l : Nat} {g : Gc} {f t : Expr → E} {env : PySem.Env} {tg : Expr}
theorem g_orN {b : Bool} {e : Expr} {e' : E} (h : b = true → PG X e (rdG c T e')) : PG X e (rdG c T (orNever b e')) := by
  cases b with
  | true => exact h rfl
  | false => exact g_never
theorem stores_ok (k : OkX c T s l X g Wx) {x : Str} (h : g.stores x = true) : Loc X.env.scope x ∧ (X.fn x = true ∨ X.env.scope.names.lookup x = some .local) := by
  rw [k.sc]
  have kf := k.fn
  unfold Gc.stores Gc.kind at h
  simp only [Bool.or_eq_true, Bool.and_eq_true] at h
  rcases h with h | ⟨h, h2⟩
  · have := eq_of_beq h
    exact ⟨.inl this, .inr this⟩
  · refine ⟨.inr (eq_of_beq h), .inl ?_⟩
    cases hb : g.blk with
    | none => rw [hb] at kf; exact kf x
    | some sp => rw [hb] at kf h2; exact kf x (eq_of_beq h2)
theorem asg_each_len {env : PySem.Env} : ∀ {es : List Expr}, (assignEach es env).length = es.length
  | [] => rfl
  | e :: es => by
    have := asg_each_len (env := env) (es := es)
    cases e <;> (show (assignEach es env).length + 1 = es.length + 1; rw [this])
theorem asg_each_star {env : PySem.Env} : ∀ {es : List Expr}, es.all noStar = true → (assignEach es env).findIdx? (·.1) = none
  | [], _ => rfl
  | e :: es, h => by
    rw [List.all_cons, Bool.and_eq_true] at h
    have ih := asg_each_star (env := env) h.2
    have e1 : assignEach (e :: es) env = (false, assign e env) :: assignEach es env := by
      have := h.1
      cases e <;> first | rfl | cases this
    rw [e1, List.findIdx?_cons, ih]
    rfl
theorem asg_each_map {env : PySem.Env} {e : Expr} {es : List Expr} (h : noStar e = true) : (assignEach (e :: es) env).map (·.2) = assign e env :: (assignEach es env).map (·.2) := by
  cases e <;> first | rfl | cases h
theorem fold_L {f : Expr → E} : ∀ es : List Expr, (es.foldr (fun e t => E.cons (f e) t) E.nil).isL = true ∧ (es.foldr (fun e t => E.cons (f e) t) E.nil).count = es.length
  | [] => ⟨rfl, rfl⟩
  | e :: es => ⟨(fold_L es).1, by show E.count (List.foldr (fun e t => E.cons (f e) t) E.nil es) + 1 = es.length + 1; rw [(fold_L es).2]⟩
theorem g_tr (k : OkX c T s l X g Wx) (hf : ∀ e, PE X e (rdE c Wx T (f e))) : ∀ (n : Nat) (e : Expr), PG X e (rdG c T (trG g f n e))
  | 0, e => by unfold trG; exact g_never
  | n + 1, e => by
    cases e with
    | Name x pos =>
      unfold trG
      cases hs : slotIn g.N x with
      | none => exact g_never
      | some i =>
        simp only
        refine g_orN fun h => ?_
        obtain ⟨h1, h2⟩ := stores_ok k h
        exact g_name (by rw [k.N]; exact k.nd) (by rw [k.N]; exact slot_ok hs) h1 h2
    | Tuple es kk pos =>
      unfold trG
      refine g_orN fun h => ?_
      obtain ⟨hL, hC⟩ := fold_L (f := trG g f n) es
      refine g_tup k.K k.calm ?_ asg_each_len (asg_each_star h) (fun rs env env' ha => by rw [asg_len hL ha, hC])
      have all : ∀ es : List Expr, es.all noStar = true → PGs X es (rdGs c T (es.foldr (fun e t => E.cons (trG g f n e) t) E.nil)) := by
        intro es
        induction es with
        | nil => intro _; exact gs_nil
        | cons e es ih =>
          intro h
          rw [List.all_cons, Bool.and_eq_true] at h
          exact gs_cons (g_tr k hf n e) (ih h.2) (asg_each_map h.1)
      exact all es h
    | Subscript o i pos =>
      unfold trG
      refine g_orN fun h => g_idx k.K k.G k.units (hf o) (hf i) fun v => ?_
      cases i <;> first | rfl | cases h
    | _ => unfold trG; exact g_never
/-! ### walks -/
theorem i_orN {b : Bool} {iter : Expr} {e' : E} (h : b = true → PI X tg iter (rdI c Wx T e')) : PI X tg iter (rdI c Wx T (orNever b e')) := by
  cases b with
  | true => exact h rfl
  | false => exact i_never
theorem i_gen (k : OkX c T s l X g Wx) (hf : ∀ e, PE X e (rdE c Wx T (f e))) {iter : Expr} : PI X tg iter (rdI c Wx T (orNever (!(f iter).isIt) (f iter))) :=
  i_orN fun h => i_any k.K (by simpa using h) (hf iter)
theorem base_ok {o : Expr} {m : Str} {whole : Sem Value} (h : baseOk o = true) : attributeBase o m env whole = whole := by
  cases o <;> first | rfl | cases h
theorem isTupE_ok (h : isTupE tg = true) : ∃ es k p, tg = .Tuple es k p := by
  cases tg <;> first | exact ⟨_, _, _, rfl⟩ | cases h
theorem i_tr (k : OkX c T s l X g Wx) (hf : ∀ e, PE X e (rdE c Wx T (f e))) (iter : Expr) : PI X tg iter (rdI c Wx T (trI s g f tg iter)) := by
  unfold trI
  simp only
  split
  · rename_i x p args pos
    split
    · rename_i h
      simp only [Bool.and_eq_true, decide_eq_true_eq] at h
      obtain ⟨⟨rfl, h2⟩, h3⟩ := h
      have hg := k.gl h2
      have hm := k.blt _ h3
      match args with
      | [] => exact i_never
      | [a] =>
        show PI X tg _ (rdI c Wx T (if noStar a = true then .rng (.cons (f a) .nil) else neverE))
        split
        · rename_i ha
          exact i_rng1 hg hm (a_cons (hf a) a_nil (star_ns ha)) (star_ns ha)
        · exact i_never
      | [a, b] =>
        show PI X tg _ (rdI c Wx T (if (noStar a && noStar b) = true then .rng (.cons (f a) (.cons (f b) .nil)) else neverE))
        split
        · rename_i hab
          rw [Bool.and_eq_true] at hab
          exact i_rng2 hg hm (a_cons (hf a) (a_cons (hf b) a_nil (star_ns hab.2)) (star_ns hab.1)) (by rw [star_ns hab.1, star_ns hab.2]; rfl) (star_ns hab.2)
        · exact i_never
      | _ :: _ :: _ :: _ => exact i_never
    · split
      · rename_i h
        simp only [Bool.and_eq_true, decide_eq_true_eq] at h
        obtain ⟨⟨⟨rfl, h2⟩, h3⟩, h4⟩ := h
        obtain ⟨es, kk, tp, rfl⟩ := isTupE_ok h4
        split
        · rename_i a
          refine i_orN fun ha => ?_
          exact i_enum k.K (k.gl h2) (k.blt _ h3) (hf a) (star_ns ha) rfl
        · exact i_never
      · split
        · rename_i h
          simp only [Bool.and_eq_true, decide_eq_true_eq] at h
          obtain ⟨⟨⟨rfl, h2⟩, h3⟩, h4⟩ := h
          obtain ⟨es, kk, tp, rfl⟩ := isTupE_ok h4
          split
          · rename_i a b
            refine i_orN fun hab => ?_
            rw [Bool.and_eq_true] at hab
            exact i_zip k.K (k.gl h2) (k.blt _ h3) (hf a) (hf b) (star_ns hab.1) (star_ns hab.2) (any_ns (noStar_all1 hab.2))
          · exact i_never
        · exact i_gen k hf
  · rename_i o m apos cpos
    split
    · rename_i h
      simp only [Bool.and_eq_true, decide_eq_true_eq] at h
      obtain ⟨⟨⟨rfl, h2⟩, h3⟩, h4⟩ := h
      obtain ⟨es, kk, tp, rfl⟩ := isTupE_ok h2
      exact i_itms (hf o) (base_ok h3) h4
    · exact i_gen k hf
  · exact i_gen k hf
theorem c_tr (ht : ∀ e, PT X e (rdT c Wx T (t e))) : ∀ ifs : List Expr, PTs X ifs (rdC c Wx T (trC t ifs))
  | [] => pts_nil
  | [e] => by
    show PTs X [e] (rdC c Wx T (if (t e).isNil = true then neverE else t e))
    split
    · refine ⟨fun pins s σ H Q I q => ?_⟩
      have q : rdT c Wx T neverE σ H Q := q
      obtain ⟨F, P, env, S, q⟩ := q
      rw [neverE, ev] at q
      exact False.elim q
    · rename_i hn
      have e1 : rdC c Wx T (t e) = rdT c Wx T (t e) := by unfold rdC; rw [if_neg hn]
      rw [e1]
      exact pts_one (ht e)
  | e :: e2 :: r => by
    refine ⟨fun pins s σ H Q I q => ?_⟩
    have q : rdT c Wx T neverE σ H Q := q
    obtain ⟨F, P, env, S, q⟩ := q
    rw [neverE, ev] at q
    exact False.elim q
theorem fold_set {iter : Expr} (h : noSet iter = true) (env : PySem.Env) (x : Value) : foldedSetIterable iter env x = pure x := by
  cases iter <;> first | rfl | cases h
theorem t_never {e : Expr} : PT X e (rdT c Wx T neverE) := ⟨fun pins s σ H Q I ⟨F, P, env, S, q⟩ => by
  rw [neverE, ev] at q; exact False.elim q⟩
theorem within_ok {a b : List Nat} (h : within a b = true) : ∀ i ∈ a, i ∈ b := fun i hi => by
  have := List.all_eq_true.mp h i hi
  exact List.contains_iff_mem.mp this
/-- a value read as a test -/
theorem both_ok (hK : c.K = X.K) {e : Expr} {e' : E} (h : PE X e (rdE c Wx T e')) (he : ∀ whole, isTrue e X.env whole = (do let v ← whole; standAt e.pos; holding [v] (truthy v))) : PE X e (rdE c Wx T e') ∧ PT X e (rdT c Wx T e') := ⟨h, t_any hK h he⟩
theorem e_lcTr (k : OkX c T s l X g Wx) (hf : ∀ e, PE X e (rdE c Wx T (f e))) {f' t' : Expr → E} {scope : Scope}
    (hf' : ∀ (s' : Shared) (H : Hp) (C : Addr) (cl : List (Str × Addr)) (fp : List Addr) (e : Expr), PE (X.blk s' H scope (compEnvC scope cl C X.env) fp) e (rdE c (fun _ _ _ _ => False) T (f' e)))
    (ht' : ∀ (s' : Shared) (H : Hp) (C : Addr) (cl : List (Str × Addr)) (fp : List Addr) (e : Expr), PT (X.blk s' H scope (compEnvC scope cl C X.env) fp) e (rdT c (fun _ _ _ _ => False) T (t' e)))
    {elt tg it : Expr} {ifs : List Expr} {pos : Pos} (h : (L2.blkC g.N g.sc scope (ownOf g.N scope) && within (trG (g.inner scope) f' 5 tg).names ((ownOf g.N scope).map (·.2)) && noSet it) = true) :
    PE X (.ListComp elt [⟨tg, it, ifs, 0⟩] scope pos) (rdE c Wx T (.lc ((ownOf g.N scope).map (·.2)) (trG (g.inner scope) f' 5 tg) (trI s g f tg it) (trC t' ifs) (f' elt))) := by
  simp only [Bool.and_eq_true] at h
  obtain ⟨⟨h1, h2⟩, h3⟩ := h
  refine e_lc (Wy := fun _ _ _ _ => False) k.calm (by rw [k.N]; exact k.nd) (i_tr k hf it) (by rw [k.N, k.sc]; exact blkOk_by h1) (within_ok h2) (fun s' H C cl fp => g_tr k.inner (hf' s' H C cl fp) 5 tg) (fun s' H C cl fp => c_tr (ht' s' H C cl fp) ifs) (fun s' H C cl fp => hf' s' H C cl fp elt) (fold_set h3 _)
theorem e_dcTr (k : OkX c T s l X g Wx) (hf : ∀ e, PE X e (rdE c Wx T (f e))) {f' t' : Expr → E} {scope : Scope}
    (hf' : ∀ (s' : Shared) (H : Hp) (C : Addr) (cl : List (Str × Addr)) (fp : List Addr) (e : Expr), PE (X.blk s' H scope (compEnvC scope cl C X.env) fp) e (rdE c (fun _ _ _ _ => False) T (f' e)))
    (ht' : ∀ (s' : Shared) (H : Hp) (C : Addr) (cl : List (Str × Addr)) (fp : List Addr) (e : Expr), PT (X.blk s' H scope (compEnvC scope cl C X.env) fp) e (rdT c (fun _ _ _ _ => False) T (t' e)))
    {kx vx tg it : Expr} {ifs : List Expr} {pos : Pos} (h : (L2.blkC g.N g.sc scope (ownOf g.N scope) && within (trG (g.inner scope) f' 5 tg).names ((ownOf g.N scope).map (·.2)) && noSet it) = true) :
    PE X (.DictComp kx vx [⟨tg, it, ifs, 0⟩] scope pos) (rdE c Wx T (.dc ((ownOf g.N scope).map (·.2)) (trG (g.inner scope) f' 5 tg) (trI s g f tg it) (trC t' ifs) (f' kx) (f' vx))) := by
  simp only [Bool.and_eq_true] at h
  obtain ⟨⟨h1, h2⟩, h3⟩ := h
  exact e_dc (Wy := fun _ _ _ _ => False) k.K k.G k.units k.calm (by rw [k.N]; exact k.nd) (i_tr k hf it) (by rw [k.N, k.sc]; exact blkOk_by h1) (within_ok h2) (fold_set h3 _) (fun s' H C cl fp => g_tr k.inner (hf' s' H C cl fp) 5 tg) (fun s' H C cl fp => c_tr (ht' s' H C cl fp) ifs) (fun s' H C cl fp => hf' s' H C cl fp kx) (fun s' H C cl fp => hf' s' H C cl fp vx)
theorem e_lc2Tr (k : OkX c T s l X g Wx) (hf : ∀ e, PE X e (rdE c Wx T (f e))) {f' t' : Expr → E} {scope : Scope}
    (hf' : ∀ (s' : Shared) (H : Hp) (C : Addr) (cl : List (Str × Addr)) (fp : List Addr) (e : Expr), PE (X.blk s' H scope (compEnvC scope cl C X.env) fp) e (rdE c (fun _ _ _ _ => False) T (f' e)))
    (ht' : ∀ (s' : Shared) (H : Hp) (C : Addr) (cl : List (Str × Addr)) (fp : List Addr) (e : Expr), PT (X.blk s' H scope (compEnvC scope cl C X.env) fp) e (rdT c (fun _ _ _ _ => False) T (t' e)))
    {elt tg it tg2 it2 : Expr} {ifs ifs2 : List Expr} {pos : Pos} (h : (L2.blkC g.N g.sc scope (ownOf g.N scope) && within (trG (g.inner scope) f' 5 tg).names ((ownOf g.N scope).map (·.2)) && within (trG (g.inner scope) f' 5 tg2).names ((ownOf g.N scope).map (·.2)) && noSet it && noSet it2) = true) :
    PE X (.ListComp elt [⟨tg, it, ifs, 0⟩, ⟨tg2, it2, ifs2, 0⟩] scope pos) (rdE c Wx T (.lc2 ((ownOf g.N scope).map (·.2)) (trG (g.inner scope) f' 5 tg2).names (trG (g.inner scope) f' 5 tg) (trI s g f tg it) (trC t' ifs) (trG (g.inner scope) f' 5 tg2) (trI s (g.inner scope) f' tg2 it2) (trC t' ifs2) (f' elt))) := by
  simp only [Bool.and_eq_true] at h
  obtain ⟨⟨⟨⟨h1, h2⟩, h3⟩, h4⟩, h5⟩ := h
  refine e_lc2 (Wy := fun _ _ _ _ => False) k.calm (by rw [k.N]; exact k.nd) (i_tr k hf it) (by rw [k.N, k.sc]; exact blkOk_by h1) (within_ok h3) (within_ok h2) (fun _ h => h) (fun s' H C cl fp => g_tr k.inner (hf' s' H C cl fp) 5 tg) (fun s' H C cl fp => c_tr (ht' s' H C cl fp) ifs)
    (fun s' H C cl fp => i_tr k.inner (hf' s' H C cl fp) it2) (fun s' H C cl fp => g_tr k.inner (hf' s' H C cl fp) 5 tg2) (fun s' H C cl fp => c_tr (ht' s' H C cl fp) ifs2) (fun s' H C cl fp => hf' s' H C cl fp elt) (fold_set h4 _) (fun env x => fold_set h5 env x)
end
end Ev
end

section
set_option Elab.async false
set_option linter.all false
set_option autoImplicit true
set_option maxRecDepth 100000
set_option maxHeartbeats 4000000
/-! EwA: the translator of expressions is right. -/
namespace Ev
open PySem PySem.Spec PyProof.Rows L2
section
variable {c : Cfg} {T : Tb} {s : St} {l : Nat}
theorem o_tr {X : Cx} {Wx : WX} {f : Expr → E} (hf : ∀ e, PE X e (rdE c Wx T (f e))) : ∀ o : Option Expr, PO X o (rdO c Wx T (trO f o))
  | none => o_none
  | some e => by
    show PO X (some e) (rdO c Wx T (if (f e).isNil = true then neverE else f e))
    by_cases h : (f e).isNil = true
    · rw [if_pos h]
      exact o_some (by intro h; cases h) e_never
    · rw [if_neg h]
      exact o_some (fun z => h (by rw [z]; rfl)) (hf e)
theorem mi_name : ∀ p ∈ miTab, p.1 = miName p.2 := by
  intro p hp
  simp only [miTab, List.mem_cons, List.not_mem_nil, or_false] at hp
  rcases hp with rfl | rfl | rfl | rfl | rfl <;> rfl
theorem e_methTr {X : Cx} {g : Gc} {Wx : WX} {f : Expr → E} (k : OkX c T s l X g Wx) (hf : ∀ e, PE X e (rdE c Wx T (f e))) {o : Expr} {m : Str} {apos cpos : Pos} {args : List Expr} : PE X (.Call (.Attribute o m apos) args [] cpos)
    (rdE c Wx T (match miTab.lookup m with
      | some mi => orNever (baseOk o && (apos.endLine == cpos.line) && args.all noStar && decide (args.length < 20)) (.meth mi (f o) (trL f args))
      | none => neverE)) := by
  cases hm : miTab.lookup m with
  | none => exact e_never
  | some mi =>
    simp only
    refine e_orN fun h => ?_
    simp only [Bool.and_eq_true, decide_eq_true_eq] at h
    obtain ⟨⟨⟨h1, h2⟩, h3⟩, h4⟩ := h
    have hn : m = miName mi := mi_name _ (lookup_mem hm)
    subst hn
    cases args with
    | nil => exact e_meth0 k.K k.G k.units (hf o) (base_ok h1) h2
    | cons e es =>
      have h5 := h3
      rw [List.all_cons, Bool.and_eq_true] at h5
      refine e_meth k.K k.G k.units (hf o) (a_tr k.K hf (e :: es)) (base_ok h1) ?_ h2 (star_ns h5.1) (any_ns h5.2)
      rw [all_ns h3]
      show (true && true && decide ((e :: es).length + 0 + 0 < 30)) = true
      have : (e :: es).length + 0 + 0 < 30 := by omega
      simp only [this, decide_true]
      rfl
theorem isRev_of {i : Expr} (h : isRev i = true) : ∃ k p1 p2 p3, i = .Slice none none (some (.UnaryOp .USub (.Constant (.int 1) k p1) p2)) p3 := by
  unfold isRev at h
  split at h
  · exact ⟨_, _, _, _, rfl⟩
  · cases h
theorem e_trSub {X : Cx} {g : Gc} {Wx : WX} {f : Expr → E} (k : OkX c T s l X g Wx) (hf : ∀ e, PE X e (rdE c Wx T (f e))) {a i : Expr} {pos : Pos} : PE X (.Subscript a i pos) (rdE c Wx T (trSub f a i)) := by
  unfold trSub
  by_cases hr : isRev i = true
  · rw [if_pos hr]
    obtain ⟨k', p1, p2, p3, rfl⟩ := isRev_of hr
    exact e_rev k.K (hf a)
  · rw [if_neg hr]
    clear hr
    cases i with
    | Slice lo hi st p =>
      cases st with
      | none => exact e_slc k.K (hf a) (o_tr hf lo) (o_tr hf hi)
      | some st => exact e_never
    | _ => exact e_idx k.K k.G k.units (fun o v => rfl) (hf a) (hf _)
def isBO : Expr → Bool
  | .BoolOp _ _ _ => true
  | _ => false
theorem noW {X : Cx} {e : Expr} {t : TT} (h : isBO e = false) : isBO e = true → PW X e t := fun z => by rw [h] at z; cases z
theorem w_never {X : Cx} {Wx : WX} {e : Expr} : PW X e (rdT c Wx T neverE) := ⟨fun wh pins s σ H Q I ⟨F, P, env, S, q⟩ => by
  rw [neverE, ev] at q; exact False.elim q⟩
theorem tr_ok : ∀ (n : Nat) (g : Gc) (X : Cx) (Wx : WX), OkX c T s l X g Wx → ∀ e, PE X e (rdE c Wx T (trE s n g e).1) ∧ PT X e (rdT c Wx T (trE s n g e).2) ∧ (isBO e = true → PW X e (rdT c Wx T (trE s n g e).2))
  | 0, g, X, Wx, k, e => by unfold trE; exact ⟨e_never, t_never, fun _ => w_never⟩
  | n + 1, g, X, Wx, k, e => by
    have hf : ∀ e, PE X e (rdE c Wx T (trE s n g e).1) := fun e => (tr_ok n g X Wx k e).1
    have ht : ∀ e, PT X e (rdT c Wx T (trE s n g e).2) := fun e => (tr_ok n g X Wx k e).2.1
    have hw : ∀ e, isBO e = true → PW X e (rdT c Wx T (trE s n g e).2) := fun e => (tr_ok n g X Wx k e).2.2
    have nv : ∀ {e : Expr}, PE X e (rdE c Wx T neverE) ∧ PT X e (rdT c Wx T neverE) ∧ (isBO e = true → PW X e (rdT c Wx T neverE)) := ⟨e_never, t_never, fun _ => w_never⟩
    have bo : ∀ {e : Expr} {e' : E}, isBO e = false → PE X e (rdE c Wx T e') → (∀ whole, isTrue e X.env whole = (do let v ← whole; standAt e.pos; holding [v] (truthy v))) → PE X e (rdE c Wx T e') ∧ PT X e (rdT c Wx T e') ∧ (isBO e = true → PW X e (rdT c Wx T e')) := fun hb h he => ⟨h, t_any k.K h he, noW hb⟩
    cases e with
    | Constant cst kk pos =>
      cases cst with
      | int i => simp only [trE]; exact bo rfl (e_dat pe_int (fun F => .int i) fun env => by rw [ev]; rfl) fun _ => rfl
      | bool b => simp only [trE]; exact bo rfl (e_dat pe_bl (fun F => .bl b) fun env => by rw [ev]; rfl) fun _ => rfl
      | str x => simp only [trE]; exact bo rfl (e_dat pe_str (fun F => .str x) fun env => by rw [ev]; rfl) fun _ => rfl
      | none => simp only [trE]; exact bo rfl (e_dat pe_non (fun F => .non) fun env => by rw [ev]; rfl) fun _ => rfl
      | _ => simp only [trE]; exact nv
    | Name x pos =>
      simp only [trE]
      split
      · rename_i hp
        obtain ⟨p1, p2, p3⟩ := plain_ok hp
        split
        · rename_i hv
          cases hs : slotIn g.N x with
          | none => exact nv
          | some i => exact bo rfl (e_var (pe_var (by rw [k.N]; exact slot_ok hs) (vis_ok k hv) p1 p2)) fun _ => rfl
        · split
          · rename_i hg
            rw [Bool.and_eq_true] at hg
            obtain ⟨v, u, d, e1, e2, e3, e4⟩ := k.glb x hg.2
            exact bo rfl (e_dat (pe_glob (k.gl hg.1) e2 e3 p1) e4 fun env => by rw [ev, e1]; rfl) fun _ => rfl
          · split
            · rename_i hg
              cases hl : s.fns.lookup x with
              | none => exact nv
              | some jk =>
                obtain ⟨j, ps⟩ := jk
                obtain ⟨f, e1, e2⟩ := k.fng x j ps hl
                exact bo rfl (e_dat (pe_glob (v := .ref f) (k.gl hg) e1 rfl p1) (fun F => .fn e2) fun env => by rw [ev]; rfl) fun _ => rfl
            · exact nv
      · exact nv
    | BinOp a op b pos => simp only [trE]; exact bo rfl (e_bin k.K (hf a) (hf b)) fun _ => rfl
    | UnaryOp op a pos =>
      cases op with
      | Not => simp only [trE]; exact ⟨e_not k.K (hf a), t_not (ht a), noW rfl⟩
      | _ => simp only [trE]; exact bo rfl (e_un (hf a)) fun _ => rfl
    | BoolOp op vs pos =>
      cases op with
      | And =>
        match vs with
        | [] => simp only [trE]; exact nv
        | [a] => simp only [trE]; exact ⟨pe_one (hf a), (pw_and1 (ht a)).pt, fun _ => pw_and1 (ht a)⟩
        | a :: b :: r =>
          simp only [trE]
          have w := t_and (pos := pos) (ht a) (hw (.BoolOp .And (b :: r) pos) rfl)
          exact ⟨e_and k.K (hf a) (hf _), w.pt, fun _ => w⟩
      | Or =>
        match vs with
        | [] => simp only [trE]; exact nv
        | [a] => simp only [trE]; exact ⟨pe_one (hf a), (pw_or1 (ht a)).pt, fun _ => pw_or1 (ht a)⟩
        | a :: b :: r =>
          simp only [trE]
          have w := t_or (pos := pos) (ht a) (hw (.BoolOp .Or (b :: r) pos) rfl)
          exact ⟨e_or k.K (hf a) (hf _), w.pt, fun _ => w⟩
    | IfExp t a b pos => simp only [trE]; exact ⟨e_ife (ht t) (hf a) (hf b), t_never, noW rfl⟩
    | Tuple es kk pos => simp only [trE]; exact bo rfl (e_tup (a_tr k.K hf es)) fun _ => rfl
    | List es pos => simp only [trE]; exact bo rfl (e_lst (a_tr k.K hf es)) fun _ => rfl
    | Compare a ops bs pos =>
      match ops, bs with
      | [o], [b] =>
        simp only [trE]
        cases hm : behindInMarks o b with
        | true => exact nv
        | false => exact ⟨e_cmp k.K k.G k.units hm (hf a) (hf b), t_cmp k.K k.G k.units hm (hf a) (hf b), noW rfl⟩
      | [o, o'], [b, z] =>
        simp only [trE]
        cases hm : lastMarks [o, o'] [b, z] with
        | true => exact nv
        | false => exact ⟨e_chn k.K k.G k.units hm (hf a) (hf b) (hf z), t_chn k.K k.G k.units hm (hf a) (hf b) (hf z), noW rfl⟩
      | [], _ => simp only [trE]; exact nv
      | [_], [] => simp only [trE]; exact nv
      | [_], _ :: _ :: _ => simp only [trE]; exact nv
      | [_, _], [] => simp only [trE]; exact nv
      | [_, _], [_] => simp only [trE]; exact nv
      | [_, _], _ :: _ :: _ :: _ => simp only [trE]; exact nv
      | _ :: _ :: _ :: _, _ => simp only [trE]; exact nv
    | Subscript a i pos => simp only [trE]; exact bo rfl (e_trSub k hf) fun _ => rfl
    | Call fn args kws pos =>
      cases kws with
      | cons k1 ks =>
        cases fn with
        | Name x p => simp only [trE]; exact bo rfl (e_trKw k hf) fun _ => rfl
        | _ => simp only [trE]; exact nv
      | nil =>
        cases fn with
        | Name x p => simp only [trE]; exact bo rfl (e_trF k hf) fun _ => rfl
        | Attribute o m apos => simp only [trE]; exact bo rfl (e_methTr k hf) fun _ => rfl
        | _ => simp only [trE]; exact nv
    | Dict ks vs pos =>
      match ks, vs with
      | [], [] => simp only [trE]; exact bo rfl e_dnew fun _ => rfl
      | [], _ :: _ => simp only [trE]; exact nv
      | _ :: _, _ => simp only [trE]; exact nv
    | ListComp elt gens scope pos =>
      have hf' : ∀ (s' : Shared) (H : Hp) (C : Addr) (cl : List (Str × Addr)) (fp : List Addr) (e : Expr), PE (X.blk s' H scope (compEnvC scope cl C X.env) fp) e (rdE c (fun _ _ _ _ => False) T (trE s n (g.inner scope) e).1) := fun s' H C cl fp e => (tr_ok n (g.inner scope) _ _ k.inner e).1
      have ht' : ∀ (s' : Shared) (H : Hp) (C : Addr) (cl : List (Str × Addr)) (fp : List Addr) (e : Expr), PT (X.blk s' H scope (compEnvC scope cl C X.env) fp) e (rdT c (fun _ _ _ _ => False) T (trE s n (g.inner scope) e).2) := fun s' H C cl fp e => (tr_ok n (g.inner scope) _ _ k.inner e).2.1
      match gens with
      | [] => simp only [trE]; exact nv
      | [⟨tg, it, ifs, a⟩] =>
        simp only [trE]
        generalize hb : (decide (a = 0) && L2.blkC g.N g.sc scope (ownOf g.N scope) && within (trG (g.inner scope) (fun e => (trE s n (g.inner scope) e).1) 5 tg).names ((ownOf g.N scope).map (·.2)) && noSet it) = b
        cases b with
        | false => exact nv
        | true =>
          rw [Bool.and_eq_true, Bool.and_eq_true, Bool.and_eq_true, decide_eq_true_eq] at hb
          obtain ⟨⟨⟨rfl, h1⟩, h2⟩, h3⟩ := hb
          exact bo rfl (e_lcTr k hf hf' ht' (by rw [h1, h2, h3]; rfl)) fun _ => rfl
      | [⟨tg, it, ifs, a⟩, ⟨tg2, it2, ifs2, a2⟩] =>
        simp only [trE]
        generalize hb : (decide (a = 0) && decide (a2 = 0) && L2.blkC g.N g.sc scope (ownOf g.N scope) && within (trG (g.inner scope) (fun e => (trE s n (g.inner scope) e).1) 5 tg).names ((ownOf g.N scope).map (·.2)) && within (trG (g.inner scope) (fun e => (trE s n (g.inner scope) e).1) 5 tg2).names ((ownOf g.N scope).map (·.2)) && noSet it && noSet it2) = b
        cases b with
        | false => exact nv
        | true =>
          simp only [Bool.and_eq_true, decide_eq_true_eq] at hb
          obtain ⟨⟨⟨⟨⟨⟨rfl, rfl⟩, h1⟩, h2⟩, h3⟩, h4⟩, h5⟩ := hb
          exact bo rfl (e_lc2Tr k hf hf' ht' (by rw [h1, h2, h3, h4, h5]; rfl)) fun _ => rfl
      | _ :: _ :: _ :: _ => simp only [trE]; exact nv
    | DictComp kx vx gens scope pos =>
      have hf' : ∀ (s' : Shared) (H : Hp) (C : Addr) (cl : List (Str × Addr)) (fp : List Addr) (e : Expr), PE (X.blk s' H scope (compEnvC scope cl C X.env) fp) e (rdE c (fun _ _ _ _ => False) T (trE s n (g.inner scope) e).1) := fun s' H C cl fp e => (tr_ok n (g.inner scope) _ _ k.inner e).1
      have ht' : ∀ (s' : Shared) (H : Hp) (C : Addr) (cl : List (Str × Addr)) (fp : List Addr) (e : Expr), PT (X.blk s' H scope (compEnvC scope cl C X.env) fp) e (rdT c (fun _ _ _ _ => False) T (trE s n (g.inner scope) e).2) := fun s' H C cl fp e => (tr_ok n (g.inner scope) _ _ k.inner e).2.1
      match gens with
      | [] => simp only [trE]; exact nv
      | [⟨tg, it, ifs, a⟩] =>
        simp only [trE]
        generalize hb : (decide (a = 0) && L2.blkC g.N g.sc scope (ownOf g.N scope) && within (trG (g.inner scope) (fun e => (trE s n (g.inner scope) e).1) 5 tg).names ((ownOf g.N scope).map (·.2)) && noSet it) = b
        cases b with
        | false => exact nv
        | true =>
          rw [Bool.and_eq_true, Bool.and_eq_true, Bool.and_eq_true, decide_eq_true_eq] at hb
          obtain ⟨⟨⟨rfl, h1⟩, h2⟩, h3⟩ := hb
          exact bo rfl (e_dcTr k hf hf' ht' (by rw [h1, h2, h3]; rfl)) fun _ => rfl
      | _ :: _ :: _ => simp only [trE]; exact nv
    | _ => simp only [trE]; exact nv
end
end Ev
end

section
set_option Elab.async false
set_option linter.all false
set_option autoImplicit true
set_option maxRecDepth 100000
set_option maxHeartbeats 4000000
/-! EwB: the translator of statements. -/
namespace Ev
open PySem PySem.Spec PyProof.Rows L2
def notComp : Expr → Bool
  | .ListComp _ _ _ _ => false
  | .SetComp _ _ _ _ => false
  | .DictComp _ _ _ _ _ => false
  | _ => true
def isNameE : Expr → Bool
  | .Name _ _ => true
  | _ => false
def isSeqE : Expr → Bool
  | .Tuple _ _ _ => true
  | .List _ _ => true
  | _ => false
def starred : Expr → Bool
  | .Starred .. => true
  | _ => false
def swN (sc : Scope) (ts : List Expr) : List Str := ts.filterMap fun
  | .Name id pos => if sc.names.lookup id == some .local && pos.line == (ts.head?.map (·.pos.line)).getD 0 then some id else none
  | _ => none
def swNone (sc : Scope) (ts vs : List Expr) : Bool := !(ts.length == 2 || ts.length == 3) || vs.length != ts.length || vs.any starred || (swN sc ts).length != ts.length || (swN sc ts).eraseDups.length != (swN sc ts).length || vs.all (foldedForSure 8)
def orNeverS (b : Bool) (s : S) : S := if b = true then s else neverS
def trSs (f : Stmt → S) : List Stmt → S
  | [] => .skip
  | s :: r => .seq (f s) (trSs f r)
/-- a statement's target -/
def trG2 (g : Gc) (f : Expr → E) : Expr → E
  | t => trG g f 5 t
/-- a comprehension's list is stored at once -/
def swapC (g : Gc) (y : Str) (py : Pos) : Expr → Bool
  | .ListComp _ _ scope pos => g.kind y == some .local && py.line == pos.line && !(scope.names.any fun (n, k) => n == y && (k == .local || k == .cell))
  | _ => false
def trS (s : St) (m : Nat) : Nat → Gc → Stmt → S
  | 0, _, _ => neverS
  | n + 1, g, st =>
    let f := fun e => (trE s m g e).1
    let t := fun e => (trE s m g e).2
    match st with
    | .Expr e _ => orNeverS (notComp e) (.expr (f e))
    | .Return (some e) _ => .ret (f e)
    | .Return none _ => .retN
    | .Pass _ => .skip
    | .Break _ => .brk
    | .Continue _ => .cnt
    | .If c a b _ => .ife (t c) (trSs (trS s m n g) a) (trSs (trS s m n g) b)
    | .While c b [] _ => .whl (t c) (trSs (trS s m n g) b)
    | .For tg it b [] _ => orNeverS (noSet it) (.for_ (trG g f 5 tg) (trI s g f tg it) (trSs (trS s m n g) b))
    | .Assign [tg] e _ => match tg, e with
      | .Name y py, .ListComp elt gens scope pos => if swapC g y py (.ListComp elt gens scope pos) = true then match slotIn g.N y with
          | some i => .asg (.var i) (f (.ListComp elt gens scope pos))
          | none => neverS
        else .asg (trG g f 5 (.Name y py)) (f (.ListComp elt gens scope pos))
      | .Tuple ts _ _, .Tuple vs _ _ =>
        if swNone g.sc ts vs = true then match ts, vs with
          | [.Name x _, .Name y _], [a, b] => match slotIn g.N x, slotIn g.N y with
            | some i, some j => orNeverS (g.stores x && g.stores y && decide (i ≠ j)) (.par (.cons (.var i) (.cons (.var j) .nil)) (trL f [a, b]))
            | _, _ => neverS
          | ts, _ => orNeverS (ts.all noStar) (.asg (trG g f 5 tg) (f e))
        else if vs.all (constantsAlone 8) = true then neverS
        else match ts, vs with
          | [.Name x _, .Name y _], [a, b] => match slotIn g.N x, slotIn g.N y with
            | some i, some j => orNeverS (decide (i ≠ j)) (.par (.cons (.var i) (.cons (.var j) .nil)) (trL f [a, b]))
            | _, _ => neverS
          | _, _ => neverS
      | tg, e => orNeverS ((notComp e || isTupE tg) && noStar tg && !(isSeqE tg && isSeqE e)) (.asg (trG2 g f tg) (f e))
    | _ => neverS
section
variable {c : Cfg} {T : Tb} {s : St} {l : Nat} {X : Cx} {g : Gc} {Wx : WX} {f : Expr → E}
theorem s_orN {b : Bool} {st : Stmt} {s' : S} (h : b = true → PS X st (rdS c Wx T s')) : PS X st (rdS c Wx T (orNeverS b s')) := by
  cases b with
  | true => exact h rfl
  | false => exact s_never
theorem swaps_no {e : Expr} (h : notComp e = true) (t : Option Expr) (line : Nat) (env : PySem.Env) : swapsWith e t line env = pure false := by
  cases e <;> first | rfl | cases h
theorem g2_tr (k : OkX c T s l X g Wx) (hf : ∀ e, PE X e (rdE c Wx T (f e))) (tg : Expr) : PG X tg (rdG c T (trG2 g f tg)) := g_tr k hf 5 tg
theorem block_fn {env : PySem.Env} (h : env.scope.kind = .function) : env.blockKind = .function := by
  unfold PySem.Env.blockKind; rw [h]; rfl
theorem sw_eq {env : PySem.Env} {ts vs : List Expr} {k k2 p p2} (hk : env.scope.kind = .function) : swappedStores [.Tuple ts k p] (.Tuple vs k2 p2) env =
    if (!(ts.length == 2 || ts.length == 3) || vs.length != ts.length) = true then pure none else
    if vs.any starred = true then pure none else
    if ((swN env.scope ts).length != ts.length || (swN env.scope ts).eraseDups.length != (swN env.scope ts).length) = true then pure none else
    if vs.all (foldedForSure 8) = true then pure none else
    if vs.all (constantsAlone 8) = true then (do unsupported "assign.tuple-of-constant-expressions:order-of-the-stores"; pure (some (swN env.scope ts))) else pure (some (swN env.scope ts)) := by
  have e1 : (fun e : Expr => match e with | .Starred .. => true | _ => false) = starred := by funext e; cases e <;> rfl
  have hb := block_fn hk
  unfold swappedStores
  simp only [hb]
  have e3 : ((ScopeKind.function) != ScopeKind.function) = false := by decide
  simp only [e3, Bool.or_false]
  rfl
theorem sw_none {env : PySem.Env} {ts vs : List Expr} {k k2 p p2} (hk : env.scope.kind = .function) (h : swNone env.scope ts vs = true) : swappedStores [.Tuple ts k p] (.Tuple vs k2 p2) env = pure none := by
  rw [sw_eq hk]
  unfold swNone at h
  simp only [Bool.or_eq_true] at h
  repeat' split
  all_goals first | rfl | (exfalso; simp_all)
theorem sw_some {env : PySem.Env} {ts vs : List Expr} {k k2 p p2} (hk : env.scope.kind = .function) (h : swNone env.scope ts vs = false) (h2 : vs.all (constantsAlone 8) = false) : swappedStores [.Tuple ts k p] (.Tuple vs k2 p2) env = pure (some (swN env.scope ts)) := by
  rw [sw_eq hk]
  unfold swNone at h
  simp only [Bool.or_eq_false_iff] at h
  obtain ⟨⟨⟨⟨⟨a1, a2⟩, a3⟩, a4⟩, a5⟩, a6⟩ := h
  rw [a1, a2, a3, a4, a5, a6, h2]
  rfl
theorem ss_tr {f : Stmt → S} (h : ∀ st, PS X st (rdS c Wx T (f st))) : ∀ sts : List Stmt, PSs X sts (rdS c Wx T (trSs f sts))
  | [] => ss_nil
  | st :: r => ss_cons (h st) (ss_tr h r)
theorem s_asgNever {st : Stmt} {t : E} : PS X st (rdS c Wx T (.asg t neverE)) := ⟨fun pins s σ H D I ⟨F, P, env, S, q⟩ => by
  rw [exec, neverE, ev] at q; exact False.elim q⟩
theorem s_lcTr (k : OkX c T s l X g Wx) (hkd : g.sc.kind = .function) (hf : ∀ e, PE X e (rdE c Wx T (f e))) {f' t' : Expr → E} {scope : Scope}
    (hf' : ∀ (s' : Shared) (H : Hp) (C : Addr) (cl : List (Str × Addr)) (fp : List Addr) (e : Expr), PE (X.blk s' H scope (compEnvC scope cl C X.env) fp) e (rdE c (fun _ _ _ _ => False) T (f' e)))
    (ht' : ∀ (s' : Shared) (H : Hp) (C : Addr) (cl : List (Str × Addr)) (fp : List Addr) (e : Expr), PT (X.blk s' H scope (compEnvC scope cl C X.env) fp) e (rdT c (fun _ _ _ _ => False) T (t' e)))
    {y : Str} {py : Pos} {i : Nat} {elt tg it : Expr} {ifs : List Expr} {pos spos : Pos} (hs : slotIn g.N y = some i) (hc : swapC g y py (.ListComp elt [⟨tg, it, ifs, 0⟩] scope pos) = true) (h : (L2.blkC g.N g.sc scope (ownOf g.N scope) && within (trG (g.inner scope) f' 5 tg).names ((ownOf g.N scope).map (·.2)) && noSet it) = true) :
    PS X (.Assign [.Name y py] (.ListComp elt [⟨tg, it, ifs, 0⟩] scope pos) spos) (rdS c Wx T (.asg (.var i) (.lc ((ownOf g.N scope).map (·.2)) (trG (g.inner scope) f' 5 tg) (trI s g f tg it) (trC t' ifs) (f' elt)))) := by
  simp only [Bool.and_eq_true] at h
  obtain ⟨⟨h1, h2⟩, h3⟩ := h
  unfold swapC Gc.kind at hc
  simp only [Bool.and_eq_true, Bool.not_eq_true'] at hc
  obtain ⟨⟨c1, c2⟩, c3⟩ := hc
  have hy : X.env.scope.names.lookup y = some .local := by rw [k.sc]; exact eq_of_beq c1
  exact s_setLc (Wy := fun _ _ _ _ => False) k.calm (by rw [k.N]; exact k.nd) (by rw [k.N]; exact slot_ok hs) hy (sw_true (by rw [k.sc]; exact hkd) hy c2 c3) (i_tr k hf it) (by rw [k.N, k.sc]; exact blkOk_by h1) (within_ok h2) (fun s' H C cl fp => g_tr k.inner (hf' s' H C cl fp) 5 tg) (fun s' H C cl fp => c_tr (ht' s' H C cl fp) ifs) (fun s' H C cl fp => hf' s' H C cl fp elt) (fold_set h3 _)
theorem s_lc2Tr (k : OkX c T s l X g Wx) (hkd : g.sc.kind = .function) (hf : ∀ e, PE X e (rdE c Wx T (f e))) {f' t' : Expr → E} {scope : Scope}
    (hf' : ∀ (s' : Shared) (H : Hp) (C : Addr) (cl : List (Str × Addr)) (fp : List Addr) (e : Expr), PE (X.blk s' H scope (compEnvC scope cl C X.env) fp) e (rdE c (fun _ _ _ _ => False) T (f' e)))
    (ht' : ∀ (s' : Shared) (H : Hp) (C : Addr) (cl : List (Str × Addr)) (fp : List Addr) (e : Expr), PT (X.blk s' H scope (compEnvC scope cl C X.env) fp) e (rdT c (fun _ _ _ _ => False) T (t' e)))
    {y : Str} {py : Pos} {i : Nat} {elt tg it tg2 it2 : Expr} {ifs ifs2 : List Expr} {pos spos : Pos} (hs : slotIn g.N y = some i) (hc : swapC g y py (.ListComp elt [⟨tg, it, ifs, 0⟩, ⟨tg2, it2, ifs2, 0⟩] scope pos) = true)
    (h : (L2.blkC g.N g.sc scope (ownOf g.N scope) && within (trG (g.inner scope) f' 5 tg).names ((ownOf g.N scope).map (·.2)) && within (trG (g.inner scope) f' 5 tg2).names ((ownOf g.N scope).map (·.2)) && noSet it && noSet it2) = true) :
    PS X (.Assign [.Name y py] (.ListComp elt [⟨tg, it, ifs, 0⟩, ⟨tg2, it2, ifs2, 0⟩] scope pos) spos) (rdS c Wx T (.asg (.var i) (.lc2 ((ownOf g.N scope).map (·.2)) (trG (g.inner scope) f' 5 tg2).names (trG (g.inner scope) f' 5 tg) (trI s g f tg it) (trC t' ifs) (trG (g.inner scope) f' 5 tg2) (trI s (g.inner scope) f' tg2 it2) (trC t' ifs2) (f' elt)))) := by
  simp only [Bool.and_eq_true] at h
  obtain ⟨⟨⟨⟨h1, h2⟩, h3⟩, h4⟩, h5⟩ := h
  unfold swapC Gc.kind at hc
  simp only [Bool.and_eq_true, Bool.not_eq_true'] at hc
  obtain ⟨⟨c1, c2⟩, c3⟩ := hc
  have hy : X.env.scope.names.lookup y = some .local := by rw [k.sc]; exact eq_of_beq c1
  exact s_setLc2 (Wy := fun _ _ _ _ => False) k.calm (by rw [k.N]; exact k.nd) (by rw [k.N]; exact slot_ok hs) hy (sw_true (by rw [k.sc]; exact hkd) hy c2 c3) (i_tr k hf it) (by rw [k.N, k.sc]; exact blkOk_by h1) (within_ok h3) (within_ok h2) (fun _ h => h) (fun s' H C cl fp => g_tr k.inner (hf' s' H C cl fp) 5 tg) (fun s' H C cl fp => c_tr (ht' s' H C cl fp) ifs)
    (fun s' H C cl fp => i_tr k.inner (hf' s' H C cl fp) it2) (fun s' H C cl fp => g_tr k.inner (hf' s' H C cl fp) 5 tg2) (fun s' H C cl fp => c_tr (ht' s' H C cl fp) ifs2) (fun s' H C cl fp => hf' s' H C cl fp elt) (fold_set h4 _) (fun env x => fold_set h5 env x)
/-- name = [..] -/
theorem s_comp (k : OkX c T s l X g Wx) (hkd : g.sc.kind = .function) {m : Nat} {y : Str} {py : Pos} {elt : Expr} {gens : List Comprehension} {scope : Scope} {pos spos : Pos} : PS X (.Assign [.Name y py] (.ListComp elt gens scope pos) spos)
    (rdS c Wx T (if swapC g y py (.ListComp elt gens scope pos) = true then match slotIn g.N y with
          | some i => .asg (.var i) (trE s m g (.ListComp elt gens scope pos)).1
          | none => neverS
        else .asg (trG g (fun e => (trE s m g e).1) 5 (.Name y py)) (trE s m g (.ListComp elt gens scope pos)).1)) := by
  split
  · rename_i hc
    cases hs : slotIn g.N y with
    | none => exact s_never
    | some i =>
      simp only
      cases m with
      | zero => exact s_asgNever
      | succ n =>
        have hf : ∀ e, PE X e (rdE c Wx T (trE s n g e).1) := fun e => (tr_ok n g X Wx k e).1
        have hf' : ∀ (s' : Shared) (H : Hp) (C : Addr) (cl : List (Str × Addr)) (fp : List Addr) (e : Expr), PE (X.blk s' H scope (compEnvC scope cl C X.env) fp) e (rdE c (fun _ _ _ _ => False) T (trE s n (g.inner scope) e).1) := fun s' H C cl fp e => (tr_ok n (g.inner scope) _ _ k.inner e).1
        have ht' : ∀ (s' : Shared) (H : Hp) (C : Addr) (cl : List (Str × Addr)) (fp : List Addr) (e : Expr), PT (X.blk s' H scope (compEnvC scope cl C X.env) fp) e (rdT c (fun _ _ _ _ => False) T (trE s n (g.inner scope) e).2) := fun s' H C cl fp e => (tr_ok n (g.inner scope) _ _ k.inner e).2.1
        match gens with
        | [] => simp only [trE]; exact s_asgNever
        | [⟨tg, it, ifs, a⟩] =>
          simp only [trE]
          generalize hb : (decide (a = 0) && L2.blkC g.N g.sc scope (ownOf g.N scope) && within (trG (g.inner scope) (fun e => (trE s n (g.inner scope) e).1) 5 tg).names ((ownOf g.N scope).map (·.2)) && noSet it) = b
          cases b with
          | false => exact s_asgNever
          | true =>
            rw [Bool.and_eq_true, Bool.and_eq_true, Bool.and_eq_true, decide_eq_true_eq] at hb
            obtain ⟨⟨⟨rfl, h1⟩, h2⟩, h3⟩ := hb
            exact s_lcTr k hkd hf hf' ht' hs hc (by rw [h1, h2, h3]; rfl)
        | [⟨tg, it, ifs, a⟩, ⟨tg2, it2, ifs2, a2⟩] =>
          simp only [trE]
          generalize hb : (decide (a = 0) && decide (a2 = 0) && L2.blkC g.N g.sc scope (ownOf g.N scope) && within (trG (g.inner scope) (fun e => (trE s n (g.inner scope) e).1) 5 tg).names ((ownOf g.N scope).map (·.2)) && within (trG (g.inner scope) (fun e => (trE s n (g.inner scope) e).1) 5 tg2).names ((ownOf g.N scope).map (·.2)) && noSet it && noSet it2) = b
          cases b with
          | false => exact s_asgNever
          | true =>
            simp only [Bool.and_eq_true, decide_eq_true_eq] at hb
            obtain ⟨⟨⟨⟨⟨⟨rfl, rfl⟩, h1⟩, h2⟩, h3⟩, h4⟩, h5⟩ := hb
            exact s_lc2Tr k hkd hf hf' ht' hs hc (by rw [h1, h2, h3, h4, h5]; rfl)
        | _ :: _ :: _ :: _ => simp only [trE]; exact s_asgNever
  · rename_i hc
    have hb := block_fn (env := X.env) (by rw [k.sc]; exact hkd)
    refine s_asg (tr_ok m g X Wx k _).1 (g_tr k (fun e => (tr_ok m g X Wx k e).1) 5 _) ?_ rfl rfl
    show swapsWith (.ListComp elt gens scope pos) (some (.Name y py)) spos.line X.env = pure false
    unfold swapsWith
    simp only
    unfold swapC Gc.kind at hc
    simp only [hb]
    have e0 : X.env.kindOf y = g.sc.names.lookup y := by unfold PySem.Env.kindOf; rw [k.sc]
    rw [e0]
    have e1 : ((ScopeKind.function == ScopeKind.function) && g.sc.names.lookup y == some .local && py.line == pos.line && !(scope.names.any fun x => match x with
      | (n, k) => n == y && (k == .local || k == .cell))) = false := by
      exact Bool.eq_false_iff.mpr hc
    exact congrArg pure e1
theorem trS_ok (k : OkX c T s l X g Wx) (hkd : g.sc.kind = .function) (hp : PassesOwn (model X.prog X.w) X.A X.env X.xe) {m : Nat} : ∀ (n : Nat) (st : Stmt), PS X st (rdS c Wx T (trS s m n g st))
  | 0, st => by unfold trS; exact s_never
  | n + 1, st => by
    have hf : ∀ e, PE X e (rdE c Wx T (trE s m g e).1) := fun e => (tr_ok m g X Wx k e).1
    have ht : ∀ e, PT X e (rdT c Wx T (trE s m g e).2) := fun e => (tr_ok m g X Wx k e).2.1
    have hb : ∀ sts, PSs X sts (rdS c Wx T (trSs (trS s m n g) sts)) := ss_tr (trS_ok k hkd hp n)
    cases st with
    | Expr e pos => simp only [trS]; exact s_orN fun h => s_expr (hf e) (swaps_no h _ _ _)
    | Return v pos =>
      cases v with
      | none => simp only [trS]; exact s_retN
      | some e => simp only [trS]; exact s_ret (hf e)
    | Pass pos => simp only [trS]; exact s_skip
    | Break pos => simp only [trS]; exact s_brk
    | Continue pos => simp only [trS]; exact s_cnt
    | If e a b pos => simp only [trS]; exact s_if (ht e) (hb a) (hb b)
    | While e b o pos =>
      cases o with
      | nil => simp only [trS]; exact s_while hp (ht e) (hb b)
      | cons _ _ => simp only [trS]; exact s_never
    | For tg it b o pos =>
      cases o with
      | nil => simp only [trS]; exact s_orN fun h => s_for hp k.calm (i_tr k hf it) (g_tr k hf 5 tg) (hb b) (fold_set h _)
      | cons _ _ => simp only [trS]; exact s_never
    | Assign tgs e pos =>
      match tgs with
      | [] => simp only [trS]; exact s_never
      | _ :: _ :: _ => simp only [trS]; exact s_never
      | [tg] =>
        by_cases h1 : ∃ y py elt gens scope p, tg = .Name y py ∧ e = .ListComp elt gens scope p
        · obtain ⟨y, py, elt, gens, scope, p, rfl, rfl⟩ := h1
          simp only [trS]
          exact s_comp k hkd
        · by_cases h2 : ∃ ts kk p vs k2 p2, tg = .Tuple ts kk p ∧ e = .Tuple vs k2 p2
          · obtain ⟨ts, kk, p, vs, k2, p2, rfl, rfl⟩ := h2
            simp only [trS]
            have hk2 : X.env.scope.kind = .function := by rw [k.sc]; exact hkd
            split
            · rename_i hn
              have hw2 := sw_none (k := kk) (k2 := k2) (p := p) (p2 := p2) hk2 (by rw [k.sc]; exact hn)
              have hs2 := swaps_no (e := .Tuple vs k2 p2) rfl (some (.Tuple ts kk p)) pos.line X.env
              split
              · rename_i x px y py a b
                split
                · rename_i i j hi hj
                  refine s_orN fun h => ?_
                  simp only [Bool.and_eq_true, decide_eq_true_eq] at h
                  obtain ⟨⟨h1, h2⟩, hij⟩ := h
                  obtain ⟨x1, x2⟩ := stores_ok k h1
                  obtain ⟨y1, y2⟩ := stores_ok k h2
                  exact s_parT k.calm (by rw [k.N]; exact k.nd) (by rw [k.N]; exact slot_ok hi) (by rw [k.N]; exact slot_ok hj) hij x1 x2 y1 y2 (a_tr k.K hf [a, b]) hw2 hs2
                · exact s_never
              · exact s_orN fun hs => s_asg (hf _) (g_tr k hf 5 _) hs2 hw2 rfl
            · rename_i hn
              split
              · exact s_never
              · rename_i hc
                split
                · rename_i x px y py a b
                  split
                  · rename_i i j hi hj
                    refine s_orN fun hij => ?_
                    have hn' : swNone X.env.scope [.Name x px, .Name y py] [a, b] = false := by rw [k.sc]; simpa using hn
                    have hw := sw_some (k := kk) (k2 := k2) (p := p) (p2 := p2) hk2 hn' (by simpa using hc)
                    obtain ⟨l1, l2, e3⟩ : X.env.scope.names.lookup x = some .local ∧ X.env.scope.names.lookup y = some .local ∧ swN X.env.scope [.Name x px, .Name y py] = [x, y] := by
                      unfold swNone at hn'
                      simp only [Bool.or_eq_false_iff] at hn'
                      have a4 := hn'.1.1.2
                      unfold swN at a4 ⊢
                      simp only [List.filterMap_cons, List.filterMap_nil] at a4 ⊢
                      by_cases q1 : (X.env.scope.names.lookup x == some .local && px.line == (Option.map (fun x => x.pos.line) ([Expr.Name x px, Expr.Name y py].head?)).getD 0) = true
                      · by_cases q2 : (X.env.scope.names.lookup y == some .local && py.line == (Option.map (fun x => x.pos.line) ([Expr.Name x px, Expr.Name y py].head?)).getD 0) = true
                        · simp only [q1, q2, if_true] at a4 ⊢
                          rw [Bool.and_eq_true] at q1 q2
                          exact ⟨eq_of_beq q1.1, eq_of_beq q2.1, trivial⟩
                        · simp only [q1, q2, if_true] at a4
                          exact absurd a4 (by simp)
                      · by_cases q2 : (X.env.scope.names.lookup y == some .local && py.line == (Option.map (fun x => x.pos.line) ([Expr.Name x px, Expr.Name y py].head?)).getD 0) = true
                        · simp only [q1, q2, if_true] at a4
                          exact absurd a4 (by simp)
                        · simp only [q1, q2] at a4
                          exact absurd a4 (by simp)
                    rw [e3] at hw
                    exact s_par k.calm (by rw [k.N]; exact k.nd) (by rw [k.N]; exact slot_ok hi) (by rw [k.N]; exact slot_ok hj) (by simpa using hij) l1 l2 (a_tr k.K hf [a, b]) hw (swaps_no (e := .Tuple [a, b] k2 p2) rfl (some (.Tuple [.Name x px, .Name y py] kk p)) pos.line X.env)
                  · exact s_never
                · exact s_never
          · have e1 : trS s m (n + 1) g (.Assign [tg] e pos) = orNeverS ((notComp e || isTupE tg) && noStar tg && !(isSeqE tg && isSeqE e)) (.asg (trG2 g (fun e => (trE s m g e).1) tg) (trE s m g e).1) := by
              unfold trS
              simp only
              split
              · rename_i y py elt gens scope p; exact (h1 ⟨_, _, _, _, _, _, rfl, rfl⟩).elim
              · exact (h2 ⟨_, _, _, _, _, _, rfl, rfl⟩).elim
              · rfl
            rw [e1]
            refine s_orN fun hs => ?_
            simp only [Bool.and_eq_true, Bool.not_eq_true'] at hs
            obtain ⟨⟨a1, a2⟩, a3⟩ := hs
            have a1' : swapsWithSole [tg] e pos.line X.env = pure false := by
              rcases Bool.or_eq_true_iff.mp a1 with a1 | a1
              · exact swaps_no a1 _ _ _
              · cases tg <;> first | (cases a1; done) | (cases e <;> rfl)
            refine s_asg (hf e) (g2_tr k hf tg) a1' ?_ ?_
            · cases tg <;> first | rfl | (cases e <;> first | rfl | cases a3)
            · exact asg_each_map a2
    | _ => simp only [trS]; exact s_never
end
end Ev
end

section
set_option Elab.async false
set_option linter.all false
set_option autoImplicit true
set_option maxRecDepth 100000
set_option maxHeartbeats 4000000
/-! EwC: the defs of a module keep their promises, all at once, by levels. -/
namespace Ev
open PySem PySem.Spec PyProof.Rows L2
structure DefI where
  name : Str
  args : Arguments
  body : List Stmt
  scope : Scope
  N : List Str
def DefI.ps (d : DefI) : List Str := d.args.args.map (·.arg)
def DefI.gc (d : DefI) : Gc := ⟨d.N, d.scope, none⟩
def isFnKind : ScopeKind → Bool
  | .function => true
  | _ => false
def DefI.ok (d : DefI) : Bool := plainPs d.args && isFnKind d.scope.kind && !d.scope.isCoroutine && !d.scope.isGenerator && decide d.N.Nodup && decide (d.N.take d.ps.length = d.ps) &&
  d.ps.all (fun x => d.scope.names.lookup x == some .local || d.scope.names.lookup x == some .cell) && d.scope.names.all fun y => !(y.2 == .free)
def tabOf (defs : List DefI) : List (Str × (Nat × List Str)) := (defs.zip (List.range defs.length)).map fun p => (p.1.name, (p.2, p.1.ps))
def DefI.fi (s : St) (m : Nat) (d : DefI) : FnI := ⟨d.ps.length, d.N.length, trSs (trS s m m d.gc) d.body⟩
theorem tab_at {defs : List DefI} {x : Str} {j : Nat} {k : List Str} (h : (tabOf defs).lookup x = some (j, k)) : ∃ d, defs[j]? = some d ∧ d.name = x ∧ d.ps = k := by
  have hm := lookup_mem h
  unfold tabOf at hm
  obtain ⟨⟨d, i⟩, hp, e⟩ := List.mem_map.mp hm
  cases e
  obtain ⟨n, hn⟩ := List.getElem?_of_mem hp
  obtain ⟨e1, e2⟩ := List.getElem?_zip_eq_some.mp hn
  have hl : n < defs.length := (List.getElem?_eq_some_iff.mp e1).1
  rw [List.getElem?_range hl] at e2
  have e2' : n = i := by cases e2; rfl
  subst e2'
  exact ⟨d, e1, rfl, rfl⟩
theorem DefI.scope_ok {d : DefI} (h : d.ok = true) : FnScope d.N d.ps d.scope ∧ plainPs d.args = true ∧ d.ps.Nodup ∧ d.scope.kind = .function := by
  unfold DefI.ok at h
  simp only [Bool.and_eq_true, Bool.not_eq_true', decide_eq_true_eq] at h
  obtain ⟨⟨⟨⟨⟨⟨⟨h1, h2⟩, h3⟩, h4⟩, h5⟩, h6⟩, h7⟩, h8⟩ := h
  have hk : d.scope.kind = .function := by
    cases e : d.scope.kind <;> rw [e] at h2 <;> first | rfl | cases h2
  refine ⟨⟨hk, h3, h4, h5, h6, fun x hx => ?_, fun y hy => ?_⟩, h1, ?_, hk⟩
  · have := List.all_eq_true.mp h7 x hx
    rw [Bool.or_eq_true] at this
    exact this.imp (fun h => eq_of_beq h) fun h => eq_of_beq h
  · have := List.all_eq_true.mp h8 y hy
    intro e
    rw [e] at this
    cases this
  · rw [← h6]; exact h5.sublist (List.take_sublist _ _)
section
variable {P : Program} {w : World} {K : PySem.W.Frag} {mg : Str → Option Value} {base : Heap} {c : Cfg} {s : St} {m : Nat} {defs : List DefI} {glob : Str → Option D}
/-- what a def of the table stands as -/
def DefI.At (d : DefI) (K : PySem.W.Frag) (mg : Str → Option Value) (f : Addr) (fd : FuncData) : Prop := FunD K d.name d.name d.args d.body d.scope [] [] f fd ∧ mg d.name = some (.ref f)
theorem defs_ok (hK : c.K = K) (hG : c.G.P = P ∧ c.G.w = w) (hs : s.fns = tabOf defs) (hd : ∀ d ∈ defs, d.ok = true) (facts : ∀ (j : Nat) (d : DefI), defs[j]? = some d → ∃ f fd, DefI.At d K mg f fd)
    (glb : ∀ x, s.glb.contains x = true → ∃ v u d, glob x = some d ∧ mg x = some u ∧ RelV v u ∧ ∀ F, DR c.K c.G F v d) (blt : ∀ x, s.blt.contains x = true → mg x = none)
    (gfn : ∀ (j : Nat) (d : DefI), defs[j]? = some d → ∃ f, mg d.name = some (.ref f) ∧ c.G.fn j = some f) (gfn2 : ∀ (j : Nat) (f : Addr), c.G.fn j = some f → ∃ d, defs[j]? = some d ∧ ∃ fd, DefI.At d K mg f fd) :
    ∀ (l j : Nat) (d : DefI), defs[j]? = some d → ∀ f fd, DefI.At d K mg f fd → FnOk P w K mg base (L2.CX P w) l f fd d.ps (spF c (callAt (defs.map (DefI.fi s m)) glob l j))
  | 0, j, d, hj, f, fd, h => by
    have no : ∀ vs H Q E, ¬ spF c (callAt (defs.map (DefI.fi s m)) glob 0 j) vs H Q E := fun vs H Q E ⟨_, _, _, _, _, q⟩ => q
    exact ⟨fun vs H Q E h => (no vs H Q E h).elim, fun A outer s H args us vs Q E _ _ _ _ h => (no vs H Q E h).elim⟩
  | l + 1, j, d, hj, f, fd, h => by
    obtain ⟨S, h1, h2, h3⟩ := DefI.scope_ok (hd d (List.mem_of_getElem? hj))
    have e : callAt (defs.map (DefI.fi s m)) glob (l + 1) j = runFn ⟨callAt (defs.map (DefI.fi s m)) glob l, glob⟩ (DefI.fi s m d) := by
      funext pws
      rw [callAt, List.getElem?_map, hj]
      rfl
    rw [e]
    refine fn_ok h.1 S rfl rfl fun cdv A outer sh H E hr => ?_
    have k : OkX c ⟨callAt (defs.map (DefI.fi s m)) glob l, glob⟩ s l (cxOf (L2.CX P w) P w K mg base d.N d.name d.scope f cdv A outer sh H E) d.gc (fun cls d _ H' => E cls d H') := by
      refine ⟨rfl, rfl, S.nd, rfl, hK, hG, hr, takes_def, fun x => rfl, fun x j' k' hl => ?_, glb, blt, fun x j' k' hl => ?_, fun j' f' hj' => ?_⟩
      rotate_left
      · rw [hs] at hl
        obtain ⟨d', hd', rfl, rfl⟩ := tab_at hl
        exact gfn j' d' hd'
      · obtain ⟨d', hd', fd', h'⟩ := gfn2 j' f' hj'
        obtain ⟨_, p1, p2, _⟩ := DefI.scope_ok (hd d' (List.mem_of_getElem? hd'))
        exact ⟨fd', _, defs_ok hK hG hs hd facts glb blt gfn gfn2 l j' d' hd' f' fd' h', h'.1.kp, h'.1.bindsN fun kV doc pm an cdv ct us hl => bind_plain p1 hl p2⟩
      rw [hs] at hl
      obtain ⟨d', hd', rfl, rfl⟩ := tab_at hl
      obtain ⟨f', fd', h'⟩ := facts j' d' hd'
      obtain ⟨_, p1, p2, _⟩ := DefI.scope_ok (hd d' (List.mem_of_getElem? hd'))
      refine ⟨f', fd', h'.2, h'.1.kp, h'.1.bindsN fun kV doc pm an cdv ct us hl => bind_plain p1 hl p2, fun ks n hk s us ws e1 e2 => ?_, defs_ok hK hG hs hd facts glb blt gfn gfn2 l j' d' hd' f' fd' h'⟩
      obtain ⟨oc, od, dV, kV, doc, pm, an, cdv', ct, osl, rfl, lk, hcd, hD, hKw⟩ := h'.1.ex
      subst e1
      rcases hD with ⟨_, rfl⟩ | ⟨e, _⟩
      · have b := bind_kw (x := d'.name) (qual := d'.name) (body := d'.body) (scope := d'.scope) (kV := kV) (doc := doc) (pm := pm) (an := an) (cdv := cdv') (ct := ct) p1 hk e2
        have e3 := gOf_ord hk e2
        exact .of_eq (by rw [← e3]; exact b)
      · exact absurd rfl e
    exact ss_tr (trS_ok k h3 passes_def m) d.body
end
end Ev
end

section
set_option Elab.async false
set_option linter.all false
set_option autoImplicit true
set_option maxRecDepth 100000
set_option maxHeartbeats 4000000
/-! Hd: a law's end over the evaluator. -/
namespace Ev
open PySem PySem.Spec PyProof.Rows L2
/-! ### constants of the module -/
mutual
def litB (K : PySem.W.Frag) : D → Value → Bool
  | .none, .none => true
  | .bool b, .bool c => b == c
  | .int i, .int j _ => decide (i = j)
  | .str x, .str y _ => decide (x = y)
  | .tuple ds, .ref a => match K.lookup a with
    | some ⟨.type c, _, .seq its _, _⟩ => decide (c = "tuple") && (decide (its.size ≤ sizeLine) && litsB K ds its.toList)
    | _ => false
  | _, _ => false
def litsB (K : PySem.W.Frag) : List D → List Value → Bool
  | [], [] => true
  | d :: ds, u :: us => litB K d u && litsB K ds us
  | _, _ => false
end
mutual
theorem litB_ok {K : PySem.W.Frag} {G : GX} : ∀ {d : D} {u : Value}, litB K d u = true → ∃ v, RelV v u ∧ ∀ F, DR K G F v d
  | .none, u, h => by
    cases u <;> first | exact ⟨.non, rfl, fun F => .non⟩ | (simp [litB] at h)
  | .bool b, u, h => by
    cases u <;> first | (simp [litB] at h; subst h; exact ⟨.bl b, rfl, fun F => .bl b⟩) | (simp [litB] at h; done)
  | .int i, u, h => by
    cases u <;> first | (simp [litB] at h; subst h; exact ⟨.int i, ⟨_, rfl⟩, fun F => .int i⟩) | (simp [litB] at h; done)
  | .str x, u, h => by
    cases u <;> first | (simp [litB] at h; subst h; exact ⟨.str x, ⟨_, rfl⟩, fun F => .str x⟩) | (simp [litB] at h; done)
  | .list ds, u, h => by
    cases u <;> (simp [litB] at h; done)
  | .dict ds, u, h => by
    cases u <;> (simp [litB] at h; done)
  | .tuple ds, u, h => by
    cases u with
    | ref a =>
      rw [litB] at h
      cases q : K.lookup a with
      | none => rw [q] at h; cases h
      | some o =>
        obtain ⟨oc, od, dt, osl⟩ := o
        rw [q] at h
        cases oc with
        | type c =>
          cases dt with
          | seq its n =>
            simp only [Bool.and_eq_true, decide_eq_true_eq] at h
            obtain ⟨h1, h2, h3⟩ := h
            obtain ⟨vs, hv, hd⟩ := litsB_ok (G := G) h3
            exact ⟨.ref a, rfl, fun F => .tup (.inr ⟨_, its, n, q, congrArg Value.type h1, rfl, h2, hv⟩) (hd F)⟩
          | _ => cases h
        | _ => cases dt <;> cases h
    | _ => simp [litB] at h
theorem litsB_ok {K : PySem.W.Frag} {G : GX} : ∀ {ds : List D} {us : List Value}, litsB K ds us = true → ∃ vs, Vals vs us ∧ ∀ F, DRs K G F vs ds
  | [], us, h => by
    cases us with
    | nil => exact ⟨[], .nil, fun F => .nil⟩
    | cons _ _ => simp [litsB] at h
  | d :: ds, us, h => by
    cases us with
    | nil => simp [litsB] at h
    | cons u us =>
      rw [litsB, Bool.and_eq_true] at h
      obtain ⟨v, hv, hd⟩ := litB_ok (G := G) h.1
      obtain ⟨vs, hvs, hds⟩ := litsB_ok (G := G) h.2
      exact ⟨v :: vs, .cons hv hvs, fun F => .cons (hd F) (hds F)⟩
end
def constB (cs : List (Str × D)) (K : PySem.W.Frag) : Bool := cs.all fun p => match PySem.W.nsIn K mainGlobals p.1 with
  | some (some u) => litB K p.2 u
  | _ => false
theorem constB_ok {K : PySem.W.Frag} {G : GX} {h : Heap} {mg : Str → Option Value} {cs : List (Str × D)} (X : K.In h) (N : h.Ns mainGlobals mg) (c : constB cs K = true) {x : Str} {d : D} (hm : (x, d) ∈ cs) : ∃ v u, mg x = some u ∧ RelV v u ∧ ∀ F, DR K G F v d := by
  have h1 := List.all_eq_true.mp c _ hm
  simp only at h1
  split at h1
  · rename_i u e
    obtain ⟨v, hv, hd⟩ := litB_ok (G := G) h1
    exact ⟨v, u, PySem.W.mg_of X N e, hv, hd⟩
  · cases h1
/-! ### the facts that a head tells -/
def fnOfs (defs : List DefI) : List He.DefD := defs.map fun d => ⟨(d.name, none), d.name, d.name, d.args, d.body, d.scope, [], []⟩
def faOf (defs : List DefI) (blt : List Str) : List He.Fa := defs.map (fun d => .glo d.name) ++ blt.map .free
def hookOf (n : Nat) (defs : List DefI) (blt : List Str) (cs : List (Str × D)) : PySem.W.Hook := He.hookX n (faOf defs blt) (fnOfs defs) [] [] (constB cs)
def obOf (n : Nat) (defs : List DefI) (blt : List Str) (cs : List (Str × D)) (s : PySem.W.SharedT) : He.AlX := He.obsX n (faOf defs blt) (fnOfs defs) [] [] (constB cs) (HandSHeadRun.getT s)
theorem obOf_eq {n : Nat} {defs : List DefI} {blt : List Str} {cs : List (Str × D)} (s : PySem.W.SharedT) : obOf n defs blt cs s = (hookOf n defs blt cs).obs s.abs := He.obsX_eq (HandSHeadRun.getT_eq s)
def globOf (cs : List (Str × D)) (x : Str) : Option D := cs.lookup x
def sOf (defs : List DefI) (blt : List Str) (cs : List (Str × D)) : St := ⟨tabOf defs, cs.map (·.1), blt⟩
theorem law_end {l : PySem.W.OpenLaw} {q : Program} {loose : List Str} {XP : (Str → Option Value) → Heap → Prop} {d : DefRec} {n nh L m j : Nat} {defs : List DefI} {blt : List Str} {cs : List (Str × D)} {x : Str} {dl : DefI}
    (hn : l.most = some n) (hn2 : n ≤ sizeLine) (hdf : d.params.defaults = []) (hr : Room L callerA) (hd : defs.all DefI.ok = true) (hj : defs[j]? = some dl) (hname : dl.name = d.name) (hx : dl.ps = [x])
    (run : ∀ ns : List Int, ns.length ≤ n → ∃ ws, callAt (defs.map (DefI.fi (sOf defs blt cs) m)) (globOf cs) L j [(false, .scr (ns.map .int))] = some (.ok (.d (.bool true)), ws)) :
    PySem.W.WalkO q loose XP (hookOf nh defs blt cs).says l.row.toRowW d [] (fun f vs => PySem.call f vs) := by
  refine LamX.walk_ofTsE (CX := fun w => L2.CX l.prog w) (k := L) (x := x) hn hn2 hdf hr ?_ ?_
  · intro w mg fa h Y N hmg
    obtain ⟨K, KX, c⟩ := Y
    refine ⟨K, KX, ?_⟩
    have sd : He.SaysD (faOf defs blt) (fnOfs defs) K := c.t.d
    have glo : ∀ e ∈ defs, mg e.name = some (.ref (He.ga K e.name)) := fun e he => He.glo_ok KX N (sd.facts (f := .glo e.name) (List.mem_append_left _ (List.mem_map.mpr ⟨e, he, rfl⟩)))
    have at_ : ∀ e ∈ defs, ∃ fd, FunD K e.name e.name e.args e.body e.scope [] [] (He.ga K e.name) fd := fun e he => by
      obtain ⟨fd, F⟩ := sd.defs (d := ⟨(e.name, none), e.name, e.name, e.args, e.body, e.scope, [], []⟩) (List.mem_map.mpr ⟨e, he, rfl⟩)
      exact ⟨fd, F⟩
    let cf : Cfg := ⟨K, ⟨fun j => (defs[j]?).map fun d => He.ga K d.name, l.prog, w⟩, fun _ => none, fun _ => []⟩
    have hm : dl ∈ defs := List.mem_of_getElem? hj
    obtain ⟨fd, F⟩ := at_ dl hm
    have hfa : fa = He.ga K dl.name := by
      have := glo dl hm
      rw [hname, hmg] at this
      cases this
      rw [hname]
    subst hfa
    have hdo := fun e he => List.all_eq_true.mp hd e he
    obtain ⟨S, p1, p2, _⟩ := DefI.scope_ok (hdo dl hm)
    have b := FunD.bindsA (ps := dl.ps) F fun kV doc pm an cdv ct us hl => bind_plain p1 hl p2
    refine ⟨fd, [], spF cf (callAt (defs.map (DefI.fi (sOf defs blt cs) m)) (globOf cs) L j), by simp, by simp, by simp, fun s u => ?_, fun H a ns hl hbits _ hS => ?_, fun base KB NB _ => ?_⟩
    · have := b s [u] (by rw [hx]; rfl)
      rw [hx] at this
      exact this
    · obtain ⟨ws, e⟩ := run ns hl
      refine ⟨H, fun _ => False, [(false, .scr (ns.map .int))], Good.none (Sub.refl H), ?_, ?_⟩
      · refine .cons (P1 := fun _ => False) (P2 := fun _ => False) (fun _ z => z.elim) (fun _ z => z.elim) (.scr hS ?_) .nil
        clear hl hS e hbits
        induction ns with
        | nil => exact .nil
        | cons i ns ih => exact .cons (.int i) ih
      · rw [e]
        intro v F' H' Pa Pr _ hv _ _ _
        cases hv with
        | d hd =>
          cases hd
          rfl
    · have hK : cf.K = K := rfl
      have key := defs_ok (P := l.prog) (w := w) (K := K) (mg := mg) (base := base) (c := cf) (s := sOf defs blt cs) (m := m) (defs := defs) (glob := globOf cs) hK ⟨rfl, rfl⟩ rfl hdo (fun j' d' hj' => by
          obtain ⟨fd', F'⟩ := at_ d' (List.mem_of_getElem? hj')
          exact ⟨_, fd', F', glo d' (List.mem_of_getElem? hj')⟩)
        (fun y hy => by
          have hy : (cs.map (·.1)).contains y = true := hy
          cases e : globOf cs y with
          | none =>
            exfalso
            have hy2 := List.contains_iff_mem.mp hy
            obtain ⟨p, hp, e2⟩ := List.mem_map.mp hy2
            unfold globOf at e
            rw [List.lookup_eq_none_iff] at e
            have := e p hp
            simp [e2] at this
          | some dd =>
            obtain ⟨v, u, h1, h2, h3⟩ := constB_ok (G := cf.G) KX N c.more (lookup_mem e)
            exact ⟨v, u, dd, rfl, h1, h2, h3⟩)
        (fun y hy => He.free_ok KX N (sd.facts (f := .free y) (List.mem_append_right _ (List.mem_map.mpr ⟨y, List.contains_iff_mem.mp hy, rfl⟩))))
        (fun j' d' hj' => ⟨He.ga K d'.name, glo d' (List.mem_of_getElem? hj'), by show (defs[j']?).map _ = _; rw [hj']; rfl⟩)
        (fun j' f' hj' => by
          obtain ⟨d', h1, h2⟩ := Option.map_eq_some_iff.mp (show (defs[j']?).map (fun d => He.ga K d.name) = some f' from hj')
          subst h2
          obtain ⟨fd', F'⟩ := at_ d' (List.mem_of_getElem? h1)
          exact ⟨d', h1, fd', F', glo d' (List.mem_of_getElem? h1)⟩) L j dl hj _ fd ⟨F, glo dl hm⟩
      rw [hx] at key
      exact key
  · rintro w H s e s' ⟨a, B, H', cls, dd, _, _, _, _, _, _, _, z⟩
    exact z
end Ev
end

section
set_option Elab.async false
set_option linter.all false
set_option autoImplicit true
set_option maxRecDepth 100000
/-! Mk: the defs of a row's text, with their slots. -/
open PySem
namespace Ev
def ownN (sc : Scope) : List Str := sc.names.filterMap fun y => if y.2 == .local || y.2 == .cell then some y.1 else none
def nmE : Nat → Expr → List Str
  | 0, _ => []
  | n + 1, e => match e with
    | .BoolOp _ vs _ => vs.flatMap (nmE n)
    | .BinOp a _ b _ => nmE n a ++ nmE n b
    | .UnaryOp _ a _ => nmE n a
    | .IfExp a b c _ => nmE n a ++ nmE n b ++ nmE n c
    | .Compare a _ bs _ => nmE n a ++ bs.flatMap (nmE n)
    | .Call f as ks _ => nmE n f ++ as.flatMap (nmE n) ++ ks.flatMap fun k => nmE n k.value
    | .Attribute a _ _ => nmE n a
    | .Subscript a b _ => nmE n a ++ nmE n b
    | .Starred a _ => nmE n a
    | .Tuple es _ _ => es.flatMap (nmE n)
    | .List es _ => es.flatMap (nmE n)
    | .ListComp e gs sc _ => ownN sc ++ nmE n e ++ gs.flatMap fun g => nmE n g.iter ++ g.ifs.flatMap (nmE n)
    | .DictComp k v gs sc _ => ownN sc ++ nmE n k ++ nmE n v ++ gs.flatMap fun g => nmE n g.iter ++ g.ifs.flatMap (nmE n)
    | .Slice a b c _ => (a.map (nmE n)).getD [] ++ (b.map (nmE n)).getD [] ++ (c.map (nmE n)).getD []
    | _ => []
def nmS : Nat → Stmt → List Str
  | 0, _ => []
  | n + 1, s => match s with
    | .Return (some e) _ => nmE n e
    | .Assign ts e _ => ts.flatMap (nmE n) ++ nmE n e
    | .AugAssign t _ e _ => nmE n t ++ nmE n e
    | .For t i b o _ => nmE n t ++ nmE n i ++ b.flatMap (nmS n) ++ o.flatMap (nmS n)
    | .While t b o _ => nmE n t ++ b.flatMap (nmS n) ++ o.flatMap (nmS n)
    | .If t b o _ => nmE n t ++ b.flatMap (nmS n) ++ o.flatMap (nmS n)
    | .Expr e _ => nmE n e
    | _ => []
def mkDefs (p : Program) : List DefI := p.main.body.filterMap fun
  | .FunctionDef n a b _ _ _ sc _ _ _ => some ⟨n, a, b, sc, ((a.args.map (·.arg)) ++ ownN sc ++ b.flatMap (nmS 40)).eraseDups⟩
  | _ => none
def bltins : List Str := ["len", "tuple", "list", "int", "abs", "max", "min", "sum", "all", "any", "divmod", "isinstance", "range", "enumerate", "zip", "bool", "str", "dict", "sorted"]
end Ev
end

section
set_option Elab.async false
set_option linter.all false
set_option autoImplicit true
set_option maxRecDepth 100000
/-! ShA: rules by which simp runs the evaluator at a state whose slots are written out. -/
namespace Ev.Sh
open PySem (PyData Str Operator UnaryOp CmpOp)
section
variable {α β γ δ : Type} {T : Tb} {env e e1 : Env}
/-! ### what follows -/
def bndK (o : Option (Res α × Env)) (f : α → M β) : Option (Res β × Env) := match o with
  | none => none
  | some (.ok a, e) => f a e
  | some (.ex x, e) => some (.ex x, e)
def ofK (o : Option (Res α × Env)) (f : α → X) : Option (Fl × Env) := match o with
  | none => none
  | some (.ok a, e) => f a e
  | some (.ex x, e) => some (.ex x, e)
def sqK (o : Option (Fl × Env)) (k : X) : Option (Fl × Env) := match o with
  | some (.nx, e) => k e
  | o => o
@[simp] theorem bnd_app (m : M α) (f : α → M β) : bnd m f env = bndK (m env) f := rfl
@[simp] theorem ofM_app (m : M α) (f : α → X) : ofM m f env = ofK (m env) f := rfl
@[simp] theorem bndK_ok (a : α) (f : α → M β) : bndK (some (.ok a, e)) f = f a e := rfl
@[simp] theorem bndK_ex (x : Exc) (f : α → M β) : bndK (some (.ex x, e)) f = some (.ex x, e) := rfl
@[simp] theorem bndK_no (f : α → M β) : bndK none f = none := rfl
@[simp] theorem ofK_ok (a : α) (f : α → X) : ofK (some (.ok a, e)) f = f a e := rfl
@[simp] theorem ofK_ex (x : Exc) (f : α → X) : ofK (some (.ex x, e)) f = some (.ex x, e) := rfl
@[simp] theorem ofK_no (f : α → X) : ofK none f = none := rfl
@[simp] theorem sqK_nx (k : X) : sqK (some (.nx, e)) k = k e := rfl
@[simp] theorem sqK_rt (w : W) (k : X) : sqK (some (.rt w, e)) k = some (.rt w, e) := rfl
@[simp] theorem sqK_bk (k : X) : sqK (some (.bk, e)) k = some (.bk, e) := rfl
@[simp] theorem sqK_ct (k : X) : sqK (some (.ct, e)) k = some (.ct, e) := rfl
@[simp] theorem sqK_ex (x : Exc) (k : X) : sqK (some (.ex x, e)) k = some (.ex x, e) := rfl
@[simp] theorem ret_app (a : α) : ret a env = some (.ok a, env) := rfl
@[simp] theorem lft_some (a : α) : lft (some a) env = some (.ok a, env) := rfl
@[simp] theorem sole_one (a : α) : sole [a] env = some (.ok a, env) := rfl
@[simp] theorem fl_app (f : Fl) : fl f env = some (f, env) := rfl
/-! ### slots -/
def lookS (o : Option Slot) (sel : List Nat) : Option W := match o with
  | some (.ok _ w) => w.at sel
  | _ => none
@[simp] theorem lookS_ok (p : Bool) (w : W) (sel : List Nat) : lookS (some (.ok p w)) sel = w.at sel := rfl
@[simp] theorem at_nil (w : W) : w.at [] = some w := by cases w <;> rfl
@[simp] theorem at_lst (ws : List W) (k : Nat) (sel : List Nat) : (W.lst ws).at (k :: sel) = (ws[k]?).bind fun w => w.at sel := rfl
@[simp] theorem put_nil (w w' : W) : w.put [] w' = some w' := by cases w <;> rfl
@[simp] theorem put_lst (ws : List W) (k : Nat) (sel : List Nat) (w' : W) : (W.lst ws).put (k :: sel) w' = (ws[k]?).bind fun w => (w.put sel w').map fun z => .lst (ws.set k z) := rfl
@[simp] theorem see_d (x : D) : seeM (.d x) env = some (.ok (.d x), env) := rfl
@[simp] theorem see_own (w : W) : seeM (.own w) env = some (.ok w, env) := rfl
@[simp] theorem see_pth (i : Nat) (sel : List Nat) : seeM (.pth i sel) env = (lookS env[i]? sel).map fun w => (.ok w, env) := by
  unfold seeM see look lookS; rfl
def frzK (o : Option Slot) (i : Nat) (sel : List Nat) (env : Env) : Option (Res D × Env) := match o with
  | some (.ok p w) => (w.at sel).bind fun w1 => w1.frz.bind fun x => (w.put sel (.d x)).map fun w' => (.ok x, env.set i (.ok p w'))
  | _ => none
@[simp] theorem frzK_ok (p : Bool) (w : W) (i : Nat) (sel : List Nat) : frzK (some (.ok p w)) i sel env = (w.at sel).bind fun w1 => w1.frz.bind fun x => (w.put sel (.d x)).map fun w' => (.ok x, env.set i (.ok p w')) := rfl
@[simp] theorem frzAt_app (i : Nat) (sel : List Nat) : frzAt i sel env = frzK env[i]? i sel env := by
  unfold frzAt frzK
  cases env[i]? with
  | none => rfl
  | some s =>
    cases s with
    | ok p w =>
      simp only
      cases w.at sel with
      | none => rfl
      | some w1 =>
        simp only [Option.bind_some]
        cases w1.frz with
        | none => rfl
        | some x => simp only [Option.bind_some]; cases w.put sel (.d x) <;> rfl
    | _ => rfl
@[simp] theorem settle_d (x : D) : settle (.d x) env = some (.ok (.d x), env) := rfl
@[simp] theorem settle_own (w : W) : settle (.own w) env = some (.ok (.own w), env) := rfl
@[simp] theorem settle_pth (i : Nat) : settle (.pth i []) env = some (.ok (.pth i []), env) := rfl
@[simp] theorem settle_pths (i k : Nat) (sel : List Nat) : settle (.pth i (k :: sel)) env = bndK (frzK env[i]? i (k :: sel) env) fun x => ret (.d x) := by
  rw [← frzAt_app]; rfl
@[simp] theorem toW_d (x : D) : toW (.d x) env = some (.ok (.d x), env) := rfl
@[simp] theorem toW_own (w : W) : toW (.own w) env = some (.ok w, env) := rfl
@[simp] theorem toW_pth (i : Nat) (sel : List Nat) : toW (.pth i sel) env = bndK (frzK env[i]? i sel env) fun x => ret (.d x) := by
  rw [← frzAt_app]; rfl
@[simp] theorem dat_d (x : D) : dat (.d x) env = some (.ok x, env) := rfl
@[simp] theorem dat_own (w : W) : dat (.own w) env = lft w.frz env := rfl
@[simp] theorem dat_pth (i : Nat) (sel : List Nat) : dat (.pth i sel) env = frzK env[i]? i sel env := by
  rw [← frzAt_app]; rfl
@[simp] theorem plainR_d (x : D) : plainR (.d x) env = some (.ok x, env) := rfl
@[simp] theorem toR_d (x : D) : toR (.d x) = .d x := rfl
@[simp] theorem toR_lst (ws : List W) : toR (.lst ws) = .own (.lst ws) := rfl
@[simp] theorem toR_dct (b : Bool) (ws : List (L2.Key × D)) : toR (.dct b ws) = .own (.dct b ws) := rfl
@[simp] theorem toR_dcn (ws : List (PySem.NestedKey × D)) : toR (.dcn ws) = .own (.dcn ws) := rfl
@[simp] theorem each_nil (f : α → M β) : each f [] env = some (.ok [], env) := rfl
@[simp] theorem each_cons (f : α → M β) (a : α) (as : List α) : each f (a :: as) env = bndK (f a env) fun b => bnd (each f as) fun bs => ret (b :: bs) := rfl
/-! ### freezing -/
@[simp] theorem frz_d (x : D) : (W.d x).frz = some x := rfl
@[simp] theorem frz_lst (ws : List W) : (W.lst ws).frz = (frzs ws).map PyData.list := rfl
@[simp] theorem frzs_nil : frzs [] = some [] := rfl
@[simp] theorem frzs_cons (w : W) (ws : List W) : frzs (w :: ws) = w.frz.bind fun x => (frzs ws).map (x :: ·) := by
  rw [frzs]
  cases w.frz <;> rfl
@[simp] theorem frzs_map (xs : List D) : frzs (xs.map W.d) = some xs := by
  induction xs with
  | nil => rfl
  | cons x xs ih => simp [ih]
@[simp] theorem frzs_mapf {κ : Type} (f : κ → D) (xs : List κ) : frzs (xs.map fun x => W.d (f x)) = some (xs.map f) := by
  induction xs with
  | nil => rfl
  | cons x xs ih => simp [ih]
@[simp] theorem frzs_append (xs ys : List W) : frzs (xs ++ ys) = (frzs xs).bind fun a => (frzs ys).map (a ++ ·) := by
  induction xs with
  | nil => cases h : frzs ys <;> simp [h]
  | cons x xs ih =>
    simp only [List.cons_append, frzs_cons, ih]
    cases x.frz <;> simp
    cases frzs xs <;> simp
    cases frzs ys <;> simp
/-! ### expressions -/
def varK (o : Option Slot) (i : Nat) (env : Env) : Option (Res (List R) × Env) := match o with
  | some (.ok _ (.d x)) => some (.ok [.d x], env)
  | some (.ok _ _) => some (.ok [.pth i []], env)
  | _ => none
@[simp] theorem varK_d (p : Bool) (x : D) (i : Nat) : varK (some (.ok p (.d x))) i env = some (.ok [.d x], env) := rfl
@[simp] theorem varK_lst (p : Bool) (ws : List W) (i : Nat) : varK (some (.ok p (.lst ws))) i env = some (.ok [.pth i []], env) := rfl
@[simp] theorem varK_dct (p b : Bool) (kvs : List (L2.Key × D)) (i : Nat) : varK (some (.ok p (.dct b kvs))) i env = some (.ok [.pth i []], env) := rfl
@[simp] theorem varK_dcn (p : Bool) (kvs : List (PySem.NestedKey × D)) (i : Nat) : varK (some (.ok p (.dcn kvs))) i env = some (.ok [.pth i []], env) := rfl
@[simp] theorem varK_scr (p : Bool) (xs : List D) (i : Nat) : varK (some (.ok p (.scr xs))) i env = some (.ok [.pth i []], env) := rfl
@[simp] theorem ev_var (i : Nat) : ev T (.var i) env = varK env[i]? i env := by rw [ev]; rfl
@[simp] theorem ev_cst (x : D) : ev T (.cst x) env = some (.ok [.d x], env) := by rw [ev]; rfl
@[simp] theorem ev_glb (x : Str) : ev T (.glb x) env = lft ((T.glob x).map fun d => [.d d]) env := by rw [ev]
@[simp] theorem ev_nil : ev T .nil env = some (.ok [], env) := by rw [ev]; rfl
@[simp] theorem ev_cons (a b : E) : ev T (.cons a b) env = bndK (ev T a env) fun xs => bnd (sole xs) fun x => bnd (settle x) fun x => bnd (ev T b) fun ys => ret (x :: ys) := by rw [ev]; rfl
@[simp] theorem ev_scons (a b : E) : ev T (.scons a b) env = bndK (ev T a env) fun xs => bnd (sole xs) fun x => bnd (seeM x) fun w => bnd (lft (seqOrTup w)) fun zs => bnd (ev T b) fun ys => ret (zs.map R.d ++ ys) := by rw [ev]; rfl
@[simp] theorem ev_tup (es : E) : ev T (.tup es) env = bndK (ev T es env) fun rs => bnd (each dat rs) fun xs => if xs.length ≤ big then ret [.d (.tuple xs)] else fun _ => none := by rw [ev]; rfl
@[simp] theorem ev_lst (es : E) : ev T (.lst es) env = bndK (ev T es env) fun rs => bnd (each toW rs) fun ws => if ws.length ≤ big then ret [.own (.lst ws)] else fun _ => none := by rw [ev]; rfl
@[simp] theorem ev_bin (o : Operator) (a b : E) : ev T (.bin o a b) env = bndK (ev T a env) fun xs => bnd (sole xs) fun x => bnd (settle x) fun x => bnd (ev T b) fun ys => bnd (sole ys) fun y => bnd (seeM x) fun v => bnd (seeM y) fun w => lft ((binop o v w).map fun r => [toR r]) := by rw [ev]; rfl
@[simp] theorem ev_un (o : UnaryOp) (a : E) : ev T (.un o a) env = bndK (ev T a env) fun xs => bnd (sole xs) fun x => bnd (seeM x) fun v => lft ((unop o v).map fun r => [toR r]) := by rw [ev]; rfl
@[simp] theorem ev_not (a : E) : ev T (.not a) env = bndK (ev T a env) fun xs => bnd (sole xs) fun x => bnd (truM x) fun k => ret [.d (.bool (!k))] := by rw [ev]; rfl
@[simp] theorem ev_and (a b : E) : ev T (.and a b) env = bndK (ev T a env) fun xs => bnd (sole xs) fun x => bnd (truM x) fun k => if k = true then ev T b else ret [x] := by rw [ev]; rfl
@[simp] theorem ev_or (a b : E) : ev T (.or a b) env = bndK (ev T a env) fun xs => bnd (sole xs) fun x => bnd (truM x) fun k => if k = true then ret [x] else ev T b := by rw [ev]; rfl
@[simp] theorem ev_cmp (o : CmpOp) (a b : E) : ev T (.cmp o a b) env = bndK (ev T a env) fun xs => bnd (sole xs) fun x => bnd (settle x) fun x => bnd (ev T b) fun ys => bnd (sole ys) fun y => bnd (seeM x) fun v => bnd (seeM y) fun w => lft ((cmpop o v w).map fun k => [.d (.bool k)]) := by rw [ev]; rfl
@[simp] theorem ev_chn (o o' : CmpOp) (a b c : E) : ev T (.chn o o' a b c) env = bndK (ev T a env) fun xs => bnd (sole xs) fun x => bnd (plainR x) fun x => bnd (ev T b) fun ys => bnd (sole ys) fun y => bnd (plainR y) fun y => bnd (lft (cmpop o (.d x) (.d y))) fun k =>
      if k = true then bnd (ev T c) fun zs => bnd (sole zs) fun z => bnd (plainR z) fun z => lft ((cmpop o' (.d y) (.d z)).map fun k => [.d (.bool k)]) else ret [.d (.bool false)] := by rw [ev]; rfl
@[simp] theorem ev_ife (c a b : E) : ev T (.ife c a b) env = bndK (ev T c env) fun xs => bnd (sole xs) fun x => bnd (truM x) fun k => if k = true then ev T a else ev T b := by rw [ev]; rfl
@[simp] theorem ev_idx (a i : E) : ev T (.idx a i) env = bndK (ev T a env) fun xs => bnd (sole xs) fun x => bnd (match x with
      | .pth j sel => locked j sel (bnd (ev T i) fun ys => bnd (sole ys) fun y => seeM y)
      | _ => bnd (ev T i) fun ys => bnd (sole ys) fun y => seeM y) fun iw => bnd (seeM x) fun w => lft ((idx x w iw).map fun r => [r]) := by rw [ev]; rfl
@[simp] theorem ev_slc (a lo hi : E) : ev T (.slc a lo hi) env = bndK (ev T a env) fun xs => bnd (sole xs) fun x => bnd (settle x) fun x =>
      bnd (if lo.isNil = true then ret none else bnd (ev T lo) fun ls => bnd (sole ls) fun l => bnd (seeM l) fun w => lft (intW w)) fun l =>
      bnd (if hi.isNil = true then ret none else bnd (ev T hi) fun ls => bnd (sole ls) fun l => bnd (seeM l) fun w => lft (intW w)) fun h =>
      bnd (seeM x) fun w => lft ((slc w l h).map fun r => [toR r]) := by rw [ev]; rfl
@[simp] theorem ev_call (f : Nat) (es : E) : ev T (.call f es) env = bndK (ev T es env) fun rs => bnd (callR T f rs) fun r => ret [r] := by rw [ev]; rfl
@[simp] theorem ev_callk (f : Nat) (perm : List Nat) (es : E) : ev T (.callk f perm es) env = bndK (ev T es env) fun rs => bnd (lft (perm.mapM fun j => rs[j]?)) fun rs => bnd (callR T f rs) fun r => ret [r] := by rw [ev]; rfl
@[simp] theorem ev_bi (b : BI) (es : E) : ev T (.bi b es) env = bndK (ev T es env) fun rs => bnd (each seeM rs) fun ws => lft ((biW b ws).map fun r => [toR r]) := by rw [ev]; rfl
@[simp] theorem ev_isi (a : E) (ts : List String) : ev T (.isi a ts) env = bndK (ev T a env) fun xs => bnd (sole xs) fun x => bnd (seeM x) fun w => if tyOf w = "?" then fun _ => none else ret [.d (.bool (ts.any (isTy (tyOf w))))] := by rw [ev]; rfl
@[simp] theorem ev_meth (m : MI) (o es : E) : ev T (.meth m o es) env = bndK (ev T o env) fun xs => bnd (sole xs) fun x => match x with
    | .pth j sel => bnd (seeM (.pth j sel)) fun w0 => if m.fits w0 = false then fun _ => none else bnd (locked j sel (bnd (ev T es) fun rs => if m.takes = true then each toW rs else each seeM rs)) fun ws => bnd (turnAt j sel fun w => meW m w ws) fun r => ret [toR r]
    | _ => fun _ => none := by rw [ev]; rfl
@[simp] theorem ev_dnew : ev T .dnew env = some (.ok [.own (.dct false [])], env) := by rw [ev]; rfl
@[simp] theorem ev_lrng (es : E) : ev T (.lrng es) env = bndK (ev T es env) fun rs => bnd (each seeM rs) fun ws => lft ((rngW ws).map fun xs => [.own (.lst (xs.map .d))]) := by rw [ev]; rfl
@[simp] theorem ev_sumL (a : E) : ev T (.sumL a) env = bndK (ev T a env) fun xs => bnd (sole xs) fun x => bnd (seeM x) fun w => lft (match sumW w with
      | some xs => if xs.length ≤ big then some [.own (.lst (xs.map .d))] else none
      | none => none) := by rw [ev]; rfl
/-! ### walks -/
@[simp] theorem evI_rng (es : E) : evI T (.rng es) env = bndK (ev T es env) fun rs => bnd (each seeM rs) fun ws => lft (rngW ws) := by rw [evI]; rfl
@[simp] theorem evI_enum (a : E) : evI T (.enum a) env = bndK (ev T a env) fun xs => bnd (sole xs) fun x => bnd (dat x) fun y => lft (enumD y) := by rw [evI]; rfl
@[simp] theorem evI_zip (a b : E) : evI T (.zip a b) env = bndK (ev T a env) fun xs => bnd (sole xs) fun x => bnd (dat x) fun x => bnd (ev T b) fun ys => bnd (sole ys) fun y => bnd (dat y) fun y => lft (zipD x y) := by rw [evI]; rfl
@[simp] theorem evI_itms (a : E) : evI T (.itms a) env = bndK (ev T a env) fun xs => bnd (sole xs) walkI := by rw [evI]; rfl
@[simp] theorem evI_var (i : Nat) : evI T (.var i) env = bndK (ev T (.var i) env) fun xs => bnd (sole xs) walkR := by rw [evI]; rfl; all_goals (intros; contradiction)
@[simp] theorem evI_idx (a i : E) : evI T (.idx a i) env = bndK (ev T (.idx a i) env) fun xs => bnd (sole xs) walkR := by rw [evI]; rfl; all_goals (intros; contradiction)
@[simp] theorem evI_call (f : Nat) (es : E) : evI T (.call f es) env = bndK (ev T (.call f es) env) fun xs => bnd (sole xs) walkR := by rw [evI]; rfl; all_goals (intros; contradiction)
@[simp] theorem evI_slc (a l h : E) : evI T (.slc a l h) env = bndK (ev T (.slc a l h) env) fun xs => bnd (sole xs) walkR := by rw [evI]; rfl; all_goals (intros; contradiction)
@[simp] theorem evI_tup (a : E) : evI T (.tup a) env = bndK (ev T (.tup a) env) fun xs => bnd (sole xs) walkR := by rw [evI]; rfl; all_goals (intros; contradiction)
@[simp] theorem evI_lst (a : E) : evI T (.lst a) env = bndK (ev T (.lst a) env) fun xs => bnd (sole xs) walkR := by rw [evI]; rfl; all_goals (intros; contradiction)
@[simp] theorem walkR_d (x : D) : walkR (.d x) env = lft (items x) env := rfl
@[simp] theorem walkR_own (w : W) : walkR (.own w) env = bndK (lft w.frz env) fun x => lft (items x) := rfl
def walkS (o : Option Slot) (i : Nat) (env : Env) : Option (Res (List D) × Env) := match o with
  | some (.ok _ (.dct lk kvs)) => if lk = true then some (.ok (kvs.map fun kv => dKey kv.1), env) else none
  | _ => bnd (frzAt i []) (fun x => lft (items x)) env
@[simp] theorem walkR_pth (i : Nat) : walkR (.pth i []) env = walkS env[i]? i env := by
  unfold walkR walkS; rfl
@[simp] theorem walkS_dct (p : Bool) (kvs : List (L2.Key × D)) (i : Nat) : walkS (some (.ok p (.dct true kvs))) i env = some (.ok (kvs.map fun kv => dKey kv.1), env) := rfl
@[simp] theorem walkS_lst (p : Bool) (ws : List W) (i : Nat) : walkS (some (.ok p (.lst ws))) i env = bndK (frzAt i [] env) fun x => lft (items x) := rfl
@[simp] theorem items_list (xs : List D) : items (.list xs) = some xs := rfl
@[simp] theorem items_tuple (xs : List D) : items (.tuple xs) = some xs := rfl
/-! ### targets -/
@[simp] theorem asg_var (i : Nat) (r : R) : asg T (.var i) [r] env = bndK (toW r env) fun w => setSlot i w := by rw [asg]; rfl
@[simp] theorem asg_nil : asg T .nil [] env = some (.ok (), env) := by rw [asg]; rfl
@[simp] theorem asg_cons (t ts : E) (r : R) (rs : List R) : asg T (.cons t ts) (r :: rs) env = bndK (asg T t [r] env) fun _ => asg T ts rs := by rw [asg]; rfl
def tupK2 (T : Tb) (es : E) (w : W) : M Unit := match w with
  | .d (.tuple xs) => asg T es (xs.map .d)
  | w => match seqD w with
    | some xs => asg T es (xs.map .d)
    | none => fun _ => none
@[simp] theorem tupK2_t (es : E) (xs : List D) : tupK2 T es (.d (.tuple xs)) env = asg T es (xs.map .d) env := rfl
@[simp] theorem asg_tup (es : E) (r : R) : asg T (.tup es) [r] env = bndK (seeM r env) fun w => tupK2 T es w := by rw [asg]; rfl
def calmK (o : Option (Res α × Env)) : Option (Res α × Env) := match o with
  | some (.ok a, e) => some (.ok a, e)
  | _ => none
@[simp] theorem calm_app (m : M α) : calm m env = calmK (m env) := rfl
@[simp] theorem calmK_ok (a : α) : calmK (some (.ok a, e)) = some (.ok a, e) := rfl
def setIx (T : Tb) (i : E) (x : W) (o : R) : M Unit := match o with
  | .pth j sel => bnd (locked j sel (bnd (ev T i) fun ys => bnd (sole ys) fun y => seeM y)) fun iw => turnAt j sel fun w => (stW w iw x).map fun w' => (w', ())
  | _ => fun _ => none
@[simp] theorem setIx_p (i : E) (x : W) (j : Nat) (sel : List Nat) : setIx T i x (.pth j sel) env = bndK (locked j sel (bnd (ev T i) fun ys => bnd (sole ys) fun y => seeM y) env) fun iw => turnAt j sel fun w => (stW w iw x).map fun w' => (w', ()) := rfl
@[simp] theorem asg_idx (a i : E) (r : R) : asg T (.idx a i) [r] env = bndK (toW r env) fun x => calm (bnd (ev T a) fun os => bnd (sole os) fun o => setIx T i x o) := by rw [asg]; rfl
@[simp] theorem setSlot_no (i : Nat) (w : W) (h : env[i]? = some .no) : setSlot i w env = some (.ok (), env.set i (.ok false w)) := by unfold setSlot; rw [h]
def setK2 (o : Option Slot) (i : Nat) (w : W) (env : Env) : Option (Res Unit × Env) := match o with
  | some .no => some (.ok (), env.set i (.ok false w))
  | some (.ok false _) => some (.ok (), env.set i (.ok false w))
  | _ => none
@[simp] theorem setSlot_app (i : Nat) (w : W) : setSlot i w env = setK2 env[i]? i w env := by unfold setSlot setK2; rfl
@[simp] theorem setK2_no (i : Nat) (w : W) : setK2 (some .no) i w env = some (.ok (), env.set i (.ok false w)) := rfl
@[simp] theorem setK2_ok (i : Nat) (w w0 : W) : setK2 (some (.ok false w0)) i w env = some (.ok (), env.set i (.ok false w)) := rfl
@[simp] theorem locked_nil (i : Nat) (m : M α) : locked i [] m env = m env := rfl
def turnK (o : Option Slot) (i : Nat) (sel : List Nat) (f : W → Option (W × α)) (env : Env) : Option (Res α × Env) := match o with
  | some (.ok p w) => (w.at sel).bind fun w1 => (f w1).bind fun q => (w.put sel q.1).map fun w' => (.ok q.2, env.set i (.ok p w'))
  | _ => none
@[simp] theorem turnK_ok (p : Bool) (w : W) (i : Nat) (sel : List Nat) (f : W → Option (W × α)) : turnK (some (.ok p w)) i sel f env = (w.at sel).bind fun w1 => (f w1).bind fun q => (w.put sel q.1).map fun w' => (.ok q.2, env.set i (.ok p w')) := rfl
@[simp] theorem turnAt_app (i : Nat) (sel : List Nat) (f : W → Option (W × α)) : turnAt i sel f env = turnK env[i]? i sel f env := by
  unfold turnAt turnK
  cases env[i]? with
  | none => rfl
  | some s =>
    cases s with
    | ok p w =>
      simp only
      cases w.at sel with
      | none => rfl
      | some w1 =>
        simp only [Option.bind_some]
        cases f w1 with
        | none => rfl
        | some q => obtain ⟨a, b⟩ := q; simp only [Option.bind_some]; cases w.put sel a <;> rfl
    | _ => rfl
/-! ### calls -/
def passK (o : Option (Res (List (Bool × W)) × Env)) (g : List (Bool × W) → Env → Option (Res R × Env)) : Option (Res R × Env) := match o with
  | some (.ok pws, e) => g pws e
  | _ => none
def resK (o : Option (Res W × List W)) (env : Env) (rs : List R) (e1 : Env) : Option (Res R × Env) := match o with
  | some (.ok w, ws) => some (.ok (toR w), unpass env rs ws e1)
  | some (.ex x, ws) => some (.ex x, unpass env rs ws e1)
  | none => none
@[simp] theorem passK_ok (pws : List (Bool × W)) (g : List (Bool × W) → Env → Option (Res R × Env)) : passK (some (.ok pws, e)) g = g pws e := rfl
@[simp] theorem resK_ok (w : W) (ws : List W) (rs : List R) : resK (some (.ok w, ws)) env rs e1 = some (.ok (toR w), unpass env rs ws e1) := rfl
@[simp] theorem resK_ex (x : Exc) (ws : List W) (rs : List R) : resK (some (.ex x, ws)) env rs e1 = some (.ex x, unpass env rs ws e1) := rfl
@[simp] theorem callR_app (f : Nat) (rs : List R) : callR T f rs env = passK (pass rs env) fun pws e1 => resK (T.call f pws) env rs e1 := by
  unfold callR
  cases pass rs env with
  | none => rfl
  | some r =>
    obtain ⟨r, e1⟩ := r
    cases r with
    | ex x => rfl
    | ok pws =>
      simp only [passK]
      cases T.call f pws with
      | none => rfl
      | some q =>
        obtain ⟨q, ws⟩ := q
        cases q <;> rfl
@[simp] theorem pass_nil : pass [] env = some (.ok [], env) := rfl
@[simp] theorem pass_d (x : D) (rs : List R) : pass (.d x :: rs) env = bndK (pass rs env) fun ws => ret ((false, .d x) :: ws) := rfl
@[simp] theorem pass_own (w : W) (rs : List R) : pass (.own w :: rs) env = bndK (pass rs env) fun ws => ret ((false, w) :: ws) := rfl
def passS (o : Option Slot) (i : Nat) (rs : List R) (env : Env) : Option (Res (List (Bool × W)) × Env) := match o with
  | some (.ok _ w) => bnd (pass rs) (fun ws => ret ((true, w) :: ws)) (env.set i .lck)
  | _ => none
@[simp] theorem passS_ok (p : Bool) (w : W) (i : Nat) (rs : List R) : passS (some (.ok p w)) i rs env = bndK (pass rs (env.set i .lck)) fun ws => ret ((true, w) :: ws) := rfl
@[simp] theorem pass_pth (i : Nat) (rs : List R) : pass (.pth i [] :: rs) env = passS env[i]? i rs env := by
  rw [pass]; unfold passS; rfl
def backS (o : Option Slot) (i : Nat) (w : W) (env : Env) : Env := match o with
  | some (.ok p _) => env.set i (.ok p w)
  | _ => env
@[simp] theorem backS_ok (p : Bool) (w0 w : W) (i : Nat) : backS (some (.ok p w0)) i w env = env.set i (.ok p w) := rfl
@[simp] theorem unpass_nil (ws : List W) : unpass env [] ws e = e := by cases ws <;> rfl
@[simp] theorem unpass_d (x : D) (rs : List R) (w : W) (ws : List W) : unpass env (.d x :: rs) (w :: ws) e = unpass env rs ws e := rfl
@[simp] theorem unpass_own (w0 : W) (rs : List R) (w : W) (ws : List W) : unpass env (.own w0 :: rs) (w :: ws) e = unpass env rs ws e := rfl
@[simp] theorem unpass_pth (i : Nat) (sel : List Nat) (rs : List R) (w : W) (ws : List W) : unpass env (.pth i sel :: rs) (w :: ws) e = unpass env rs ws (backS env[i]? i w e) := by
  rw [unpass]
  unfold backS
  cases env[i]? with
  | none => rfl
  | some s => cases s <;> rfl
/-! ### statements -/
@[simp] theorem exec_skip : exec T .skip env = some (.nx, env) := by rw [exec]; rfl
@[simp] theorem exec_seq (a b : S) : exec T (.seq a b) env = sqK (exec T a env) (exec T b) := by
  rw [exec]; unfold sqK; rfl
@[simp] theorem exec_expr (a : E) : exec T (.expr a) env = ofK (ev T a env) fun rs => ofM (sole rs) fun _ => fl .nx := by rw [exec]; rfl
@[simp] theorem exec_asg (t a : E) : exec T (.asg t a) env = ofK (ev T a env) fun rs => ofM (sole rs) fun r => ofM (asg T t [r]) fun _ => fl .nx := by rw [exec]; rfl
@[simp] theorem exec_par (ts es : E) : exec T (.par ts es) env = ofK (ev T es env) fun rs => ofM (each toW rs) fun ws => ofM (setAll ts ws) fun _ => fl .nx := by rw [exec]; rfl
@[simp] theorem exec_ife (c : E) (a b : S) : exec T (.ife c a b) env = ofK (ev T c env) fun rs => ofM (sole rs) fun r => ofM (truM r) fun k => if k = true then exec T a else exec T b := by rw [exec]; rfl
@[simp] theorem exec_whl (c : E) (b : S) : exec T (.whl c b) env = whlL (bnd (ev T c) fun rs => bnd (sole rs) truM) (exec T b) fuel env := by rw [exec]
@[simp] theorem exec_for (t it : E) (b : S) : exec T (.for_ t it b) env = ofK (evI T it env) fun src => forL (fun x => asg T t [.d x]) (exec T b) src := by rw [exec]; rfl
@[simp] theorem exec_ret (a : E) : exec T (.ret a) env = ofK (ev T a env) fun rs => ofM (sole rs) fun r => ofM (retW r) fun w => fl (.rt w) := by rw [exec]; rfl
@[simp] theorem exec_retN : exec T .retN env = some (.rt (.d .none), env) := by rw [exec]; rfl
@[simp] theorem exec_brk : exec T .brk env = some (.bk, env) := by rw [exec]; rfl
@[simp] theorem exec_cnt : exec T .cnt env = some (.ct, env) := by rw [exec]; rfl
@[simp] theorem setAll_nil : setAll .nil [] env = some (.ok (), env) := rfl
@[simp] theorem setAll_cons (i : Nat) (ts : E) (w : W) (ws : List W) : setAll (.cons (.var i) ts) (w :: ws) env = bndK (setSlot i w env) fun _ => setAll ts ws := rfl
@[simp] theorem retW_d (x : D) : retW (.d x) env = some (.ok (.d x), env) := rfl
@[simp] theorem retW_own (w : W) : retW (.own w) env = some (.ok w, env) := rfl
def retS (o : Option Slot) (i : Nat) (env : Env) : Option (Res W × Env) := match o with
  | some (.ok false w) => some (.ok w, env.set i .no)
  | _ => bnd (frzAt i []) (fun x => ret (.d x)) env
@[simp] theorem retW_pth (i : Nat) : retW (.pth i []) env = retS env[i]? i env := by unfold retW retS; rfl
@[simp] theorem retS_ok (w : W) (i : Nat) : retS (some (.ok false w)) i env = some (.ok w, env.set i .no) := rfl
@[simp] theorem truM_d (x : D) : truM (.d x) env = lft (tru (.d x)) env := rfl
@[simp] theorem truM_own (w : W) : truM (.own w) env = lft (tru w) env := rfl
@[simp] theorem truM_pth (i : Nat) (sel : List Nat) : truM (.pth i sel) env = bndK (seeM (.pth i sel) env) fun w => lft (tru w) := rfl
@[simp] theorem tru_none : tru (.d .none) = some false := rfl
@[simp] theorem tru_bool (b : Bool) : tru (.d (.bool b)) = some b := rfl
@[simp] theorem tru_int (i : Int) : tru (.d (.int i)) = some (i != 0) := rfl
@[simp] theorem tru_tuple (xs : List D) : tru (.d (.tuple xs)) = some (!xs.isEmpty) := rfl
@[simp] theorem tru_list (xs : List D) : tru (.d (.list xs)) = some (!xs.isEmpty) := rfl
@[simp] theorem tru_lst (ws : List W) : tru (.lst ws) = some (!ws.isEmpty) := rfl
/-! ### operators -/
@[simp] theorem bin_int (o : Operator) (i j : Int) : binop o (.d (.int i)) (.d (.int j)) = (binI o i j).map fun k => .d (.int k) := rfl
@[simp] theorem binI_add (i j : Int) : binI .Add i j = some (i + j) := rfl
@[simp] theorem binI_sub (i j : Int) : binI .Sub i j = some (i - j) := rfl
@[simp] theorem binI_mul (i j : Int) (h : (-(2 ^ 64) < i ∧ i < 2 ^ 64) ∨ (-(2 ^ 64) < j ∧ j < 2 ^ 64)) : binI .Mult i j = some (i * j) := by
  show (if mulOk i j = true then some (i * j) else none) = _
  rw [if_pos (by unfold mulOk; simpa using h)]
@[simp] theorem binI_mod (i j : Int) (h : ¬ j = 0) : binI .Mod i j = some (i.fmod j) := by
  show (if decide (j ≠ 0) = true then some (i.fmod j) else none) = _
  rw [if_pos (by simpa using h)]
@[simp] theorem binI_div (i j : Int) (h : ¬ j = 0) (h2 : j.natAbs < 1073741824) : binI .FloorDiv i j = some (i.fdiv j) := by
  show (if decide (j ≠ 0 ∧ j.natAbs < 1073741824) = true then some (i.fdiv j) else none) = _
  rw [if_pos (decide_eq_true ⟨h, h2⟩)]
@[simp] theorem bin_tup (xs ys : List D) : binop .Add (.d (.tuple xs)) (.d (.tuple ys)) = if xs.length + ys.length ≤ big then some (.d (.tuple (xs ++ ys))) else none := rfl
@[simp] theorem un_neg (i : Int) : unop .USub (.d (.int i)) = some (.d (.int (-i))) := rfl
@[simp] theorem cmp_lt (i j : Int) : cmpop .Lt (.d (.int i)) (.d (.int j)) = some (decide (i < j)) := rfl
@[simp] theorem cmp_le (i j : Int) : cmpop .LtE (.d (.int i)) (.d (.int j)) = some (decide (i ≤ j)) := rfl
@[simp] theorem cmp_gt (i j : Int) : cmpop .Gt (.d (.int i)) (.d (.int j)) = some (decide (j < i)) := rfl
@[simp] theorem cmp_ge (i j : Int) : cmpop .GtE (.d (.int i)) (.d (.int j)) = some (decide (j ≤ i)) := rfl
@[simp] theorem cmp_isN (w : W) : cmpop .Is w (.d .none) = some (isNon w) := rfl
@[simp] theorem cmp_isnN (w : W) : cmpop .IsNot w (.d .none) = some (!isNon w) := rfl
@[simp] theorem cmp_eq (v w : W) : cmpop .Eq v w = eqW v w := rfl
@[simp] theorem cmp_ne (v w : W) : cmpop .NotEq v w = (eqW v w).map (!·) := rfl
@[simp] theorem cmp_in (v w : W) : cmpop .In v w = inW v w := rfl
@[simp] theorem cmp_notin (v w : W) : cmpop .NotIn v w = (inW v w).map (!·) := rfl
@[simp] theorem isNon_none : isNon (.d .none) = true := rfl
@[simp] theorem isNon_bool (b : Bool) : isNon (.d (.bool b)) = false := rfl
@[simp] theorem isNon_int (i : Int) : isNon (.d (.int i)) = false := rfl
@[simp] theorem isNon_str (x : Str) : isNon (.d (.str x)) = false := rfl
@[simp] theorem isNon_tup (xs : List D) : isNon (.d (.tuple xs)) = false := rfl
@[simp] theorem eq_ints (i j : Int) : eqW (.d (.int i)) (.d (.int j)) = some (decide (i = j)) := by
  show (if (fair (.int i) && fair (.int j)) = true then some (PyData.eqv (.int i) (.int j)) else none) = _
  rw [if_pos (by rfl)]
  show some (i == j) = _
  by_cases h : i = j <;> simp [h]
@[simp] theorem seqD_list (xs : List D) : seqD (.d (.list xs)) = some xs := rfl
@[simp] theorem seqD_lst (ws : List W) : seqD (.lst ws) = allD ws := rfl
@[simp] theorem allD_map' (xs : List D) : allD (xs.map .d) = some xs := by
  induction xs with
  | nil => rfl
  | cons x xs ih => rw [List.map_cons, allD, ih]; rfl
@[simp] theorem allD_mapf {κ : Type} (f : κ → D) (xs : List κ) : allD (xs.map fun x => W.d (f x)) = some (xs.map f) := by
  induction xs with
  | nil => rfl
  | cons x xs ih => rw [List.map_cons, allD, ih]; rfl
@[simp] theorem allD_nil : allD [] = some [] := rfl
@[simp] theorem allD_cons (x : D) (ws : List W) : allD (.d x :: ws) = (allD ws).map (x :: ·) := rfl
@[simp] theorem sot_tuple (xs : List D) : seqOrTup (.d (.tuple xs)) = some xs := rfl
@[simp] theorem sot_list (xs : List D) : seqOrTup (.d (.list xs)) = some xs := rfl
@[simp] theorem sot_lst (ws : List W) : seqOrTup (.lst ws) = allD ws := rfl
/-! ### builtins -/
@[simp] theorem bi_lenT (xs : List D) : biW .len [.d (.tuple xs)] = some (.d (.int xs.length)) := rfl
@[simp] theorem bi_lenL (xs : List D) : biW .len [.d (.list xs)] = some (.d (.int xs.length)) := rfl
@[simp] theorem bi_lenW (ws : List W) : biW .len [.lst ws] = some (.d (.int ws.length)) := rfl
@[simp] theorem bi_lenS (xs : List D) : biW .len [.scr xs] = some (.d (.int xs.length)) := rfl
@[simp] theorem bi_lenD (kvs : List (L2.Key × D)) : biW .len [.dct false kvs] = some (.d (.int kvs.length)) := rfl
@[simp] theorem bi_lenN (kvs : List (PySem.NestedKey × D)) : biW .len [.dcn kvs] = some (.d (.int kvs.length)) := rfl
@[simp] theorem bi_tuple (w : W) : biW .tuple [w] = (seqOrTup w).map fun xs => .d (.tuple xs) := rfl
@[simp] theorem bi_list (w : W) : biW .list [w] = (seqOrTup w).map fun xs => .lst (xs.map .d) := rfl
@[simp] theorem bi_int (i : Int) : biW .int [.d (.int i)] = some (.d (.int i)) := rfl
@[simp] theorem bi_abs (i : Int) : biW .abs [.d (.int i)] = some (.d (.int (if i < 0 then -i else i))) := rfl
@[simp] theorem bi_max (i j : Int) : biW .max [.d (.int i), .d (.int j)] = some (.d (.int (if j > i then j else i))) := rfl
@[simp] theorem bi_min (i j : Int) : biW .min [.d (.int i), .d (.int j)] = some (.d (.int (if j < i then j else i))) := rfl
@[simp] theorem bi_all (w : W) : biW .all [w] = match (seqD w).bind allB with
    | some bs => some (.d (.bool (bs.all id)))
    | none => none := rfl
@[simp] theorem bi_any (w : W) : biW .any [w] = match (seqD w).bind allB with
    | some bs => some (.d (.bool (bs.any id)))
    | none => none := rfl
@[simp] theorem bi_divmod (i j : Int) : biW .divmod [.d (.int i), .d (.int j)] = if 0 < j ∧ j < 1073741824 then some (.d (.tuple [.int (i / j), .int (i % j)])) else none := rfl
@[simp] theorem fits_app (ws : List W) : MI.append.fits (.lst ws) = true := rfl
@[simp] theorem fits_ext (ws : List W) : MI.extend.fits (.lst ws) = true := rfl
@[simp] theorem fits_pop (ws : List W) : MI.pop.fits (.lst ws) = true := rfl
@[simp] theorem fits_get (kvs : List (L2.Key × D)) : MI.get.fits (.dct false kvs) = true := rfl
@[simp] theorem fits_sd (kvs : List (L2.Key × D)) : MI.setdefault.fits (.dct false kvs) = true := rfl
@[simp] theorem takes_app : MI.append.takes = true := rfl
@[simp] theorem takes_ext : MI.extend.takes = false := rfl
@[simp] theorem takes_pop : MI.pop.takes = false := rfl
@[simp] theorem takes_get : MI.get.takes = false := rfl
@[simp] theorem takes_sd : MI.setdefault.takes = false := rfl
@[simp] theorem me_app (w : W) (as : List W) : meW .append w as = meApp w as := rfl
@[simp] theorem me_ext (w : W) (as : List W) : meW .extend w as = meExt w as := rfl
@[simp] theorem me_pop (w : W) (as : List W) : meW .pop w as = mePop w as := rfl
@[simp] theorem me_get (w : W) (as : List W) : meW .get w as = meGet w as := rfl
@[simp] theorem me_sd (w : W) (as : List W) : meW .setdefault w as = meSetd w as := rfl
@[simp] theorem tyOf_none : tyOf (.d .none) = "NoneType" := rfl
@[simp] theorem tyOf_bool (b : Bool) : tyOf (.d (.bool b)) = "bool" := rfl
@[simp] theorem tyOf_int (i : Int) : tyOf (.d (.int i)) = "int" := rfl
@[simp] theorem tyOf_str (x : Str) : tyOf (.d (.str x)) = "str" := rfl
@[simp] theorem tyOf_tup (xs : List D) : tyOf (.d (.tuple xs)) = "tuple" := rfl
@[simp] theorem tyOf_list (xs : List D) : tyOf (.d (.list xs)) = "list" := rfl
@[simp] theorem tyOf_lst (ws : List W) : tyOf (.lst ws) = "list" := rfl
@[simp] theorem isNil_nil : E.isNil .nil = true := rfl
@[simp] theorem isNil_var (i : Nat) : E.isNil (.var i) = false := rfl
@[simp] theorem isNil_cst (x : D) : E.isNil (.cst x) = false := rfl
@[simp] theorem isNil_cmp (o : CmpOp) (a b : E) : E.isNil (.cmp o a b) = false := rfl
@[simp] theorem isNil_not (a : E) : E.isNil (.not a) = false := rfl
@[simp] theorem isNil_and (a b : E) : E.isNil (.and a b) = false := rfl
@[simp] theorem isNil_or (a b : E) : E.isNil (.or a b) = false := rfl
@[simp] theorem isNil_call (f : Nat) (a : E) : E.isNil (.call f a) = false := rfl
@[simp] theorem isNil_bin (o : Operator) (a b : E) : E.isNil (.bin o a b) = false := rfl
@[simp] theorem isNil_un (o : UnaryOp) (a : E) : E.isNil (.un o a) = false := rfl
@[simp] theorem isNil_bi (b : BI) (a : E) : E.isNil (.bi b a) = false := rfl
@[simp] theorem isNil_idx (a b : E) : E.isNil (.idx a b) = false := rfl
@[simp] theorem intW_int (i : Int) : intW (.d (.int i)) = some (some i) := rfl
@[simp] theorem rng1 (n : Int) : rngW [.d (.int n)] = if -big ≤ n ∧ n ≤ big then some (rngD 0 n.toNat) else none := rfl
@[simp] theorem rng2 (a b : Int) : rngW [.d (.int a), .d (.int b)] = if -big ≤ a ∧ a ≤ big ∧ -big ≤ b ∧ b ≤ big then some (rngD a (b - a).toNat) else none := rfl
@[simp] theorem wipe_nil : wipeE env [] = env := rfl
@[simp] theorem wipe_cons (i : Nat) (l : List Nat) : wipeE env (i :: l) = wipeE (env.set i .no) l := rfl
/-! ### defs -/
def lentOk (nm : List Nat) (j : Nat) (p : Option (Bool × W)) (s : Option Slot) : Bool := match p with
  | some (true, _) => !(nm.contains j) && (match s with
    | some (.ok _ _) => true
    | _ => false)
  | _ => true
def backB (nm : List Nat) (pws : List (Bool × W)) (e : Env) : Bool := (List.range pws.length).all fun j => lentOk nm j pws[j]? e[j]?
def backG (nm : List Nat) : Nat → List (Bool × W) → Env → Bool
  | _, [], _ => true
  | j, (true, _) :: ps, .ok _ _ :: e => !(nm.contains j) && backG nm (j + 1) ps e
  | j, (false, _) :: ps, _ :: e => backG nm (j + 1) ps e
  | _, _, _ => false
theorem backG_ok (nm : List Nat) : ∀ (pws : List (Bool × W)) (j : Nat) (e : Env), backG nm j pws e = true → ∀ i, lentOk nm (j + i) pws[i]? e[i]? = true
  | [], _, _, _, i => by simp [lentOk]
  | (true, w) :: ps, j, [], h, i => by simp [backG] at h
  | (false, w) :: ps, j, [], h, i => by simp [backG] at h
  | (false, w) :: ps, j, s :: e, h, i => by
    cases i with
    | zero => simp [lentOk]
    | succ i =>
      have := backG_ok nm ps (j + 1) e (by simpa [backG] using h) i
      simpa [Nat.add_assoc, Nat.add_comm 1 i] using this
  | (true, w) :: ps, j, .no :: e, h, i => by simp [backG] at h
  | (true, w) :: ps, j, .lck :: e, h, i => by simp [backG] at h
  | (true, w) :: ps, j, .ok p w' :: e, h, i => by
    rw [backG, Bool.and_eq_true] at h
    cases i with
    | zero => simpa [lentOk] using h.1
    | succ i =>
      have := backG_ok nm ps (j + 1) e h.2 i
      simpa [Nat.add_assoc, Nat.add_comm 1 i] using this
def finK (n : Nat) (nm : List Nat) (pws : List (Bool × W)) (o : Option (Fl × Env)) : Option (Res W × List W) := match o with
  | some (.rt w, e) => if backB nm pws e = true then some (.ok w, backs n e) else none
  | some (.nx, e) => if backB nm pws e = true then some (.ok (.d .none), backs n e) else none
  | some (.ex x, e) => if backB nm pws e = true then some (.ex x, backs n e) else none
  | _ => none
theorem backB_ok {nm : List Nat} {pws : List (Bool × W)} (h : backG nm 0 pws e = true) : backB nm pws e = true := by
  unfold backB
  rw [List.all_eq_true]
  intro j _
  have := backG_ok nm pws 0 e h j
  simpa using this
theorem finK_rt {n : Nat} {nm : List Nat} {pws : List (Bool × W)} {w : W} (h : backG nm 0 pws e = true) : finK n nm pws (some (.rt w, e)) = some (.ok w, backs n e) := by
  show (if backB nm pws e = true then some (Res.ok w, backs n e) else none) = _
  rw [if_pos (backB_ok h)]
theorem finK_nx {n : Nat} {nm : List Nat} {pws : List (Bool × W)} (h : backG nm 0 pws e = true) : finK n nm pws (some (.nx, e)) = some (.ok (.d .none), backs n e) := by
  show (if backB nm pws e = true then some (Res.ok (W.d .none), backs n e) else none) = _
  rw [if_pos (backB_ok h)]
def enterE (n sl : Nat) (pws : List (Bool × W)) : Env := pws.map (fun p => Slot.ok p.1 p.2) ++ List.replicate (sl - n) .no
theorem call_eq {fns : List FnI} {glob : Str → Option D} {l j n sl : Nat} {b : S} {pws : List (Bool × W)} (hF : fns[j]? = some ⟨n, sl, b⟩) (hn : pws.length = n) : callAt fns glob (l + 1) j pws = finK n b.names pws (exec ⟨callAt fns glob l, glob⟩ b (enterE n sl pws)) := by
  rw [callAt, hF]
  show runFn _ _ _ = _
  unfold runFn
  rw [if_pos hn]
  rfl
end
end Ev.Sh
end

section
set_option Elab.async false
set_option linter.all false
set_option autoImplicit true
set_option maxRecDepth 100000
/-! ShB: indices, slices, data, walks. -/
namespace Ev.Sh
open PySem (PyData Str Operator UnaryOp CmpOp)
section
variable {α β γ δ : Type} {T : Tb} {env e e1 : Env}
/-! ### indices -/
theorem ixN_ok {n : Nat} {i : Int} (h0 : 0 ≤ i) (h1 : i < n) : L2.ixN n i = some i.toNat := by
  unfold L2.ixN; rw [if_pos h0, if_pos h1]
theorem ixN_neg {n : Nat} {i : Int} (h0 : i < 0) (h1 : -(n : Int) ≤ i) : L2.ixN n i = some (i + n).toNat := by
  unfold L2.ixN; rw [if_neg (by omega), if_pos h1]
theorem atI_ok {xs : List α} {i : Int} (h0 : 0 ≤ i) (h1 : i < xs.length) : L2.atI xs i = xs[i.toNat]? := by
  unfold L2.atI; rw [ixN_ok h0 h1]; rfl
def idxW (o : R) (k : Nat) (w : Option W) : Option R := match w with
  | none => none
  | some (.d x) => some (.d x)
  | some _ => match o with
    | .pth j sel => some (.pth j (sel ++ [k]))
    | _ => none
@[simp] theorem idxW_d (o : R) (k : Nat) (x : D) : idxW o k (some (.d x)) = some (.d x) := rfl
@[simp] theorem idxW_lst (j : Nat) (sel : List Nat) (k : Nat) (ws : List W) : idxW (.pth j sel) k (some (.lst ws)) = some (.pth j (sel ++ [k])) := rfl
@[simp] theorem idx_lst (o : R) (ws : List W) (i : Int) : idx o (.lst ws) (.d (.int i)) = (L2.ixN ws.length i).bind fun k => idxW o k ws[k]? := by
  show (match L2.ixN ws.length i with | none => none | some k => _) = _
  cases L2.ixN ws.length i with
  | none => rfl
  | some k =>
    show (match ws[k]? with | none => none | some (.d x) => some (.d x) | some w => _) = idxW o k ws[k]?
    cases ws[k]? with
    | none => rfl
    | some w => cases w <;> cases o <;> rfl
@[simp] theorem idx_tup (o : R) (xs : List D) (i : Int) : idx o (.d (.tuple xs)) (.d (.int i)) = (L2.atI xs i).map .d := rfl
@[simp] theorem idx_list (o : R) (xs : List D) (i : Int) : idx o (.d (.list xs)) (.d (.int i)) = (L2.atI xs i).map .d := rfl
@[simp] theorem idx_scr (o : R) (xs : List D) (i : Int) : idx o (.scr xs) (.d (.int i)) = (L2.atI xs i).map .d := rfl
@[simp] theorem idx_dctI (o : R) (b : Bool) (kvs : List (L2.Key × D)) (i : Int) : idx o (.dct b kvs) (.d (.int i)) = (getK kvs (.inl i)).map .d := rfl
@[simp] theorem atI_0 (x : α) (xs : List α) : L2.atI (x :: xs) 0 = some x := by rw [atI_ok (by omega) (by simp only [List.length_cons]; omega)]; rfl
@[simp] theorem atI_1 (x y : α) (xs : List α) : L2.atI (x :: y :: xs) 1 = some y := by rw [atI_ok (by omega) (by simp only [List.length_cons]; omega)]; rfl
@[simp] theorem atI_2 (x y z : α) (xs : List α) : L2.atI (x :: y :: z :: xs) 2 = some z := by rw [atI_ok (by omega) (by simp only [List.length_cons]; omega)]; rfl
@[simp] theorem ixN_0 (n : Nat) : L2.ixN (n + 1) 0 = some 0 := by rw [ixN_ok (by omega) (by omega)]; rfl
@[simp] theorem ixN_1 (n : Nat) : L2.ixN (n + 2) 1 = some 1 := by rw [ixN_ok (by omega) (by omega)]; rfl
@[simp] theorem ixN_2 (n : Nat) : L2.ixN (n + 3) 2 = some 2 := by rw [ixN_ok (by omega) (by omega)]; rfl
@[simp] theorem ixN_lst0 (x : α) (xs : List α) : L2.ixN (x :: xs).length 0 = some 0 := by rw [ixN_ok (by omega) (by simp only [List.length_cons]; omega)]; rfl
@[simp] theorem ixN_lst1 (x y : α) (xs : List α) : L2.ixN (x :: y :: xs).length 1 = some 1 := by rw [ixN_ok (by omega) (by simp only [List.length_cons]; omega)]; rfl
@[simp] theorem stW_lst (ws : List W) (i : Int) (x : W) : stW (.lst ws) (.d (.int i)) x = (L2.ixN ws.length i).map fun k => .lst (ws.set k x) := rfl
@[simp] theorem stW_dct (kvs : List (L2.Key × D)) (i : Int) (v : D) : stW (.dct false kvs) (.d (.int i)) (.d v) = if kvs.length < big then some (.dct false (setK kvs (.inl i) v)) else none := rfl
/-! ### slices -/
@[simp] theorem slc_tup (xs : List D) (lo hi : Option Int) : slc (.d (.tuple xs)) lo hi = some (.d (.tuple (cut xs lo hi))) := rfl
@[simp] theorem slc_lst (ws : List W) (lo hi : Option Int) : slc (.lst ws) lo hi = (allD ws).map fun xs => .lst ((cut xs lo hi).map .d) := rfl
@[simp] theorem slc_scr (xs : List D) (lo hi : Option Int) : slc (.scr xs) lo hi = some (.lst ((cut xs lo hi).map .d)) := rfl
theorem cut_from (xs : List α) {i : Int} (h : 0 ≤ i) : cut xs (some i) none = xs.drop i.toNat := by
  unfold cut HT.sIx
  simp only
  rw [if_neg (by omega)]
  by_cases hl : i.toNat ≤ xs.length
  · rw [Nat.min_eq_left hl, List.take_of_length_le (by simp)]
  · rw [Nat.min_eq_right (by omega), List.drop_eq_nil_of_le (by omega : xs.length ≤ i.toNat), List.drop_eq_nil_of_le (Nat.le_refl _)]; simp
theorem cut_to (xs : List α) {i : Int} (h : 0 ≤ i) : cut xs none (some i) = xs.take i.toNat := by
  unfold cut HT.sIx
  simp only
  rw [if_neg (by omega)]
  by_cases hl : i.toNat ≤ xs.length
  · rw [Nat.min_eq_left hl]; simp
  · rw [Nat.min_eq_right (by omega), List.take_of_length_le (by omega : xs.length ≤ i.toNat)]; simp
/-! ### data -/
@[simp] theorem eqv_ints (i j : Int) : PyData.eqv (.int i) (.int j) = (i == j) := rfl
@[simp] theorem eqv_bools (i j : Bool) : PyData.eqv (.bool i) (.bool j) = (i == j) := rfl
@[simp] theorem eqv_strs (x y : Str) : PyData.eqv (.str x) (.str y) = (x == y) := rfl
@[simp] theorem eqv_tups (xs ys : List D) : PyData.eqv (.tuple xs) (.tuple ys) = PyData.eqvAll xs ys := rfl
@[simp] theorem eqv_bi (b : Bool) (i : Int) : PyData.eqv (.bool b) (.int i) = ((if b then 1 else 0) == i) := rfl
@[simp] theorem eqv_ib (b : Bool) (i : Int) : PyData.eqv (.int i) (.bool b) = (i == (if b then 1 else 0)) := rfl
@[simp] theorem fair_int (i : Int) : fair (.int i) = true := rfl
@[simp] theorem fair_bool (i : Bool) : fair (.bool i) = true := rfl
@[simp] theorem fair_none : fair .none = true := rfl
@[simp] theorem eq_bools (i j : Bool) : eqW (.d (.bool i)) (.d (.bool j)) = some (i == j) := rfl
/-- ints, texts, None, tuples of such, n levels deep -/
def cln : Nat → D → Bool
  | _, .none => true
  | _, .int _ => true
  | _, .str x => PyData.canLay0 (.str x)
  | n + 1, .tuple xs => xs.all (cln n)
  | _, _ => false
theorem canLayAll_all : ∀ (xs : List D), PyData.canLayAll0 xs = xs.all PyData.canLay0
  | [] => rfl
  | x :: xs => by rw [PyData.canLayAll0, canLayAll_all xs]; rfl
theorem depthAll_le : ∀ (xs : List D) (n : Nat), (∀ x ∈ xs, x.depth ≤ n) → PyData.depthAll xs ≤ n
  | [], n, _ => by rw [PyData.depthAll]; omega
  | x :: xs, n, h => by
    rw [PyData.depthAll]
    have h1 := h x (by simp)
    have h2 := depthAll_le xs n fun y hy => h y (by simp [hy])
    omega
theorem cln_ok : ∀ {n : Nat} {d : D}, cln n d = true → d.canLay0 = true ∧ d.depth ≤ n
  | n, .none, _ => ⟨rfl, by rw [PyData.depth]; omega⟩
  | n, .int _, _ => ⟨rfl, by rw [PyData.depth]; omega⟩
  | n, .str x, h => ⟨by cases n <;> exact h, by rw [PyData.depth]; omega⟩
  | 0, .tuple xs, h => by simp [cln] at h
  | n + 1, .tuple xs, h => by
    have h : xs.all (cln n) = true := h
    have h' := List.all_eq_true.mp h
    refine ⟨?_, ?_⟩
    · show PyData.canLayAll0 xs = true
      rw [canLayAll_all, List.all_eq_true]
      exact fun x hx => (cln_ok (h' x hx)).1
    · rw [PyData.depth]
      have := depthAll_le xs n fun x hx => (cln_ok (h' x hx)).2
      omega
  | 0, .bool _, h => by simp [cln] at h
  | n + 1, .bool _, h => by simp [cln] at h
  | 0, .list _, h => by simp [cln] at h
  | n + 1, .list _, h => by simp [cln] at h
  | 0, .dict _, h => by simp [cln] at h
  | n + 1, .dict _, h => by simp [cln] at h
theorem cln_fair {n : Nat} {d : D} (h : cln n d = true) (hn : n ≤ 64) : fair d = true := by
  unfold fair PySem.SeqAt.shaped
  obtain ⟨h1, h2⟩ := cln_ok h
  simp [h1]; omega
theorem eqvAll_iff : ∀ {xs ys : List D}, (∀ x ∈ xs, ∀ y ∈ ys, (PyData.eqv x y = true ↔ x = y)) → (PyData.eqvAll xs ys = true ↔ xs = ys)
  | [], [], _ => by simp [PyData.eqvAll]
  | [], _ :: _, _ => by simp [PyData.eqvAll]
  | _ :: _, [], _ => by simp [PyData.eqvAll]
  | a :: xs, b :: ys, h => by
    rw [PyData.eqvAll, Bool.and_eq_true, h a (by simp) b (by simp), eqvAll_iff (xs := xs) (ys := ys) fun x hx y hy => h x (by simp [hx]) y (by simp [hy])]
    simp
theorem cln_eqv : ∀ {n m : Nat} {x y : D}, cln n x = true → cln m y = true → (PyData.eqv x y = true ↔ x = y) := by
  intro n
  induction n with
  | zero =>
    intro m x y hx hy
    cases x <;> first | (simp [cln] at hx; done) | skip
    all_goals (cases y <;> first | (cases m <;> simp [cln] at hy; done) | simp [PyData.eqv])
  | succ n ih =>
    intro m x y hx hy
    cases x <;> first | (simp [cln] at hx; done) | skip
    case tuple xs =>
      cases y <;> first | (cases m <;> simp [cln] at hy; done) | skip
      case tuple ys =>
        cases m with
        | zero => simp [cln] at hy
        | succ m =>
          have hx : xs.all (cln n) = true := hx
          have hy : ys.all (cln m) = true := hy
          rw [eqv_tups, PyData.tuple.injEq]
          exact eqvAll_iff fun x hx' y hy' => ih (List.all_eq_true.mp hx x hx') (List.all_eq_true.mp hy y hy')
      all_goals simp [PyData.eqv]
    all_goals (cases y <;> first | (cases m <;> simp [cln] at hy; done) | simp [PyData.eqv])
theorem eqW_cln {n m : Nat} {x y : D} (hx : cln n x = true) (hy : cln m y = true) (hn : n ≤ 64) (hm : m ≤ 64) : eqW (.d x) (.d y) = some (PyData.eqv x y) := by
  show (if (fair x && fair y) = true then some (PyData.eqv x y) else none) = _
  rw [if_pos (by rw [cln_fair hx hn, cln_fair hy hm]; rfl)]
theorem eqW_self {n : Nat} {x : D} (hx : cln n x = true) (hn : n ≤ 64) : eqW (.d x) (.d x) = some true := by
  rw [eqW_cln hx hx hn hn, (cln_eqv hx hx).mpr rfl]
theorem eqW_ne {n m : Nat} {x y : D} (hx : cln n x = true) (hy : cln m y = true) (hn : n ≤ 64) (hm : m ≤ 64) (h : x ≠ y) : eqW (.d x) (.d y) = some false := by
  rw [eqW_cln hx hy hn hm]
  congr 1
  exact Bool.eq_false_iff.mpr fun e => h ((cln_eqv hx hy).mp e)
/-! ### comprehensions -/
def turnL (own : List Nat) (as : D → M Unit) (c : M Bool) (el : M W) (x : D) (env : Env) : Option (Res (Option W) × Env) :=
  bnd (as x) (fun _ => bnd c fun b => if b = true then bnd el fun w => fun e => some (.ok (some w), wipeE e own) else fun e => some (.ok none, wipeE e own)) env
def lcK (own : List Nat) (as : D → M Unit) (c : M Bool) (el : M W) (xs : List D) (acc : List W) (o : Option (Res (Option W) × Env)) : Option (Res (List W) × Env) := match o with
  | some (.ok (some w), e) => if acc.length < big then lcL own as c el xs (acc ++ [w]) e else none
  | some (.ok none, e) => lcL own as c el xs acc e
  | some (.ex x, e) => some (.ex x, e)
  | none => none
theorem lcL_cons (own : List Nat) (as : D → M Unit) (c : M Bool) (el : M W) (x : D) (xs : List D) (acc : List W) (env : Env) : lcL own as c el (x :: xs) acc env = lcK own as c el xs acc (turnL own as c el x env) := by
  rw [lcL]
  show bndK (as x env) _ = lcK own as c el xs acc (bndK (as x env) _)
  cases as x env with
  | none => rfl
  | some r1 =>
    obtain ⟨r1, e1⟩ := r1
    cases r1 with
    | ex x => rfl
    | ok u =>
      show bndK (c e1) _ = lcK own as c el xs acc (bndK (c e1) _)
      cases c e1 with
      | none => rfl
      | some r2 =>
        obtain ⟨r2, e2⟩ := r2
        cases r2 with
        | ex x => rfl
        | ok b =>
          cases b with
          | false => rfl
          | true =>
            show bndK (el e2) _ = lcK own as c el xs acc (bndK (el e2) _)
            cases el e2 with
            | none => rfl
            | some r3 =>
              obtain ⟨r3, e3⟩ := r3
              cases r3 <;> rfl
theorem lcL_rel {own : List Nat} {as : D → M Unit} {c : M Bool} {el : M W} (R : List D → List W → Env → Prop) (hb : ∀ x xs acc env, R (x :: xs) acc env → acc.length < big)
    (h : ∀ x xs acc env, R (x :: xs) acc env → (∃ w env', turnL own as c el x env = some (.ok (some w), env') ∧ R xs (acc ++ [w]) env') ∨ ∃ env', turnL own as c el x env = some (.ok none, env') ∧ R xs acc env') :
    ∀ (xs : List D) (acc : List W) (env : Env), R xs acc env → ∃ ws env', lcL own as c el xs acc env = some (.ok ws, env') ∧ R [] ws env'
  | [], acc, env, r => ⟨acc, env, rfl, r⟩
  | x :: xs, acc, env, r => by
    rw [lcL_cons]
    rcases h x xs acc env r with ⟨w, e, h1, h2⟩ | ⟨e, h1, h2⟩
    · obtain ⟨ws, e', h3, h4⟩ := lcL_rel R hb h xs (acc ++ [w]) e h2
      exact ⟨ws, e', by rw [h1]; show (if acc.length < big then _ else none) = _; rw [if_pos (hb _ _ _ _ r), h3], h4⟩
    · obtain ⟨ws, e', h3, h4⟩ := lcL_rel R hb h xs acc e h2
      exact ⟨ws, e', by rw [h1]; exact h3, h4⟩
theorem lcL_elim {own : List Nat} {as : D → M Unit} {c : M Bool} {el : M W} {κ : Type} (P : Option (Res (List W) × Env) → Prop) (enc : κ → D) (R : List κ → List W → Env → Prop) {bs : List κ} {acc : List W} {env : Env} (r : R bs acc env)
    (h : ∀ x xs acc env, R (x :: xs) acc env → acc.length < big ∧ ∃ w env', turnL own as c el (enc x) env = some (.ok (some w), env') ∧ R xs (acc ++ [w]) env')
    (q : ∀ ws env', R [] ws env' → P (some (.ok ws, env'))) : P (lcL own as c el (bs.map enc) acc env) := by
  obtain ⟨ws, e, h1, h2⟩ := lcL_rel (own := own) (as := as) (c := c) (el := el) (fun ds acc env => ∃ bs, ds = bs.map enc ∧ R bs acc env)
    (fun x xs acc env ⟨bs, e, r⟩ => by
      cases bs with
      | nil => cases e
      | cons b bs => exact (h b bs acc env r).1)
    (fun x xs acc env ⟨bs, e, r⟩ => by
      cases bs with
      | nil => cases e
      | cons b bs =>
        rw [List.map_cons] at e
        cases e
        obtain ⟨_, w, env', h1, h2⟩ := h b bs acc env r
        exact .inl ⟨w, env', h1, bs, rfl, h2⟩) (bs.map enc) acc env ⟨bs, rfl, r⟩
  obtain ⟨bs', e', h2⟩ := h2
  cases bs' with
  | nil => rw [h1]; exact q ws e h2
  | cons _ _ => cases e'
theorem lcL_mapR {own : List Nat} {as : D → M Unit} {c : M Bool} {el : M W} {κ : Type} (P : Option (Res (List W) × Env) → Prop) (Rel : Env → Prop) (enc : κ → D) (g : κ → W) (bs : List κ) (hb : bs.length ≤ big) (r : Rel env)
    (h : ∀ b ∈ bs, ∀ env, Rel env → ∃ env', turnL own as c el (enc b) env = some (.ok (some (g b)), env') ∧ Rel env') (q : ∀ env', Rel env' → P (some (.ok (bs.map g), env'))) : P (lcL own as c el (bs.map enc) [] env) := by
  refine lcL_elim (P := P) enc (fun rest acc env => Rel env ∧ ∃ done, bs = done ++ rest ∧ acc = done.map g) ⟨r, [], rfl, rfl⟩ ?_ ?_
  · rintro x xs acc env ⟨r, done, e, rfl⟩
    obtain ⟨env', h1, h2⟩ := h x (by rw [e]; simp) env r
    refine ⟨by rw [e] at hb; simp at hb ⊢; omega, g x, env', h1, h2, done ++ [x], by rw [e]; simp, by simp⟩
  · rintro ws env' ⟨r, done, e, rfl⟩
    rw [List.append_nil] at e
    rw [← e]
    exact q env' r
/-- each turn leaves the state, and gives g x -/
theorem lcL_map {own : List Nat} {as : D → M Unit} {c : M Bool} {el : M W} (g : D → W) : ∀ (xs : List D) (acc : List W), (∀ x ∈ xs, turnL own as c el x env = some (.ok (some (g x)), env)) → acc.length + xs.length ≤ big →
    lcL own as c el xs acc env = some (.ok (acc ++ xs.map g), env)
  | [], acc, _, _ => by simp [lcL]
  | x :: xs, acc, h, hb => by
    rw [lcL_cons, h x (by simp)]
    simp only [List.length_cons] at hb
    show (if acc.length < big then _ else none) = _
    rw [if_pos (by omega), lcL_map g xs (acc ++ [g x]) (fun y hy => h y (by simp [hy])) (by simp; omega)]
    simp
/-- .. where it is taken at all -/
theorem lcL_filt {own : List Nat} {as : D → M Unit} {c : M Bool} {el : M W} (g : D → Option W) : ∀ (xs : List D) (acc : List W), (∀ x ∈ xs, turnL own as c el x env = some (.ok (g x), env)) → acc.length + xs.length ≤ big →
    lcL own as c el xs acc env = some (.ok (acc ++ xs.filterMap g), env)
  | [], acc, _, _ => by simp [lcL]
  | x :: xs, acc, h, hb => by
    rw [lcL_cons, h x (by simp)]
    simp only [List.length_cons] at hb
    cases hg : g x with
    | none =>
      show lcL own as c el xs acc env = _
      rw [lcL_filt g xs acc (fun y hy => h y (by simp [hy])) (by omega), List.filterMap_cons, hg]
    | some w =>
      show (if acc.length < big then _ else none) = _
      rw [if_pos (by omega), lcL_filt g xs (acc ++ [w]) (fun y hy => h y (by simp [hy])) (by simp; omega), List.filterMap_cons, hg]
      simp
@[simp] theorem turnL_app (own : List Nat) (as : D → M Unit) (c : M Bool) (el : M W) (x : D) : turnL own as c el x env = bndK (as x env) fun _ => bnd c fun b => if b = true then bnd el fun w => fun e => some (.ok (some w), wipeE e own) else fun e => some (.ok none, wipeE e own) := rfl
/-- a comprehension's answer -/
def lcE (o : Option (Res (List W) × Env)) : Option (Res (List R) × Env) := match o with
  | some (.ok ws, e) => some (.ok [.own (.lst ws)], e)
  | _ => none
@[simp] theorem lcE_ok (ws : List W) : lcE (some (.ok ws, e)) = some (.ok [.own (.lst ws)], e) := rfl
def unlkE (l : Option Nat) (o : Option (Res α × Env)) : Option (Res α × Env) := match o with
  | some (.ok a, e) => (unlock l e).map fun e => (.ok a, e)
  | _ => none
@[simp] theorem unlkE_no (a : α) : unlkE none (some (.ok a, e)) = some (.ok a, e) := rfl
theorem whileLk_no {it : E} {m : M α} (h : lockFor it env = (none, env)) : whileLk it m env = unlkE none (m env) := by
  unfold whileLk unlkE
  rw [h] <;> rfl
theorem whileLk_some {it : E} {m : M α} {i : Nat} {env' : Env} (h : lockFor it env = (some i, env')) : whileLk it m env = unlkE (some i) (m env') := by
  unfold whileLk unlkE
  rw [h] <;> rfl
def elW (T : Tb) (e : E) : M W := bnd (ev T e) fun xs => bnd (sole xs) toW
def cnW (T : Tb) (e : E) : M Bool := if e.isNil = true then ret true else bnd (ev T e) fun xs => bnd (sole xs) truM
theorem ev_lcS (own : List Nat) (t it c elt : E) : ev T (.lc own t it c elt) env = whileLk it (bnd (evI T it) fun src => fun env => lcE (lcL own (fun x => asg T t [.d x]) (cnW T c) (elW T elt) src [] (wipeE env own))) env := by
  rw [ev]
  rfl
@[simp] theorem elW_app (e : E) : elW T e env = bndK (ev T e env) fun xs => bnd (sole xs) toW := rfl
@[simp] theorem cnW_nil : cnW T .nil env = some (.ok true, env) := rfl
theorem cnW_app (e : E) (h : e.isNil = false) : cnW T e env = bndK (ev T e env) fun xs => bnd (sole xs) truM := by
  unfold cnW; rw [if_neg (by rw [h]; simp)]; rfl
theorem lcL_mapA {own : List Nat} {as : D → M Unit} {c : M Bool} {el : M W} {κ : Type} (enc : κ → D) (g : κ → W) : ∀ (bs : List κ) (acc : List W), (∀ b ∈ bs, turnL own as c el (enc b) env = some (.ok (some (g b)), env)) → acc.length + bs.length ≤ big →
    lcL own as c el (bs.map enc) acc env = some (.ok (acc ++ bs.map g), env)
  | [], acc, _, _ => by simp [lcL]
  | b :: bs, acc, h, hb => by
    simp only [List.length_cons] at hb
    rw [List.map_cons, lcL_cons, h b (by simp)]
    show (if acc.length < big then _ else none) = _
    rw [if_pos (by omega), lcL_mapA enc g bs (acc ++ [g b]) (fun y hy => h y (by simp [hy])) (by simp; omega)]
    simp
theorem lcL_mapE {own : List Nat} {as : D → M Unit} {c : M Bool} {el : M W} {κ : Type} (enc : κ → D) (g : κ → W) (bs : List κ) (h : ∀ b ∈ bs, turnL own as c el (enc b) env = some (.ok (some (g b)), env)) (hb : bs.length ≤ big) :
    lcL own as c el (bs.map enc) [] env = some (.ok (bs.map g), env) := by
  rw [lcL_mapA enc g bs [] h (by simpa using hb)]; simp
def turnO (own : List Nat) (as : D → M Unit) (c : M Bool) (inner : List W → M (List W)) (x : D) (acc : List W) : M (List W) := fun env => bnd (as x) (fun _ => bnd c fun b => if b = true then bnd (inner acc) fun acc' => fun e => some (.ok acc', wipeE e own) else fun e => some (.ok acc, wipeE e own)) env
@[simp] theorem turnO_app (own : List Nat) (as : D → M Unit) (c : M Bool) (inner : List W → M (List W)) (x : D) (acc : List W) : turnO own as c inner x acc env = bndK (as x env) fun _ => bnd c fun b => if b = true then bnd (inner acc) fun acc' => fun e => some (.ok acc', wipeE e own) else fun e => some (.ok acc, wipeE e own) := rfl
theorem lcO_cons (own : List Nat) (as : D → M Unit) (c : M Bool) (inner : List W → M (List W)) (x : D) (xs : List D) (acc : List W) (env : Env) : lcO own as c inner (x :: xs) acc env = bndK (turnO own as c inner x acc env) fun acc' => lcO own as c inner xs acc' := by
  rw [lcO]
  show bndK (as x env) _ = bndK (bndK (as x env) _) _
  cases as x env with
  | none => rfl
  | some r1 =>
    obtain ⟨r1, e1⟩ := r1
    cases r1 with
    | ex x => rfl
    | ok u =>
      show bndK (c e1) _ = bndK (bndK (c e1) _) _
      cases c e1 with
      | none => rfl
      | some r2 =>
        obtain ⟨r2, e2⟩ := r2
        cases r2 with
        | ex x => rfl
        | ok b =>
          cases b with
          | false => rfl
          | true =>
            show bndK (inner acc e2) _ = bndK (bndK (inner acc e2) _) _
            cases inner acc e2 with
            | none => rfl
            | some r3 =>
              obtain ⟨r3, e3⟩ := r3
              cases r3 <;> rfl
theorem lcO_mapA {own : List Nat} {as : D → M Unit} {c : M Bool} {inner : List W → M (List W)} {κ : Type} (enc : κ → D) (g : κ → List W) (N : Nat) : ∀ (bs : List κ) (acc : List W), (∀ b ∈ bs, ∀ acc : List W, acc.length + (g b).length ≤ N → turnO own as c inner (enc b) acc env = some (.ok (acc ++ g b), env)) → acc.length + (bs.flatMap g).length ≤ N →
    lcO own as c inner (bs.map enc) acc env = some (.ok (acc ++ bs.flatMap g), env)
  | [], acc, _, _ => by simp [lcO]
  | b :: bs, acc, h, hb => by
    rw [List.flatMap_cons, List.length_append] at hb
    rw [List.map_cons, lcO_cons, h b (by simp) acc (by omega), bndK_ok, lcO_mapA enc g N bs (acc ++ g b) (fun y hy => h y (by simp [hy])) (by rw [List.length_append]; omega), List.flatMap_cons]
    simp
theorem lcO_mapE {own : List Nat} {as : D → M Unit} {c : M Bool} {inner : List W → M (List W)} {κ : Type} (enc : κ → D) (g : κ → List W) (bs : List κ) (h : ∀ b ∈ bs, ∀ acc : List W, acc.length + (g b).length ≤ big → turnO own as c inner (enc b) acc env = some (.ok (acc ++ g b), env)) (hb : (bs.flatMap g).length ≤ big) :
    lcO own as c inner (bs.map enc) [] env = some (.ok (bs.flatMap g), env) := by
  rw [lcO_mapA enc g big bs [] h (by simpa using hb)]; simp
def innW (T : Tb) (own2 : List Nat) (t2 it2 c2 elt : E) (acc : List W) : M (List W) := bnd (evI T it2) fun src2 => fun env2 => lcL own2 (fun x => asg T t2 [.d x]) (cnW T c2) (elW T elt) src2 acc (wipeE env2 own2)
@[simp] theorem innW_app (own2 : List Nat) (t2 it2 c2 elt : E) (acc : List W) : innW T own2 t2 it2 c2 elt acc env = bndK (evI T it2 env) fun src2 => fun env2 => lcL own2 (fun x => asg T t2 [.d x]) (cnW T c2) (elW T elt) src2 acc (wipeE env2 own2) := rfl
theorem ev_lc2S (own own2 : List Nat) (t it c t2 it2 c2 elt : E) : ev T (.lc2 own own2 t it c t2 it2 c2 elt) env = whileLk it (bnd (evI T it) fun src => fun env => lcE (lcO own (fun x => asg T t [.d x]) (cnW T c) (innW T own2 t2 it2 c2 elt) src [] (wipeE env own))) env := by
  rw [ev]
  rfl
/-! ### for loops -/
def forT (as : D → M Unit) (b : X) (x : D) (env : Env) : Option (Fl × Env) := match ofM (as x) (fun _ => b) env with
  | some (.ct, e) => some (.nx, e)
  | o => o
def ctK (o : Option (Fl × Env)) : Option (Fl × Env) := match o with
  | some (.ct, e) => some (.nx, e)
  | o => o
@[simp] theorem ctK_nx : ctK (some (.nx, e)) = some (.nx, e) := rfl
@[simp] theorem ctK_ct : ctK (some (.ct, e)) = some (.nx, e) := rfl
@[simp] theorem ctK_rt (w : W) : ctK (some (.rt w, e)) = some (.rt w, e) := rfl
@[simp] theorem forT_app (as : D → M Unit) (b : X) (x : D) : forT as b x env = ctK (ofK (as x env) fun _ => b) := rfl
def forK (as : D → M Unit) (b : X) (xs : List D) (o : Option (Fl × Env)) : Option (Fl × Env) := match o with
  | some (.nx, e) => forL as b xs e
  | some (.bk, e) => some (.nx, e)
  | o => o
theorem forL_cons (as : D → M Unit) (b : X) (x : D) (xs : List D) : forL as b (x :: xs) env = forK as b xs (forT as b x env) := by
  rw [forL]
  unfold forT ofM
  cases h1 : as x env with
  | none => rfl
  | some r =>
    obtain ⟨r, e1⟩ := r
    cases r with
    | ex x => rfl
    | ok u =>
      simp only
      cases h2 : b e1 with
      | none => rfl
      | some r2 =>
        obtain ⟨f, e2⟩ := r2
        cases f <;> rfl
@[simp] theorem forL_nil (as : D → M Unit) (b : X) : forL as b [] env = some (.nx, env) := rfl
theorem forL_rel {as : D → M Unit} {b : X} (R : List D → Env → Prop) (h : ∀ x xs env, R (x :: xs) env → ∃ env', forT as b x env = some (.nx, env') ∧ R xs env') :
    ∀ (xs : List D) (env : Env), R xs env → ∃ env', forL as b xs env = some (.nx, env') ∧ R [] env'
  | [], env, r => ⟨env, rfl, r⟩
  | x :: xs, env, r => by
    obtain ⟨e, h1, h2⟩ := h x xs env r
    obtain ⟨e', h3, h4⟩ := forL_rel R h xs e h2
    exact ⟨e', by rw [forL_cons, h1]; exact h3, h4⟩
theorem forL_relE {as : D → M Unit} {b : X} {κ : Type} (enc : κ → D) (R : List κ → Env → Prop) (h : ∀ x xs env, R (x :: xs) env → ∃ env', forT as b (enc x) env = some (.nx, env') ∧ R xs env') :
    ∀ (xs : List κ) (env : Env), R xs env → ∃ env', forL as b (xs.map enc) env = some (.nx, env') ∧ R [] env'
  | [], env, r => ⟨env, rfl, r⟩
  | x :: xs, env, r => by
    obtain ⟨e, h1, h2⟩ := h x xs env r
    obtain ⟨e', h3, h4⟩ := forL_relE enc R h xs e h2
    exact ⟨e', by rw [List.map_cons, forL_cons, h1]; exact h3, h4⟩
theorem forL_elim {as : D → M Unit} {b : X} {κ : Type} (P : Option (Fl × Env) → Prop) (enc : κ → D) (R : List κ → Env → Prop) {xs : List κ} {env : Env} (r : R xs env) (h : ∀ x xs env, R (x :: xs) env → ∃ env', forT as b (enc x) env = some (.nx, env') ∧ R xs env')
    (q : ∀ env', R [] env' → P (some (.nx, env'))) : P (forL as b (xs.map enc) env) := by
  obtain ⟨e, h1, h2⟩ := forL_relE enc R h xs env r
  rw [h1]
  exact q e h2
theorem forL_ex {as : D → M Unit} {b : X} {κ : Type} {Q : Env → Prop} (f : Option (Fl × Env) → Option (Fl × Env)) (enc : κ → D) (R : List κ → Env → Prop) {xs : List κ} {env : Env} (r : R xs env) (h : ∀ x xs env, R (x :: xs) env → ∃ env', forT as b (enc x) env = some (.nx, env') ∧ R xs env')
    (q : ∀ env', R [] env' → ∃ e, f (some (.nx, env')) = some (.nx, e) ∧ Q e) : ∃ e, f (forL as b (xs.map enc) env) = some (.nx, e) ∧ Q e :=
  forL_elim (P := fun o => ∃ e, f o = some (.nx, e) ∧ Q e) enc R r h q
/-- a slot that a loop may store in -/
def Free (s : Slot) : Prop := s = .no ∨ ∃ w, s = .ok false w
theorem Free.no : Free .no := .inl rfl
theorem Free.ok (w : W) : Free (.ok false w) := .inr ⟨w, rfl⟩
theorem setK2_free {s : Slot} (h : Free s) (i : Nat) (w : W) : setK2 (some s) i w env = some (.ok (), env.set i (.ok false w)) := by
  rcases h with rfl | ⟨w0, rfl⟩ <;> rfl
@[simp] theorem each_dat_app {κ : Type} (f : κ → D) (ys : List R) : ∀ (xs : List κ), each dat (xs.map (R.d ∘ f) ++ ys) env = bndK (each dat ys env) fun bs => ret (xs.map f ++ bs)
  | [] => by
    show each dat ys env = bndK (each dat ys env) fun bs => ret bs
    cases each dat ys env with
    | none => rfl
    | some r =>
      obtain ⟨r, e⟩ := r
      cases r <;> rfl
  | x :: xs => by
    rw [List.map_cons, List.cons_append, each_cons]
    simp only [Function.comp_apply, dat_d, bndK_ok, bnd_app]
    rw [each_dat_app f ys xs]
    cases each dat ys env with
    | none => rfl
    | some r =>
      obtain ⟨r, e⟩ := r
      cases r <;> rfl
/-! ### walks -/
@[simp] theorem enumD_list (zs : List D) : enumD (.list zs) = some (enumL zs) := rfl
@[simp] theorem zipD_list (xs ys : List D) : zipD (.list xs) (.list ys) = some (zipL xs ys) := rfl
@[simp] theorem zipD_tup (xs ys : List D) : zipD (.tuple xs) (.tuple ys) = some (zipL xs ys) := rfl
@[simp] theorem lock_rng (es : E) : lockFor (.rng es) env = (none, env) := rfl
@[simp] theorem lock_call (f : Nat) (es : E) : lockFor (.call f es) env = (none, env) := rfl
@[simp] theorem lock_idx (a i : E) : lockFor (.idx a i) env = (none, env) := rfl
@[simp] theorem lock_slc (a l h : E) : lockFor (.slc a l h) env = (none, env) := rfl
@[simp] theorem lock_zip (a b : E) : lockFor (.zip a b) env = (none, env) := rfl
@[simp] theorem lock_enum (a : E) : lockFor (.enum a) env = (none, env) := rfl
@[simp] theorem lock_tup (a : E) : lockFor (.tup a) env = (none, env) := rfl
theorem lock_var {i : Nat} {p : Bool} {x : D} (h : env[i]? = some (.ok p (.d x))) : lockFor (.var i) env = (none, env) := by
  unfold lockFor; simp only; rw [h]
theorem lock_varL {i : Nat} {p : Bool} {x : List W} (h : env[i]? = some (.ok p (.lst x))) : lockFor (.var i) env = (none, env) := by
  unfold lockFor; simp only; rw [h]
theorem lock_varD {i : Nat} {p : Bool} {kvs : List (L2.Key × D)} (h : env[i]? = some (.ok p (.dct false kvs))) : lockFor (.var i) env = (some i, env.set i (.ok p (.dct true kvs))) := by
  unfold lockFor; simp only; rw [h]
@[simp] theorem unlkE_some (i : Nat) (a : α) : unlkE (some i) (some (.ok a, e)) = (unlock (some i) e).map fun e => (.ok a, e) := rfl
def unlkS (o : Option Slot) (i : Nat) (env : Env) : Option Env := match o with
  | some (.ok p (.dct true kvs)) => some (env.set i (.ok p (.dct false kvs)))
  | _ => none
@[simp] theorem unlkS_ok (p : Bool) (kvs : List (L2.Key × D)) (i : Nat) : unlkS (some (.ok p (.dct true kvs))) i env = some (env.set i (.ok p (.dct false kvs))) := rfl
@[simp] theorem unlock_some (i : Nat) : unlock (some i) env = unlkS env[i]? i env := by unfold unlock unlkS; rfl
def sdK (o : Option D) (kvs : List (L2.Key × D)) (k : L2.Key) (v : D) : Option (W × W) := match o with
  | some x => some (.dct false kvs, .d x)
  | none => some (.dct false (setK kvs k v), .d v)
@[simp] theorem meSetd_int (kvs : List (L2.Key × D)) (i : Int) (v : D) : meSetd (.dct false kvs) [.d (.int i), .d v] = if kvs.length < big then sdK (getK kvs (.inl i)) kvs (.inl i) v else none := rfl
@[simp] theorem meGet_int (b : Bool) (kvs : List (L2.Key × D)) (i : Int) (v : D) : meGet (.dct b kvs) [.d (.int i), .d v] = some (.dct b kvs, .d ((getK kvs (.inl i)).getD v)) := rfl
@[simp] theorem meApp_lst (ws : List W) (x : W) : meApp (.lst ws) [x] = if ws.length < big then some (.lst (ws ++ [x]), .d .none) else none := rfl
@[simp] theorem mePop_int (ws : List W) (i : Int) : mePop (.lst ws) [.d (.int i)] = match L2.ixN ws.length i with
    | some k => (ws[k]?).map fun x => (.lst (ws.eraseIdx k), x)
    | none => none := rfl
/-- True is in no list of truths but it stands there -/
theorem notin_all {bs : List Bool} (h : ∀ b ∈ bs, b = true) : inW (.d (.bool false)) (.lst (bs.map fun b => .d (.bool b))) = some false := by
  have e : (W.lst (bs.map fun b => W.d (.bool b))) = .lst ((bs.map PyData.bool).map .d) := by simp [Function.comp_def]
  rw [e]
  show (match seqOrTup (.lst ((bs.map PyData.bool).map .d)) with | some xs => if fair (.bool false) && xs.all fair then some (xs.any fun z => PyData.eqv z (.bool false)) else none | none => none) = _
  simp only [sot_lst, allD_map']
  rw [if_pos (by simp [List.all_map, Function.comp_def])]
  congr 1
  rw [List.any_map, List.any_eq_false]
  intro b hb
  simp [h b hb]
end
end Ev.Sh
end

section
set_option Elab.async false
set_option linter.all false
set_option autoImplicit true
set_option maxRecDepth 100000
/-! ShC: the least of some data. -/
namespace Ev.Sh
open PySem (PyData Str)
open PySem.W (dataLt keyToks keyToksAll alike alikeAll minD)
open PyProof.Rows
theorem lt_irr (a : D) : dataLt a a = false := lex_irrefl _
theorem lt_tr {a b c : D} (h : dataLt a b = true) (k : dataLt b c = true) : dataLt a c = true := lex_trans _ _ _ h k
theorem lt_tot {n m : Nat} {a b : D} (al : alike a b = true) (ha : cln n a = true) (hb : cln m b = true) (h : dataLt a b = false) (k : dataLt b a = false) : a = b := by
  have e : keyToks a = keyToks b := lex_total _ _ h k
  refine (cln_eqv ha hb).mp ?_
  cases q : PyData.eqv a b with
  | true => rfl
  | false =>
    have z := (PySem.W.toks_eqv a b al).2 q [] [.inl 0]
    rw [e] at z
    have z2 := PySem.W.lex_pre (keyToks b) [] [.inl 0]
    rw [z2] at z
    have z3 := lex_irrefl (O := itemOrd) (keyToks b)
    rw [z3] at z
    cases z
theorem minD_go : ∀ (xs : List D) (a : D) (S : List D), a ∈ S → (∀ z ∈ S, dataLt z a = false) → (∀ z ∈ xs, z ∈ S ∨ z ∈ xs) → ∃ m, xs.foldl (fun a y => if dataLt y a then y else a) a = m ∧ (m ∈ S ∨ m ∈ xs) ∧ (∀ z ∈ S, dataLt z m = false) ∧ ∀ z ∈ xs, dataLt z m = false
  | [], a, S, ha, h, _ => ⟨a, rfl, .inl ha, h, by simp⟩
  | y :: xs, a, S, ha, h, _ => by
    rw [List.foldl_cons]
    by_cases hy : dataLt y a = true
    · rw [if_pos hy]
      have h' : ∀ z ∈ y :: S, dataLt z y = false := by
        intro z hz
        rcases List.mem_cons.mp hz with rfl | hz
        · exact lt_irr _
        · cases q : dataLt z y with
          | false => rfl
          | true => have := lt_tr q hy; rw [h z hz] at this; cases this
      obtain ⟨m, e, hm, h1, h2⟩ := minD_go xs y (y :: S) (by simp) h' fun z hz => .inr hz
      refine ⟨m, e, ?_, fun z hz => h1 z (by simp [hz]), fun z hz => ?_⟩
      · rcases hm with hm | hm
        · rcases List.mem_cons.mp hm with rfl | hm
          · exact .inr (by simp)
          · exact .inl hm
        · exact .inr (by simp [hm])
      · rcases List.mem_cons.mp hz with rfl | hz
        · exact h1 _ (by simp)
        · exact h2 z hz
    · rw [if_neg hy]
      have h' : ∀ z ∈ y :: S, dataLt z a = false := by
        intro z hz
        rcases List.mem_cons.mp hz with rfl | hz
        · simpa using hy
        · exact h z hz
      obtain ⟨m, e, hm, h1, h2⟩ := minD_go xs a (y :: S) (by simp [ha]) h' fun z hz => .inr hz
      refine ⟨m, e, ?_, fun z hz => h1 z (by simp [hz]), fun z hz => ?_⟩
      · rcases hm with hm | hm
        · rcases List.mem_cons.mp hm with rfl | hm
          · exact .inr (by simp)
          · exact .inl hm
        · exact .inr (by simp [hm])
      · rcases List.mem_cons.mp hz with rfl | hz
        · exact h1 _ (by simp)
        · exact h2 z hz
theorem minD_spec (x : D) (xs : List D) : minD x xs ∈ x :: xs ∧ ∀ z ∈ x :: xs, dataLt z (minD x xs) = false := by
  obtain ⟨m, e, hm, h1, h2⟩ := minD_go xs x [x] (by simp) (by intro z hz; simp at hz; subst hz; exact lt_irr _) fun z hz => .inr hz
  have e : minD x xs = m := e
  rw [e]
  refine ⟨?_, fun z hz => ?_⟩
  · rcases hm with hm | hm
    · simp at hm; simp [hm]
    · simp [hm]
  · rcases List.mem_cons.mp hz with rfl | hz
    · exact h1 _ (by simp)
    · exact h2 z hz
theorem alikeAll_map {κ : Type} {f : κ → D} (h : ∀ a b, alike (f a) (f b) = true) : ∀ (xs ys : List κ), alikeAll (xs.map f) (ys.map f) = true
  | [], _ => by simp [alikeAll]
  | _ :: _, [] => by simp [alikeAll]
  | x :: xs, y :: ys => by rw [List.map_cons, List.map_cons, alikeAll, h, alikeAll_map h xs ys]; rfl
/-- min of a list of data of one kind -/
theorem bi_minL {κ : Type} {f : κ → D} {n : Nat} (hn : n ≤ 64) (al : ∀ a b, alike (f a) (f b) = true) (cl : ∀ a, cln n (f a) = true) (nn : ∀ a, f a ≠ .none) {xs : List κ} (hx : xs ≠ []) :
    ∃ m ∈ xs, (∀ z ∈ xs, dataLt (f z) (f m) = false) ∧ biW .min [.lst (xs.map fun x => W.d (f x))] = some (.d (f m)) := by
  cases xs with
  | nil => exact (hx rfl).elim
  | cons x xs =>
    obtain ⟨h1, h2⟩ := minD_spec (f x) (xs.map f)
    rw [← List.map_cons (f := f)] at h1 h2
    obtain ⟨m, hm, em⟩ := List.mem_map.mp h1
    refine ⟨m, hm, fun z hz => ?_, ?_⟩
    · rw [em]; exact h2 _ (List.mem_map_of_mem hz)
    · have e1 : seqD (.lst ((x :: xs).map fun x => W.d (f x))) = some (f x :: xs.map f) := by
        rw [seqD_lst, allD_mapf]; rfl
      show (match seqD (.lst ((x :: xs).map fun x => W.d (f x))) with
        | some (x :: xs) => if alikes (x :: xs) && PyData.canLayAll0 (x :: xs) && decide (PyData.depthAll (x :: xs) ≤ 64) && !(x :: xs).any (fun y => isNon (.d y)) then some (W.d (minD x xs)) else none
        | _ => none) = _
      rw [e1]
      simp only
      rw [if_pos, ← em]
      rw [← List.map_cons (f := f)]
      simp only [Bool.and_eq_true, decide_eq_true_eq, Bool.not_eq_true']
      refine ⟨⟨⟨?_, ?_⟩, ?_⟩, ?_⟩
      · unfold alikes
        rw [List.all_eq_true]
        intro a ha
        rw [List.all_eq_true]
        intro b hb
        obtain ⟨a, _, rfl⟩ := List.mem_map.mp ha
        obtain ⟨b, _, rfl⟩ := List.mem_map.mp hb
        exact al a b
      · rw [canLayAll_all, List.all_eq_true]
        intro a ha
        obtain ⟨a, _, rfl⟩ := List.mem_map.mp ha
        exact (cln_ok (cl a)).1
      · exact Nat.le_trans (depthAll_le _ n fun a ha => by
          obtain ⟨a, _, rfl⟩ := List.mem_map.mp ha
          exact (cln_ok (cl a)).2) hn
      · rw [List.any_eq_false]
        intro a ha
        obtain ⟨a, _, rfl⟩ := List.mem_map.mp ha
        have := nn a
        cases h : f a <;> simp [isNon]
        exact this h
end Ev.Sh
end

section
set_option Elab.async false
set_option linter.all false
set_option autoImplicit true
set_option maxRecDepth 100000
/-! ShD: dict comprehensions, truths. -/
namespace Ev.Sh
open PySem (PyData Str NestedKey)
section
variable {α β γ δ : Type} {T : Tb} {env e e1 : Env}
/-- a call gives a value, and its arguments back, such that Q -/
def Gives (o : Option (Res W × List W)) (Q : W → List W → Prop) : Prop := ∃ w ws, o = some (.ok w, ws) ∧ Q w ws
theorem Gives.of {o : Option (Res W × List W)} {Q : W → List W → Prop} {w : W} {ws : List W} (h : o = some (.ok w, ws)) (q : Q w ws) : Gives o Q := ⟨w, ws, h, q⟩
theorem gives_rt {n : Nat} {nm : List Nat} {pws : List (Bool × W)} {w : W} {Q : W → List W → Prop} (h : backG nm 0 pws e = true) (q : Q w (backs n e)) : Gives (finK n nm pws (some (.rt w, e))) Q := ⟨_, _, finK_rt h, q⟩
theorem gives_nx {n : Nat} {nm : List Nat} {pws : List (Bool × W)} {Q : W → List W → Prop} (h : backG nm 0 pws e = true) (q : Q (.d .none) (backs n e)) : Gives (finK n nm pws (some (.nx, e))) Q := ⟨_, _, finK_nx h, q⟩
/-- a turn goes on, such that Q -/
def Goes (o : Option (Fl × Env)) (Q : Env → Prop) : Prop := ∃ e, o = some (.nx, e) ∧ Q e
theorem goes_nx {Q : Env → Prop} (q : Q e) : Goes (some (.nx, e)) Q := ⟨_, rfl, q⟩
/-- a comprehension's turn gives something, such that Q -/
def Yields (o : Option (Res (Option W) × Env)) (Q : W → Env → Prop) : Prop := ∃ w e, o = some (.ok (some w), e) ∧ Q w e
theorem yields_ok {w : W} {Q : W → Env → Prop} (q : Q w e) : Yields (some (.ok (some w), e)) Q := ⟨_, _, rfl, q⟩
def lckS (o : Option Slot) (s : Slot) (i : Nat) (a : α) (e : Env) : Option (Res α × Env) := match o with
  | some .lck => some (.ok a, e.set i s)
  | _ => none
@[simp] theorem lckS_ok (s : Slot) (i : Nat) (a : α) : lckS (some .lck) s i a e = some (.ok a, e.set i s) := rfl
def backK (s : Slot) (i : Nat) (o : Option (Res α × Env)) : Option (Res α × Env) := match o with
  | some (.ok a, e) => lckS e[i]? s i a e
  | _ => none
@[simp] theorem backK_ok (s : Slot) (i : Nat) (a : α) : backK s i (some (.ok a, e)) = lckS e[i]? s i a e := rfl
def lockK (o : Option Slot) (i : Nat) (m : M α) (env : Env) : Option (Res α × Env) := match o with
  | some s => backK s i (m (env.set i .lck))
  | none => none
@[simp] theorem lockK_ok (s : Slot) (i : Nat) (m : M α) : lockK (some s) i m env = backK s i (m (env.set i .lck)) := rfl
@[simp] theorem locked_cons (i k : Nat) (sel : List Nat) (m : M α) : locked i (k :: sel) m env = lockK env[i]? i m env := by
  unfold locked lockK backK lckS
  try simp only
  try cases env[i]? <;> rfl
@[simp] theorem frzs_mapL {κ ι : Type} (h : κ → List ι) (g : ι → D) (xs : List κ) : frzs (xs.map fun x => W.lst ((h x).map fun y => W.d (g y))) = some (xs.map fun x => PyData.list ((h x).map g)) := by
  induction xs with
  | nil => rfl
  | cons x xs ih => simp [ih]
theorem lcL_relE {own : List Nat} {as : D → M Unit} {c : M Bool} {el : M W} {κ : Type} (enc : κ → D) (R : List κ → List W → Env → Prop) {bs : List κ} {acc : List W} {env : Env} (r : R bs acc env)
    (h : ∀ x xs acc env, R (x :: xs) acc env → acc.length < big ∧ Yields (turnL own as c el (enc x) env) fun w env' => R xs (acc ++ [w]) env') :
    ∃ ws env', lcL own as c el (bs.map enc) acc env = some (.ok ws, env') ∧ R [] ws env' :=
  lcL_elim (P := fun o => ∃ ws env', o = some (.ok ws, env') ∧ R [] ws env') enc R r h fun ws env' r => ⟨ws, env', rfl, r⟩
theorem lcL_mapRE {own : List Nat} {as : D → M Unit} {c : M Bool} {el : M W} {κ : Type} (Rel : Env → Prop) (enc : κ → D) (g : κ → W) (bs : List κ) (hb : bs.length ≤ big) (r : Rel env)
    (h : ∀ b ∈ bs, ∀ env, Rel env → ∃ env', turnL own as c el (enc b) env = some (.ok (some (g b)), env') ∧ Rel env') : ∃ env', lcL own as c el (bs.map enc) [] env = some (.ok (bs.map g), env') ∧ Rel env' :=
  lcL_mapR (P := fun o => ∃ env', o = some (.ok (bs.map g), env') ∧ Rel env') Rel enc g bs hb r h fun env' r => ⟨env', rfl, r⟩
theorem map_eraseIdx' {κ ι : Type} (f : κ → ι) : ∀ (l : List κ) (k : Nat), (l.map f).eraseIdx k = (l.eraseIdx k).map f
  | [], _ => rfl
  | _ :: _, 0 => rfl
  | x :: l, k + 1 => by simp [map_eraseIdx' f l k]
theorem erase_perm {κ : Type} : ∀ (l : List κ) (k : Nat) (h : k < l.length), (l[k] :: l.eraseIdx k).Perm l
  | [], k, h => by simp at h
  | x :: l, 0, h => by simp
  | x :: l, k + 1, h => by
    have := erase_perm l k (by simpa using h)
    simp
    exact (List.Perm.swap _ _ _).trans (this.cons x)
@[simp] theorem unpass_ownN (w : W) (rs : List R) : unpass env (.own w :: rs) [] e = e := rfl
@[simp] theorem allB_mapf {κ : Type} (f : κ → Bool) (xs : List κ) : allB (xs.map fun x => PyData.bool (f x)) = some (xs.map f) := by
  induction xs with
  | nil => rfl
  | cons x xs ih => rw [List.map_cons, allB, ih]; rfl
@[simp] theorem allB_nil : allB [] = some [] := rfl
@[simp] theorem allI_mapf {κ : Type} (f : κ → Int) (xs : List κ) : allI (xs.map fun x => PyData.int (f x)) = some (xs.map f) := by
  induction xs with
  | nil => rfl
  | cons x xs ih => rw [List.map_cons, allI, ih]; rfl
def dcE (o : Option (Res W × Env)) : Option (Res (List R) × Env) := match o with
  | some (.ok w, e) => some (.ok [.own w], e)
  | _ => none
@[simp] theorem dcE_ok (w : W) : dcE (some (.ok w, e)) = some (.ok [.own w], e) := rfl
def kvW (T : Tb) (k v : E) : M (D × D) := bnd (ev T k) fun xs => bnd (sole xs) fun x => bnd (dat x) fun kx => bnd (ev T v) fun ys => bnd (sole ys) fun y => bnd (dat y) fun vx => ret (kx, vx)
@[simp] theorem kvW_app (k v : E) : kvW T k v env = bndK (ev T k env) fun xs => bnd (sole xs) fun x => bnd (dat x) fun kx => bnd (ev T v) fun ys => bnd (sole ys) fun y => bnd (dat y) fun vx => ret (kx, vx) := rfl
theorem ev_dcS (own : List Nat) (t it c k v : E) : ev T (.dc own t it c k v) env = whileLk it (bnd (evI T it) fun src => fun env => dcE (dcL own (fun x => asg T t [.d x]) (cnW T c) (kvW T k v) src (.dct false []) (wipeE env own))) env := by
  rw [ev]
  rfl
def turnD (own : List Nat) (as : D → M Unit) (c : M Bool) (kv : M (D × D)) (x : D) (env : Env) : Option (Res (Option (D × D)) × Env) :=
  bnd (as x) (fun _ => bnd c fun b => if b = true then bnd kv fun p => fun e => some (.ok (some p), wipeE e own) else fun e => some (.ok none, wipeE e own)) env
@[simp] theorem turnD_app (own : List Nat) (as : D → M Unit) (c : M Bool) (kv : M (D × D)) (x : D) : turnD own as c kv x env = bndK (as x env) fun _ => bnd c fun b => if b = true then bnd kv fun p => fun e => some (.ok (some p), wipeE e own) else fun e => some (.ok none, wipeE e own) := rfl
def dcK (own : List Nat) (as : D → M Unit) (c : M Bool) (kv : M (D × D)) (xs : List D) (acc : W) (o : Option (Res (Option (D × D)) × Env)) : Option (Res W × Env) := match o with
  | some (.ok (some p), e) => (putDict acc p.1 p.2).bind fun acc' => dcL own as c kv xs acc' e
  | some (.ok none, e) => dcL own as c kv xs acc e
  | some (.ex x, e) => some (.ex x, e)
  | none => none
theorem dcL_cons (own : List Nat) (as : D → M Unit) (c : M Bool) (kv : M (D × D)) (x : D) (xs : List D) (acc : W) (env : Env) : dcL own as c kv (x :: xs) acc env = dcK own as c kv xs acc (turnD own as c kv x env) := by
  rw [dcL]
  show bndK (as x env) _ = dcK own as c kv xs acc (bndK (as x env) _)
  cases as x env with
  | none => rfl
  | some r1 =>
    obtain ⟨r1, e1⟩ := r1
    cases r1 with
    | ex x => rfl
    | ok u =>
      show bndK (c e1) _ = dcK own as c kv xs acc (bndK (c e1) _)
      cases c e1 with
      | none => rfl
      | some r2 =>
        obtain ⟨r2, e2⟩ := r2
        cases r2 with
        | ex x => rfl
        | ok b =>
          cases b with
          | false => rfl
          | true =>
            show bndK (kv e2) _ = dcK own as c kv xs acc (bndK (kv e2) _)
            cases kv e2 with
            | none => rfl
            | some r3 =>
              obtain ⟨r3, e3⟩ := r3
              cases r3 with
              | ex x => rfl
              | ok p =>
                show (match putDict acc p.1 p.2 with
                  | some acc' => fun e => dcL own as c kv xs acc' (wipeE e own)
                  | none => fun _ => none) e3 = (putDict acc p.1 p.2).bind fun acc' => dcL own as c kv xs acc' (wipeE e3 own)
                cases putDict acc p.1 p.2 <;> rfl
/-- a dict with tuple keys, by its entries -/
def accN : List (NestedKey × D) → W
  | [] => .dct false []
  | kvs => .dcn kvs
@[simp] theorem len_accN (kvs : List (NestedKey × D)) : biW .len [accN kvs] = some (.d (.int kvs.length)) := by
  cases kvs <;> rfl
theorem put_accN {kvs : List (NestedKey × D)} {k v : D} {nk : NestedKey} (h : tupK k = some nk) (hn : nk ∉ kvs.map (·.1)) (hb : kvs.length < big) : putDict (accN kvs) k v = some (accN (kvs ++ [(nk, v)])) := by
  have hk : keyD k = none := by
    cases k <;> first | rfl | (simp [tupK, isTupD] at h)
  cases kvs with
  | nil =>
    show (match W.dct false [], keyD k with
      | .dct false kvs, some k => if kvs.length < big then some (W.dct false (setK kvs k v)) else none
      | .dct false [], none => (tupK k).map fun k => .dcn [(k, v)]
      | .dcn kvs, none => (tupK k).bind fun k => if kvs.length < big then some (.dcn (setN kvs k v)) else none
      | _, _ => none) = _
    rw [hk, h]
    rfl
  | cons x kvs =>
    show (match W.dcn (x :: kvs), keyD k with
      | .dct false kvs, some k => if kvs.length < big then some (W.dct false (setK kvs k v)) else none
      | .dct false [], none => (tupK k).map fun k => .dcn [(k, v)]
      | .dcn kvs, none => (tupK k).bind fun k => if kvs.length < big then some (.dcn (setN kvs k v)) else none
      | _, _ => none) = _
    rw [hk, h]
    simp only [Option.bind_some]
    rw [if_pos hb]
    unfold setN
    rw [if_neg]
    · rfl
    · intro q
      rw [List.any_eq_true] at q
      obtain ⟨y, hy, e⟩ := q
      exact hn (List.mem_map.mpr ⟨y, hy, by simpa using e⟩)
theorem dcL_new {own : List Nat} {as : D → M Unit} {c : M Bool} {kv : M (D × D)} {κ : Type} (enc : κ → D) (kd : κ → D) (nk : κ → NestedKey) (v : κ → D) (hk : ∀ b, tupK (kd b) = some (nk b)) : ∀ (bs : List κ) (acc : List (NestedKey × D)), (∀ b ∈ bs, turnD own as c kv (enc b) env = some (.ok (some (kd b, v b)), env)) →
    (acc.map (·.1) ++ bs.map nk).Nodup → acc.length + bs.length ≤ big → dcL own as c kv (bs.map enc) (accN acc) env = some (.ok (accN (acc ++ bs.map fun b => (nk b, v b))), env)
  | [], acc, _, _, _ => by simp [dcL]
  | b :: bs, acc, h, hn, hb => by
    simp only [List.length_cons] at hb
    rw [List.map_cons, dcL_cons, h b (by simp)]
    show (putDict (accN acc) (kd b) (v b)).bind _ = _
    have hn' : nk b ∉ acc.map (·.1) := by
      intro q
      rw [List.nodup_append] at hn
      exact hn.2.2 _ q _ (by simp) rfl
    rw [put_accN (hk b) hn' (by omega), Option.bind_some, dcL_new enc kd nk v hk bs (acc ++ [(nk b, v b)]) (fun y hy => h y (by simp [hy])) (by simpa using hn) (by simp; omega)]
    simp
theorem dcL_all {own : List Nat} {as : D → M Unit} {c : M Bool} {kv : M (D × D)} {κ : Type} (enc : κ → D) (kd : κ → D) (nk : κ → NestedKey) (v : κ → D) (hk : ∀ b, tupK (kd b) = some (nk b)) (bs : List κ) (h : ∀ b ∈ bs, turnD own as c kv (enc b) env = some (.ok (some (kd b, v b)), env))
    (hn : (bs.map nk).Nodup) (hb : bs.length ≤ big) : dcL own as c kv (bs.map enc) (.dct false []) env = some (.ok (accN (bs.map fun b => (nk b, v b))), env) := by
  have := dcL_new (env := env) (own := own) (as := as) (c := c) (kv := kv) enc kd nk v hk bs [] h (by simpa using hn) (by simpa using hb)
  simpa [accN] using this
end
end Ev.Sh
end

section
set_option Elab.async false
set_option linter.all false
/-! AcA: drawings as plain lists: orders, rotations, plain forms. -/
namespace Ac
abbrev En := Int × Int
abbrev Sts := List (List En)

/-! ### first meetings -/
def put1 (acc : List Int) (a : Int) : List Int := if a ∈ acc then acc else acc ++ [a]
def firsts (acc as : List Int) : List Int := as.foldl put1 acc
def arrs (s : Sts) : List Int := s.flatten.map (·.1)
def order (s : Sts) : List Int := firsts [] (arrs s)
def ix (l : List Int) (a : Int) : Nat := l.idxOf a
def sg (signs : List Int) (a : Int) : Int := (signs[a.toNat]?).getD 0
def ren (π : Int → Int) (s : Sts) : Sts := s.map (·.map fun e => (π e.1, e.2))
def inOrder (s : Sts) (signs : List Int) : Sts × List Int := (ren (fun a => (ix (order s) a : Int)) s, (order s).map (sg signs))
theorem put1_nodup {acc : List Int} {a : Int} (h : acc.Nodup) : (put1 acc a).Nodup := by
  unfold put1
  split
  · exact h
  · rename_i ha
    rw [List.nodup_append]
    refine ⟨h, by simp, fun x hx y hy e => ?_⟩
    simp at hy
    subst hy
    exact ha (e ▸ hx)
theorem mem_put1 {acc : List Int} {a x : Int} : x ∈ put1 acc a ↔ x ∈ acc ∨ x = a := by
  unfold put1
  split
  · rename_i ha
    exact ⟨.inl, fun h => h.elim id fun e => e ▸ ha⟩
  · simp
theorem firsts_nodup : ∀ {as acc : List Int}, acc.Nodup → (firsts acc as).Nodup
  | [], _, h => h
  | a :: as, _, h => firsts_nodup (as := as) (put1_nodup h)
theorem mem_firsts : ∀ {as acc : List Int} {x : Int}, x ∈ firsts acc as ↔ x ∈ acc ∨ x ∈ as
  | [], acc, x => by simp [firsts]
  | a :: as, acc, x => by
    show x ∈ firsts (put1 acc a) as ↔ _
    rw [mem_firsts (as := as), mem_put1]
    simp [or_assoc]
theorem order_nodup (s : Sts) : (order s).Nodup := firsts_nodup (by simp)
theorem mem_order {s : Sts} {x : Int} : x ∈ order s ↔ x ∈ arrs s := by
  unfold order; rw [mem_firsts]; simp
def InjOn (π : Int → Int) (l : List Int) : Prop := ∀ a ∈ l, ∀ b ∈ l, π a = π b → a = b
theorem put1_map {π : Int → Int} {acc : List Int} {a : Int} (h : InjOn π (a :: acc)) : put1 (acc.map π) (π a) = (put1 acc a).map π := by
  unfold put1
  by_cases ha : a ∈ acc
  · rw [if_pos ha, if_pos (List.mem_map_of_mem ha)]
  · rw [if_neg ha, if_neg]
    · simp
    · intro hc
      obtain ⟨b, hb, e⟩ := List.mem_map.mp hc
      have := h b (by simp [hb]) a (by simp) e
      subst this
      exact ha hb
theorem firsts_map {π : Int → Int} : ∀ {as acc : List Int}, InjOn π (as ++ acc) → firsts (acc.map π) (as.map π) = (firsts acc as).map π
  | [], acc, _ => rfl
  | a :: as, acc, h => by
    show firsts (put1 (acc.map π) (π a)) (as.map π) = (firsts (put1 acc a) as).map π
    rw [put1_map fun x hx y hy => h x (by simp at hx ⊢; rcases hx with e | e <;> simp [e]) y (by simp at hy ⊢; rcases hy with e | e <;> simp [e])]
    refine firsts_map (as := as) fun x hx y hy => h x ?_ y ?_
    · rw [List.mem_append, mem_put1] at hx; simp; rcases hx with e | e | e <;> simp [e]
    · rw [List.mem_append, mem_put1] at hy; simp; rcases hy with e | e | e <;> simp [e]
theorem arrs_ren (π : Int → Int) (s : Sts) : arrs (ren π s) = (arrs s).map π := by
  unfold arrs ren
  rw [← List.map_flatten]
  simp [Function.comp_def]
theorem order_ren {π : Int → Int} {s : Sts} (h : InjOn π (arrs s)) : order (ren π s) = (order s).map π := by
  unfold order
  rw [arrs_ren]
  have := firsts_map (π := π) (as := arrs s) (acc := []) (by simpa using h)
  simpa using this
theorem ix_map {π : Int → Int} : ∀ {l : List Int} {a : Int}, InjOn π (a :: l) → ix (l.map π) (π a) = ix l a
  | [], _, _ => rfl
  | b :: l, a, h => by
    unfold ix
    rw [List.map_cons, List.idxOf_cons, List.idxOf_cons]
    by_cases e : b = a
    · subst e; simp
    · have e2 : ¬ π b = π a := fun q => e (h b (by simp) a (by simp) q)
      have e3 : (b == a) = false := by simpa using e
      have e4 : (π b == π a) = false := by simpa using e2
      rw [e3, e4]
      have := ix_map (l := l) (a := a) (π := π) fun x hx y hy => h x (by simp at hx ⊢; rcases hx with e | e <;> simp [e]) y (by simp at hy ⊢; rcases hy with e | e <;> simp [e])
      unfold ix at this
      rw [this]
theorem ren_ren (π ρ : Int → Int) (s : Sts) : ren π (ren ρ s) = ren (π ∘ ρ) s := by
  unfold ren; simp [Function.comp_def]
theorem ren_congr {π ρ : Int → Int} {s : Sts} (h : ∀ a ∈ arrs s, π a = ρ a) : ren π s = ren ρ s := by
  unfold ren
  refine List.map_congr_left fun st hst => List.map_congr_left fun e he => ?_
  rw [h e.1 (by unfold arrs; exact List.mem_map_of_mem (List.mem_flatten.mpr ⟨st, hst, he⟩))]
theorem inOrder_ren {π : Int → Int} {s : Sts} {sgn sgn' : List Int} (h : InjOn π (arrs s)) (hs : ∀ a ∈ arrs s, sg sgn' (π a) = sg sgn a) : inOrder (ren π s) sgn' = inOrder s sgn := by
  unfold inOrder
  rw [order_ren h, ren_ren]
  refine Prod.ext ?_ ?_
  · dsimp only
    refine ren_congr fun a ha => ?_
    show ((ix ((order s).map π) (π a) : Nat) : Int) = ix (order s) a
    rw [ix_map fun x hx y hy => h x ?_ y ?_]
    · rcases List.mem_cons.mp hx with e | e
      · rw [e]; exact ha
      · exact mem_order.mp e
    · rcases List.mem_cons.mp hy with e | e
      · rw [e]; exact ha
      · exact mem_order.mp e
  · show ((order s).map π).map (sg sgn') = _
    rw [List.map_map]
    exact List.map_congr_left fun a ha => hs a (mem_order.mp ha)
theorem ix_inj {l : List Int} {a b : Int} (ha : a ∈ l) (h : ix l a = ix l b) : a = b := by
  unfold ix at h
  have hl := List.idxOf_lt_length_of_mem ha
  have h1 := List.getElem_idxOf hl
  have hl2 : l.idxOf b < l.length := h ▸ hl
  have h2 := List.getElem_idxOf hl2
  rw [← h1, ← h2]
  simp only [h]

/-! ### rotations -/
def Rot {α : Type} (x y : List α) : Prop := ∃ a b, x = a ++ b ∧ y = b ++ a
theorem Rot.refl {α : Type} (x : List α) : Rot x x := ⟨[], x, by simp, by simp⟩
theorem Rot.symm {α : Type} {x y : List α} : Rot x y → Rot y x := fun ⟨a, b, h1, h2⟩ => ⟨b, a, h2, h1⟩
theorem Rot.trans {α : Type} {x y z : List α} : Rot x y → Rot y z → Rot x z := by
  rintro ⟨a, b, rfl, rfl⟩ ⟨c, d, h, rfl⟩
  rcases List.append_eq_append_iff.mp h with ⟨e, h1, h2⟩ | ⟨e, h1, h2⟩
  · subst h1 h2; exact ⟨e, d ++ b, by simp, by simp⟩
  · subst h1 h2; exact ⟨a ++ c, e, by simp, by simp⟩
theorem Rot.perm {α : Type} {x y : List α} : Rot x y → x.Perm y := fun ⟨_, _, h1, h2⟩ => h1 ▸ h2 ▸ List.perm_append_comm
theorem Rot.map {α β : Type} (f : α → β) {x y : List α} : Rot x y → Rot (x.map f) (y.map f) := fun ⟨a, b, h1, h2⟩ => ⟨a.map f, b.map f, by simp [h1], by simp [h2]⟩
theorem Rot.of_map {α β : Type} {f : α → β} {x : List α} {y : List β} : Rot (x.map f) y → ∃ z, y = z.map f ∧ Rot x z := by
  rintro ⟨a, b, h1, rfl⟩
  obtain ⟨a', b', rfl, rfl, rfl⟩ := List.map_eq_append_iff.mp h1
  exact ⟨b' ++ a', by simp, a', b', rfl, rfl⟩
def rots {α : Type} (x : List α) : List (List α) := (List.range (max x.length 1)).map fun i => x.drop i ++ x.take i
theorem mem_rots {α : Type} {x y : List α} : y ∈ rots x ↔ Rot x y := by
  unfold rots
  rw [List.mem_map]
  constructor
  · rintro ⟨i, _, rfl⟩
    exact ⟨x.take i, x.drop i, by simp, rfl⟩
  · rintro ⟨a, b, rfl, rfl⟩
    by_cases hb : b = []
    · subst hb
      exact ⟨0, by simp; omega, by simp⟩
    · refine ⟨a.length, ?_, by simp⟩
      have : 0 < b.length := List.length_pos_iff.mpr hb
      simp; omega
inductive Rots : Sts → Sts → Prop
  | nil : Rots [] []
  | cons {x y s t} : Rot x y → Rots s t → Rots (x :: s) (y :: t)
theorem Rots.refl : ∀ s, Rots s s
  | [] => .nil
  | x :: s => .cons (.refl x) (Rots.refl s)
theorem Rots.symm : ∀ {s t}, Rots s t → Rots t s
  | _, _, .nil => .nil
  | _, _, .cons h k => .cons h.symm k.symm
theorem Rots.trans : ∀ {s t u}, Rots s t → Rots t u → Rots s u
  | _, _, _, .nil, .nil => .nil
  | _, _, _, .cons h k, .cons h' k' => .cons (h.trans h') (k.trans k')
theorem Rots.ren (π : Int → Int) : ∀ {s t}, Rots s t → Rots (ren π s) (ren π t)
  | _, _, .nil => .nil
  | _, _, .cons h k => .cons (h.map _) (Rots.ren π k)
theorem Rots.of_ren {π : Int → Int} : ∀ {s u}, Rots (Ac.ren π s) u → ∃ t, u = Ac.ren π t ∧ Rots s t
  | [], _, h => by cases h; exact ⟨[], rfl, .nil⟩
  | x :: s, _, h => by
    have h : Rots ((x.map fun e => (π e.1, e.2)) :: Ac.ren π s) _ := h
    cases h with
    | cons h1 k =>
      obtain ⟨z, rfl, hz⟩ := Rot.of_map h1
      obtain ⟨t, rfl, ht⟩ := Rots.of_ren k
      exact ⟨z :: t, rfl, .cons hz ht⟩
theorem Rots.flat : ∀ {s t}, Rots s t → s.flatten.Perm t.flatten
  | _, _, .nil => .refl _
  | _, _, .cons h k => by simpa using h.perm.append (Rots.flat k)
theorem Rots.length : ∀ {s t}, Rots s t → s.length = t.length
  | _, _, .nil => rfl
  | _, _, .cons _ k => by simp [Rots.length k]
theorem Rots.mem_arrs {s t : Sts} (h : Rots s t) {a : Int} : a ∈ arrs s ↔ a ∈ arrs t := by
  unfold arrs
  exact (h.flat.map _).mem_iff
/-- all beginnings: in the order of the program -/
def begs (s : Sts) : List Sts := s.foldl (fun found st => found.flatMap fun ahead => (rots st).map fun t => ahead ++ [t]) [[]]
theorem mem_begs_go : ∀ (s : Sts) (found : List Sts) (t : Sts), t ∈ s.foldl (fun found st => found.flatMap fun ahead => (rots st).map fun t => ahead ++ [t]) found ↔ ∃ h ∈ found, ∃ r, t = h ++ r ∧ Rots s r
  | [], found, t => by
    simp only [List.foldl_nil]
    constructor
    · intro h; exact ⟨t, h, [], by simp, .nil⟩
    · rintro ⟨h, hh, r, rfl, hr⟩; cases hr; simpa using hh
  | x :: s, found, t => by
    rw [List.foldl_cons, mem_begs_go s]
    constructor
    · rintro ⟨h, hh, r, rfl, hr⟩
      obtain ⟨a, ha, hb⟩ := List.mem_flatMap.mp hh
      obtain ⟨y, hy, rfl⟩ := List.mem_map.mp hb
      exact ⟨a, ha, y :: r, by simp, .cons (mem_rots.mp hy) hr⟩
    · rintro ⟨h, hh, r, rfl, hr⟩
      cases hr with
      | cons h1 h2 =>
        rename_i y t
        exact ⟨h ++ [y], List.mem_flatMap.mpr ⟨h, hh, List.mem_map.mpr ⟨y, mem_rots.mpr h1, rfl⟩⟩, t, by simp, h2⟩
theorem mem_begs {s t : Sts} : t ∈ begs s ↔ Rots s t := by
  unfold begs
  rw [mem_begs_go]
  simp

/-! ### drawings -/
abbrev Dr := Sts × List Int
/-- the ones of which the plain one is the least -/
def cands (ring : Bool) (d : Dr) : List Dr := if ring = true then (begs d.1).map fun t => inOrder t d.2 else [inOrder d.1 d.2]
/-- d' is d, numbered otherwise, begun otherwise on rings -/
def Same (ring : Bool) (d d' : Dr) : Prop := ∃ (π : Int → Int) (t : Sts), (if ring = true then Rots d.1 t else t = d.1) ∧ d'.1 = ren π t ∧ InjOn π (arrs t) ∧ ∀ a ∈ arrs t, sg d'.2 (π a) = sg d.2 a
theorem Same.cands {ring : Bool} {d d' : Dr} (h : Same ring d d') (v : Dr) : v ∈ cands ring d' ↔ v ∈ cands ring d := by
  obtain ⟨π, t, ht, h1, h2, h3⟩ := h
  unfold Ac.cands
  cases ring with
  | false =>
    simp only [Bool.false_eq_true, if_false] at ht ⊢
    subst ht
    rw [h1, inOrder_ren h2 h3]
  | true =>
    simp only [if_true] at ht ⊢
    rw [List.mem_map, List.mem_map]
    constructor
    · rintro ⟨u, hu, rfl⟩
      have hu := mem_begs.mp hu
      rw [h1] at hu
      obtain ⟨u0, rfl, hu0⟩ := hu.of_ren
      refine ⟨u0, mem_begs.mpr (ht.trans hu0), (inOrder_ren (fun a ha b hb => h2 a (hu0.mem_arrs.mpr ha) b (hu0.mem_arrs.mpr hb)) fun a ha => h3 a (hu0.mem_arrs.mpr ha)).symm⟩
    · rintro ⟨u, hu, rfl⟩
      have hu := ht.symm.trans (mem_begs.mp hu)
      refine ⟨ren π u, mem_begs.mpr (by rw [h1]; exact hu.ren π), inOrder_ren (fun a ha b hb => h2 a (hu.mem_arrs.mpr ha) b (hu.mem_arrs.mpr hb)) fun a ha => h3 a (hu.mem_arrs.mpr ha)⟩
theorem cand_same {ring : Bool} {d v : Dr} (h : v ∈ cands ring d) : Same ring d v := by
  unfold cands at h
  have key : ∀ (t : Sts), (∀ a ∈ arrs t, sg (inOrder t d.2).2 (ix (order t) a : Int) = sg d.2 a) := by
    intro t a ha
    have hm := mem_order.mpr ha
    unfold inOrder sg ix
    have hl := List.idxOf_lt_length_of_mem hm
    simp only [Int.toNat_natCast, List.getElem?_map, List.getElem?_eq_getElem hl, List.getElem_idxOf hl, Option.map_some, Option.getD_some]
  have inj : ∀ (t : Sts), InjOn (fun a => (ix (order t) a : Int)) (arrs t) := fun t a ha b hb e => ix_inj (mem_order.mpr ha) (Int.ofNat.inj e)
  cases ring with
  | false =>
    simp only [Bool.false_eq_true, if_false, List.mem_singleton] at h
    subst h
    exact ⟨_, d.1, by simp, rfl, inj d.1, key d.1⟩
  | true =>
    simp only [if_true, List.mem_map] at h
    obtain ⟨t, ht, rfl⟩ := h
    exact ⟨_, t, by simpa using mem_begs.mp ht, rfl, inj t, key t⟩

/-! ### valid ones -/
def ends (n : Nat) : List En := (List.range n).flatMap fun (a : Nat) => [((a : Int), (1 : Int)), ((a : Int), 0)]
structure Valid (k : Nat) (d : Dr) : Prop where
  len : d.1.length = k
  most : d.2.length ≤ 8
  sgn : ∀ x ∈ d.2, x = 1 ∨ x = -1
  perm : d.1.flatten.Perm (ends d.2.length)
theorem mem_ends {n : Nat} {e : En} : e ∈ ends n ↔ 0 ≤ e.1 ∧ e.1 < n ∧ (e.2 = 0 ∨ e.2 = 1) := by
  unfold ends
  rw [List.mem_flatMap]
  constructor
  · rintro ⟨a, ha, h⟩
    rw [List.mem_range] at ha
    simp at h
    rcases h with rfl | rfl <;> simp <;> omega
  · rintro ⟨h1, h2, h3⟩
    refine ⟨e.1.toNat, by rw [List.mem_range]; omega, ?_⟩
    have e1 : ((e.1.toNat : Nat) : Int) = e.1 := by omega
    obtain ⟨x, y⟩ := e
    simp only at e1 h3 ⊢
    rw [e1]
    rcases h3 with rfl | rfl <;> simp
theorem ends_length (n : Nat) : (ends n).length = 2 * n := by
  induction n with
  | zero => rfl
  | succ n ih =>
    unfold ends at ih ⊢
    rw [List.range_succ, List.flatMap_append, List.length_append, ih]
    simp
    omega
theorem mem_of_full {α : Type} [DecidableEq α] : ∀ {l1 l2 : List α}, l1.Nodup → (∀ x ∈ l1, x ∈ l2) → l2.length ≤ l1.length → ∀ x ∈ l2, x ∈ l1
  | [], l2, _, _, h, x, hx => by
    cases l2 with
    | nil => cases hx
    | cons _ _ => simp at h
  | a :: l, l2, hn, hs, h, x, hx => by
    by_cases e : x = a
    · simp [e]
    · have ha : a ∈ l2 := hs a (by simp)
      have hn' := List.nodup_cons.mp hn
      refine List.mem_cons_of_mem _ (mem_of_full (l2 := l2.erase a) hn'.2 (fun y hy => ?_) ?_ x ((List.mem_erase_of_ne e).mpr hx))
      · have hya : y ≠ a := fun q => hn'.1 (q ▸ hy)
        exact (List.mem_erase_of_ne hya).mpr (hs y (by simp [hy]))
      · rw [List.length_erase_of_mem ha]
        simp at h
        omega
theorem ends_nodup : ∀ n, (ends n).Nodup
  | 0 => by simp [ends]
  | n + 1 => by
    have e : ends (n + 1) = ends n ++ [((n : Int), 1), ((n : Int), 0)] := by
      unfold ends; rw [List.range_succ, List.flatMap_append]; simp
    rw [e, List.nodup_append]
    refine ⟨ends_nodup n, by simp, fun x hx y hy e => ?_⟩
    subst e
    have := (mem_ends.mp hx).2.1
    simp at hy
    rcases hy with rfl | rfl <;> simp at this
theorem Valid.arr {k : Nat} {d : Dr} (h : Valid k d) {a : Int} : a ∈ arrs d.1 ↔ 0 ≤ a ∧ a < d.2.length := by
  unfold arrs
  rw [List.mem_map]
  constructor
  · rintro ⟨e, he, rfl⟩
    have := mem_ends.mp (h.perm.mem_iff.mp he)
    exact ⟨this.1, this.2.1⟩
  · rintro ⟨h1, h2⟩
    exact ⟨(a, 0), h.perm.mem_iff.mpr (mem_ends.mpr ⟨h1, h2, .inl rfl⟩), rfl⟩
/-- a list of the numbers below n, each once -/
theorem perm_range {l : List Int} {n : Nat} (hn : l.Nodup) (h : ∀ a, a ∈ l ↔ 0 ≤ a ∧ a < n) : l.Perm ((List.range n).map fun a => ((a : Nat) : Int)) := by
  refine (List.perm_ext_iff_of_nodup hn ?_).mpr fun a => ?_
  · refine List.Pairwise.map _ (fun a b h e => h (by exact_mod_cast e)) List.nodup_range
  · rw [h, List.mem_map]
    constructor
    · rintro ⟨h1, h2⟩; exact ⟨a.toNat, by rw [List.mem_range]; omega, by omega⟩
    · rintro ⟨b, hb, rfl⟩; rw [List.mem_range] at hb; omega
theorem ends_map {n : Nat} {π : Int → Int} (h : ∀ a : Int, 0 ≤ a → a < n → 0 ≤ π a ∧ π a < n) (hi : ∀ a b : Int, 0 ≤ a → a < n → 0 ≤ b → b < n → π a = π b → a = b) :
    ((ends n).map fun e => (π e.1, e.2)).Perm (ends n) := by
  have nd : ((ends n).map fun e : En => ((π e.1, e.2) : En)).Nodup := by
    refine List.pairwise_map.mpr ((ends_nodup n).imp_of_mem fun {x y} hx hy hne e => hne ?_)
    have hx := mem_ends.mp hx
    have hy := mem_ends.mp hy
    obtain ⟨e1, e2⟩ : π x.1 = π y.1 ∧ x.2 = y.2 := by simpa using e
    exact Prod.ext (hi _ _ hx.1 hx.2.1 hy.1 hy.2.1 e1) e2
  have sub : ∀ e ∈ (ends n).map fun e => (π e.1, e.2), e ∈ ends n := by
    intro e he
    obtain ⟨x, hx, rfl⟩ := List.mem_map.mp he
    have hx := mem_ends.mp hx
    exact mem_ends.mpr ⟨(h _ hx.1 hx.2.1).1, (h _ hx.1 hx.2.1).2, hx.2.2⟩
  exact (List.perm_ext_iff_of_nodup nd (ends_nodup n)).mpr fun e => ⟨sub e, mem_of_full nd sub (by simp) e⟩
/-- numbered otherwise within the numbers, rotated: valid still -/
theorem Valid.moved {k : Nat} {d d' : Dr} (h : Valid k d) {π : Int → Int} {t : Sts} (ht : Rots d.1 t) (e1 : d'.1 = ren π t) (hl : d'.2.length = d.2.length) (hs : ∀ x ∈ d'.2, x = 1 ∨ x = -1)
    (hr : ∀ a : Int, 0 ≤ a → a < d.2.length → 0 ≤ π a ∧ π a < d.2.length) (hi : ∀ a b : Int, 0 ≤ a → a < d.2.length → 0 ≤ b → b < d.2.length → π a = π b → a = b) : Valid k d' := by
  refine ⟨?_, by rw [hl]; exact h.most, hs, ?_⟩
  · rw [e1, ← h.len, ht.length]; simp [ren]
  · rw [e1, hl]
    have e : (ren π t).flatten = t.flatten.map fun e => (π e.1, e.2) := by unfold ren; rw [List.map_flatten]
    rw [e]
    exact ((ht.flat.symm.trans h.perm).map _).trans (ends_map hr hi)
theorem Valid.cand {ring : Bool} {k : Nat} {d v : Dr} (h : Valid k d) (hv : v ∈ cands ring d) : Valid k v ∧ v.2.length = d.2.length := by
  have key : ∀ t, Rots d.1 t → Valid k (inOrder t d.2) ∧ (inOrder t d.2).2.length = d.2.length := by
    intro t ht
    have ha : ∀ a, a ∈ order t ↔ 0 ≤ a ∧ a < d.2.length := fun a => by rw [mem_order, ← ht.mem_arrs, h.arr]
    have hp := perm_range (order_nodup t) ha
    have hl : (order t).length = d.2.length := by rw [hp.length_eq]; simp
    have hl2 : (inOrder t d.2).2.length = d.2.length := by unfold inOrder; simpa using hl
    refine ⟨h.moved (π := fun a => (ix (order t) a : Int)) ht rfl hl2 ?_ ?_ ?_, hl2⟩
    · intro x hx
      unfold inOrder at hx
      obtain ⟨a, ha', rfl⟩ := List.mem_map.mp hx
      have := (ha a).mp ha'
      have e : a.toNat < d.2.length := by omega
      unfold sg
      rw [List.getElem?_eq_getElem e, Option.getD_some]
      exact h.sgn _ (List.getElem_mem e)
    · intro a h1 h2
      refine ⟨by simp, ?_⟩
      have := List.idxOf_lt_length_of_mem ((ha a).mpr ⟨h1, h2⟩)
      unfold ix
      omega
    · intro a b h1 h2 h3 h4 e
      exact ix_inj ((ha a).mpr ⟨h1, h2⟩) (by exact_mod_cast e)
  unfold cands at hv
  cases ring with
  | false =>
    simp only [Bool.false_eq_true, if_false, List.mem_singleton] at hv
    subst hv
    exact key d.1 (.refl _)
  | true =>
    simp only [if_true, List.mem_map] at hv
    obtain ⟨t, ht, rfl⟩ := hv
    exact key t (mem_begs.mp ht)
end Ac
end

section
set_option Elab.async false
set_option linter.all false
set_option autoImplicit false
/-! AcB: drawings read from the end on, mirrored, turned over. -/
namespace Ac
def bk (d : Dr) : Dr := (d.1.map List.reverse, d.2)
def mi (d : Dr) : Dr := (d.1, d.2.map fun x => -x)
def flE (e : En) : En := (e.1, 1 - e.2)
def flp (s : Sts) : Sts := s.map fun st => st.map flE
def ov (d : Dr) : Dr := (flp d.1, d.2.map fun x => -x)
theorem bk_bk (d : Dr) : bk (bk d) = d := by
  unfold bk; simp [Function.comp_def]
theorem mi_mi (d : Dr) : mi (mi d) = d := by
  unfold mi; simp [Function.comp_def]
theorem flE_flE (e : En) : flE (flE e) = e := by
  unfold flE
  refine Prod.ext rfl ?_
  show 1 - (1 - e.2) = e.2
  omega
theorem flp_flp (s : Sts) : flp (flp s) = s := by
  unfold flp
  rw [List.map_map]
  have : ((fun st : List En => st.map flE) ∘ fun st => st.map flE) = id := by
    funext st
    show (st.map flE).map flE = st
    rw [List.map_map]
    have : (flE ∘ flE) = id := funext flE_flE
    rw [this, List.map_id]
  rw [this, List.map_id]
theorem ov_ov (d : Dr) : ov (ov d) = d := by
  unfold ov
  rw [flp_flp]
  simp [Function.comp_def]
theorem bk_mi (d : Dr) : bk (mi d) = mi (bk d) := rfl
theorem flp_rev (s : Sts) : flp (s.map List.reverse) = (flp s).map List.reverse := by
  unfold flp; simp [Function.comp_def]
theorem bk_ov (d : Dr) : bk (ov d) = ov (bk d) := by
  unfold bk ov
  rw [flp_rev]
theorem mi_ov (d : Dr) : mi (ov d) = ov (mi d) := rfl
/-! ### they are drawings again -/
theorem flat_rev : ∀ s : Sts, (s.map List.reverse).flatten.Perm s.flatten
  | [] => .refl _
  | st :: s => by
    rw [List.map_cons, List.flatten_cons, List.flatten_cons]
    exact (List.reverse_perm st).append (flat_rev s)
theorem flat_flp (s : Sts) : (flp s).flatten = s.flatten.map flE := by
  unfold flp
  rw [List.map_flatten]
theorem flatMap_perm {α β : Type} {f g : α → List β} : ∀ {l : List α}, (∀ a ∈ l, (f a).Perm (g a)) → (l.flatMap f).Perm (l.flatMap g)
  | [], _ => .refl _
  | a :: l, h => by
    rw [List.flatMap_cons, List.flatMap_cons]
    exact (h a (by simp)).append (flatMap_perm fun b hb => h b (by simp [hb]))
theorem ends_flE (n : Nat) : ((ends n).map flE).Perm (ends n) := by
  unfold ends
  rw [List.map_flatMap]
  refine flatMap_perm fun i _ => ?_
  show ([((i : Int), (1 - 1 : Int)), ((i : Int), (1 - 0 : Int))] : List En).Perm [((i : Int), (1 : Int)), ((i : Int), (0 : Int))]
  exact .swap _ _ _
theorem Valid.bk {k : Nat} {d : Dr} (h : Valid k d) : Valid k (bk d) :=
  ⟨by show (d.1.map List.reverse).length = k; rw [List.length_map]; exact h.len, h.most, h.sgn, (flat_rev d.1).trans h.perm⟩
theorem neg_one {l : List Int} (h : ∀ x ∈ l, x = 1 ∨ x = -1) : ∀ x ∈ l.map fun x => -x, x = 1 ∨ x = -1 := by
  intro x hx
  obtain ⟨y, hy, rfl⟩ := List.mem_map.mp hx
  rcases h y hy with rfl | rfl
  · exact .inr rfl
  · exact .inl rfl
theorem Valid.mi {k : Nat} {d : Dr} (h : Valid k d) : Valid k (mi d) :=
  ⟨h.len, by show (d.2.map fun x => -x).length ≤ 8; rw [List.length_map]; exact h.most, neg_one h.sgn, by show d.1.flatten.Perm (ends (d.2.map fun x => -x).length); rw [List.length_map]; exact h.perm⟩
theorem Valid.ov {k : Nat} {d : Dr} (h : Valid k d) : Valid k (ov d) := by
  refine ⟨by show (flp d.1).length = k; unfold flp; rw [List.length_map]; exact h.len, by show (d.2.map fun x => -x).length ≤ 8; rw [List.length_map]; exact h.most, neg_one h.sgn, ?_⟩
  show (flp d.1).flatten.Perm (ends (d.2.map fun x => -x).length)
  rw [List.length_map, flat_flp]
  exact (h.perm.map flE).trans (ends_flE _)
/-! ### the same ones stay the same -/
theorem sg_neg (l : List Int) (a : Int) : sg (l.map fun x => -x) a = - sg l a := by
  unfold sg
  rw [List.getElem?_map]
  cases l[a.toNat]? <;> rfl
theorem arrs_rev {s : Sts} {a : Int} : a ∈ arrs (s.map List.reverse) ↔ a ∈ arrs s := by
  unfold arrs
  exact ((flat_rev s).map _).mem_iff
theorem arrs_flp (s : Sts) : arrs (flp s) = arrs s := by
  unfold arrs
  rw [flat_flp, List.map_map]
  rfl
theorem ren_rev (π : Int → Int) (s : Sts) : ren π (s.map List.reverse) = (ren π s).map List.reverse := by
  unfold ren; simp [Function.comp_def]
theorem ren_flp (π : Int → Int) (s : Sts) : ren π (flp s) = flp (ren π s) := by
  unfold ren flp
  rw [List.map_map, List.map_map]
  refine List.map_congr_left fun st _ => ?_
  show (st.map flE).map _ = (st.map _).map flE
  rw [List.map_map, List.map_map]
  rfl
theorem Rot.rev {α : Type} {x y : List α} : Rot x y → Rot x.reverse y.reverse := fun ⟨a, b, h1, h2⟩ => ⟨b.reverse, a.reverse, by rw [h1, List.reverse_append], by rw [h2, List.reverse_append]⟩
theorem Rots.rev : ∀ {s t}, Rots s t → Rots (s.map List.reverse) (t.map List.reverse)
  | _, _, .nil => .nil
  | _, _, .cons h k => .cons h.rev (Rots.rev k)
theorem Rots.flp : ∀ {s t}, Rots s t → Rots (flp s) (flp t)
  | _, _, .nil => .nil
  | _, _, .cons h k => .cons (h.map _) (Rots.flp k)
theorem Same.bk {ring : Bool} {d d' : Dr} (h : Same ring d d') : Same ring (bk d) (bk d') := by
  obtain ⟨π, t, h1, h2, h3, h4⟩ := h
  refine ⟨π, t.map List.reverse, ?_, ?_, fun a ha b hb => h3 a (arrs_rev.mp ha) b (arrs_rev.mp hb), fun a ha => h4 a (arrs_rev.mp ha)⟩
  · cases ring with
    | true => simp only [if_true] at h1 ⊢; exact h1.rev
    | false => simp only [Bool.false_eq_true, if_false] at h1 ⊢; rw [h1]; rfl
  · show d'.1.map List.reverse = _
    rw [h2, ren_rev]
theorem Same.mi {ring : Bool} {d d' : Dr} (h : Same ring d d') : Same ring (mi d) (mi d') := by
  obtain ⟨π, t, h1, h2, h3, h4⟩ := h
  refine ⟨π, t, h1, h2, h3, fun a ha => ?_⟩
  show sg (d'.2.map fun x => -x) (π a) = sg (d.2.map fun x => -x) a
  rw [sg_neg, sg_neg, h4 a ha]
theorem Same.ov {ring : Bool} {d d' : Dr} (h : Same ring d d') : Same ring (ov d) (ov d') := by
  obtain ⟨π, t, h1, h2, h3, h4⟩ := h
  refine ⟨π, flp t, ?_, ?_, ?_, fun a ha => ?_⟩
  · cases ring with
    | true => simp only [if_true] at h1 ⊢; exact h1.flp
    | false => simp only [Bool.false_eq_true, if_false] at h1 ⊢; rw [h1]; rfl
  · show flp d'.1 = _
    rw [h2, ren_flp]
  · rw [arrs_flp]; exact h3
  · rw [arrs_flp] at ha
    show sg (d'.2.map fun x => -x) (π a) = sg (d.2.map fun x => -x) a
    rw [sg_neg, sg_neg, h4 a ha]
/-! ### changed at a lot -/
def chE (as : List Int) (e : En) : En := (e.1, if e.1 ∈ as then 1 - e.2 else e.2)
def chS (as : List Int) (s : Sts) : Sts := s.map fun st => st.map (chE as)
def chG (as : List Int) (sgn : List Int) : List Int := ((List.range sgn.length).zip sgn).map fun q => if ((q.1 : Nat) : Int) ∈ as then -q.2 else q.2
def chg (as : List Int) (d : Dr) : Dr := (chS as d.1, chG as d.2)
theorem chG_all {as sgn : List Int} (h : ∀ i : Nat, i < sgn.length → (i : Int) ∈ as) : chG as sgn = sgn.map fun x => -x := by
  unfold chG
  apply List.ext_getElem
  · simp
  · intro i h1 h2
    simp at h1 h2 ⊢
    exact fun h3 => (h3 (h i h1)).elim
theorem chS_all {as : List Int} {s : Sts} (h : ∀ e ∈ s.flatten, e.1 ∈ as) : chS as s = flp s := by
  unfold chS flp
  refine List.map_congr_left fun st hst => List.map_congr_left fun e he => ?_
  unfold chE flE
  rw [if_pos (h e (List.mem_flatten.mpr ⟨st, hst, he⟩))]
theorem chg_all {k : Nat} {d : Dr} {as : List Int} (h : Valid k d) (ha : ∀ i : Nat, i < d.2.length → (i : Int) ∈ as) : chg as d = ov d := by
  unfold chg ov
  rw [chG_all ha, chS_all fun e he => ?_]
  have := mem_ends.mp (h.perm.mem_iff.mp he)
  have e1 : ((e.1.toNat : Nat) : Int) = e.1 := by omega
  rw [← e1]
  exact ha _ (by omega)
/-! ### which END stands behind which -/
def adj (ring : Bool) (st : List En) : List (En × En) := st.zip st.tail ++ (if ring = true ∧ 1 < st.length then (match st.getLast?, st.head? with
  | some x, some y => [(x, y)]
  | _, _ => []) else [])
def bh (ring : Bool) (s : Sts) : List (En × En) := s.flatMap (adj ring)
def swp (p : En × En) : En × En := (p.2, p.1)
theorem zip_tail_append {α : Type} : ∀ (xs : List α) (y : α) (ys : List α), (xs ++ y :: ys).zip (xs ++ y :: ys).tail = (xs ++ [y]).zip (xs ++ [y]).tail ++ (y :: ys).zip ys
  | [], y, ys => by simp
  | [x], y, ys => by simp
  | x :: x' :: xs, y, ys => by
    have ih := zip_tail_append (x' :: xs) y ys
    simp only [List.cons_append, List.tail_cons, List.zip_cons_cons] at ih ⊢
    rw [ih]
theorem zip_rev : ∀ (st : List En) (p : En × En), p ∈ st.reverse.zip st.reverse.tail ↔ swp p ∈ st.zip st.tail
  | [], p => by simp
  | [x], p => by simp
  | x :: y :: st, p => by
    have ih := zip_rev (y :: st) p
    have e : (x :: y :: st).reverse = st.reverse ++ y :: [x] := by simp
    rw [e, zip_tail_append]
    have e2 : st.reverse ++ [y] = (y :: st).reverse := by simp
    rw [e2, List.mem_append, ih]
    simp only [List.tail_cons, List.zip_cons_cons, List.mem_cons, List.zip_nil_right, List.not_mem_nil, or_false]
    constructor
    · rintro (h | rfl)
      · exact .inr h
      · exact .inl rfl
    · rintro (h | h)
      · refine .inr ?_
        obtain ⟨a, b⟩ := p
        unfold swp at h
        cases h
        rfl
      · exact .inl h
theorem adj_rev (ring : Bool) (st : List En) (p : En × En) : p ∈ adj ring st.reverse ↔ swp p ∈ adj ring st := by
  unfold adj
  rw [List.mem_append, List.mem_append, zip_rev, List.length_reverse]
  refine or_congr Iff.rfl ?_
  split
  · rw [List.getLast?_reverse, List.head?_reverse]
    cases st.head? <;> cases st.getLast? <;> simp
    rename_i x y
    obtain ⟨a, b⟩ := p
    unfold swp
    simp [Prod.ext_iff, and_comm]
  · simp
theorem bh_rev (ring : Bool) (s : Sts) (p : En × En) : p ∈ bh ring (s.map List.reverse) ↔ swp p ∈ bh ring s := by
  unfold bh
  rw [List.mem_flatMap, List.mem_flatMap]
  constructor
  · rintro ⟨st, hst, h⟩
    obtain ⟨st', h1, rfl⟩ := List.mem_map.mp hst
    exact ⟨st', h1, (adj_rev ring st' p).mp h⟩
  · rintro ⟨st, hst, h⟩
    exact ⟨st.reverse, List.mem_map_of_mem hst, (adj_rev ring st p).mpr h⟩
theorem adj_flp (ring : Bool) (st : List En) : adj ring (st.map flE) = (adj ring st).map fun p => (flE p.1, flE p.2) := by
  unfold adj
  rw [List.map_append, ← List.map_tail, List.length_map, List.getLast?_map, List.head?_map]
  have e : (st.zip st.tail).map (fun p => (flE p.1, flE p.2)) = (st.map flE).zip (st.tail.map flE) := by rw [List.zip_map]; rfl
  rw [e]
  congr 1
  split
  · cases st.getLast? <;> cases st.head? <;> rfl
  · rfl
theorem bh_flp (ring : Bool) (s : Sts) (p : En × En) : p ∈ bh ring (flp s) ↔ (flE p.1, flE p.2) ∈ bh ring s := by
  unfold bh
  rw [List.mem_flatMap, List.mem_flatMap]
  constructor
  · rintro ⟨st, hst, h⟩
    obtain ⟨st', h1, rfl⟩ := List.mem_map.mp hst
    rw [adj_flp] at h
    obtain ⟨q, hq, rfl⟩ := List.mem_map.mp h
    refine ⟨st', h1, ?_⟩
    simp only [flE_flE]
    exact hq
  · rintro ⟨st, hst, h⟩
    refine ⟨st.map flE, List.mem_map_of_mem hst, ?_⟩
    rw [adj_flp]
    refine List.mem_map.mpr ⟨_, h, ?_⟩
    simp only [flE_flE]
/-- next to one another, in either order -/
def near (ring : Bool) (s : Sts) (x y : En) : Bool := decide ((x, y) ∈ bh ring s) || decide ((y, x) ∈ bh ring s)
theorem near_comm (ring : Bool) (s : Sts) (x y : En) : near ring s x y = near ring s y x := Bool.or_comm _ _
theorem near_rev (ring : Bool) (s : Sts) (x y : En) : near ring (s.map List.reverse) x y = near ring s x y := by
  unfold near
  rw [decide_eq_decide.mpr (bh_rev ring s (x, y)), decide_eq_decide.mpr (bh_rev ring s (y, x))]
  exact Bool.or_comm _ _
theorem near_flp (ring : Bool) (s : Sts) (x y : En) : near ring (flp s) x y = near ring s (flE x) (flE y) := by
  unfold near
  rw [decide_eq_decide.mpr (bh_flp ring s (x, y)), decide_eq_decide.mpr (bh_flp ring s (y, x))]
def numL (n : Nat) : List Int := (List.range n).map fun i => ((i : Nat) : Int)
def lone (ring : Bool) (d : Dr) (a : Int) : Bool := near ring d.1 (a, 1) (a, 0)
def twin (ring : Bool) (d : Dr) (a b : Int) : Bool := !decide (sg d.2 a = sg d.2 b) && (near ring d.1 (a, 0) (b, 0) && near ring d.1 (a, 1) (b, 1))
def mv1 (ring : Bool) (d : Dr) : List Int := (numL d.2.length).filter (lone ring d)
def mv2 (ring : Bool) (d : Dr) : List (Int × Int) := (numL d.2.length).flatMap fun a => (((numL d.2.length).drop (a + 1).toNat).filter (twin ring d a)).map fun b => (a, b)
theorem fl0 (a : Int) : flE (a, 0) = (a, 1) := rfl
theorem fl1 (a : Int) : flE (a, 1) = (a, 0) := rfl
theorem lone_bk (ring : Bool) (d : Dr) : lone ring (bk d) = lone ring d := funext fun a => near_rev ring d.1 _ _
theorem lone_mi (ring : Bool) (d : Dr) : lone ring (mi d) = lone ring d := rfl
theorem lone_ov (ring : Bool) (d : Dr) : lone ring (ov d) = lone ring d := funext fun a => by
  show near ring (flp d.1) (a, 1) (a, 0) = near ring d.1 (a, 1) (a, 0)
  rw [near_flp, fl0, fl1, near_comm]
theorem neg_eq (x y : Int) : decide (-x = -y) = decide (x = y) := decide_eq_decide.mpr ⟨fun h => by omega, fun h => by omega⟩
theorem twin_bk (ring : Bool) (d : Dr) : twin ring (bk d) = twin ring d := funext fun a => funext fun b => by
  show (!decide (sg d.2 a = sg d.2 b) && (near ring (d.1.map List.reverse) (a, 0) (b, 0) && near ring (d.1.map List.reverse) (a, 1) (b, 1))) = _
  rw [near_rev, near_rev]
  rfl
theorem twin_mi (ring : Bool) (d : Dr) : twin ring (mi d) = twin ring d := funext fun a => funext fun b => by
  show (!decide (sg (d.2.map fun x => -x) a = sg (d.2.map fun x => -x) b) && _) = _
  rw [sg_neg, sg_neg, neg_eq]
  rfl
theorem twin_ov (ring : Bool) (d : Dr) : twin ring (ov d) = twin ring d := funext fun a => funext fun b => by
  show (!decide (sg (d.2.map fun x => -x) a = sg (d.2.map fun x => -x) b) && (near ring (flp d.1) (a, 0) (b, 0) && near ring (flp d.1) (a, 1) (b, 1))) = _
  rw [sg_neg, sg_neg, neg_eq, near_flp, near_flp, fl0, fl0, fl1, fl1, Bool.and_comm (near ring d.1 (a, 1) (b, 1))]
  rfl
theorem mv1_bk (ring : Bool) (d : Dr) : mv1 ring (bk d) = mv1 ring d := by unfold mv1; rw [lone_bk]; rfl
theorem mv1_mi (ring : Bool) (d : Dr) : mv1 ring (mi d) = mv1 ring d := by unfold mv1; rw [lone_mi]; simp [mi]
theorem mv1_ov (ring : Bool) (d : Dr) : mv1 ring (ov d) = mv1 ring d := by unfold mv1; rw [lone_ov]; simp [ov]
theorem mv2_bk (ring : Bool) (d : Dr) : mv2 ring (bk d) = mv2 ring d := by unfold mv2; rw [twin_bk]; rfl
theorem mv2_mi (ring : Bool) (d : Dr) : mv2 ring (mi d) = mv2 ring d := by unfold mv2; rw [twin_mi]; simp [mi]
theorem mv2_ov (ring : Bool) (d : Dr) : mv2 ring (ov d) = mv2 ring d := by unfold mv2; rw [twin_ov]; simp [ov]
end Ac
end

section
set_option Elab.async false
set_option linter.all false
set_option maxRecDepth 100000
open PySem
namespace Ev
def defs := mkDefs PySem.Challenge.pw_arrowcounts_k06_whole_turned_drawings
def consts : List (Str × D) := [("LINE", .str "line"), ("RING", .str "ring"), ("SORTS", .tuple [.str "line", .str "ring"]), ("MOST_STRANDS", .int 3), ("MOST_ARROWS", .int 8), ("OVER", .int 1), ("UNDER", .int 0), ("ONE", .str "one"), ("TWO", .str "two"), ("THREE", .str "three")]
def stt : St := sOf defs bltins consts
def glob : Str → Option D := globOf consts
theorem oks : defs.all DefI.ok = true := by decide +kernel
def F : List FnI := defs.map (DefI.fi stt 40)
def b0 : S := (S.ret (((E.var 0).isi ["int"]).and ((E.var 0).isi ["bool"]).not)).seq S.skip
def nm0 : List Nat := b0.names
theorem F0 : F[0]? = some ⟨1, 1, b0⟩ := by kernel_rfl
theorem C0 (l : Nat) (pws : List (Bool × W)) (h : pws.length = 1) : callAt F glob (l + 1) 0 pws = Sh.finK 1 nm0 pws (exec ⟨callAt F glob l, glob⟩ b0 (Sh.enterE 1 1 pws)) := Sh.call_eq F0 h
def b1 : S := (S.ret ((E.call 0 ((E.var 0).cons E.nil)).and (E.chn CmpOp.LtE CmpOp.LtE (E.var 1) (E.var 0) (E.var 2)))).seq S.skip
def nm1 : List Nat := b1.names
theorem F1 : F[1]? = some ⟨3, 3, b1⟩ := by kernel_rfl
theorem C1 (l : Nat) (pws : List (Bool × W)) (h : pws.length = 3) : callAt F glob (l + 1) 1 pws = Sh.finK 3 nm1 pws (exec ⟨callAt F glob l, glob⟩ b1 (Sh.enterE 3 3 pws)) := Sh.call_eq F1 h
def b2 : S := (S.ret ((E.call 0 ((E.var 0).cons E.nil)).and (E.cmp CmpOp.In (E.var 0) ((E.cst (PyData.int 1)).cons ((E.un UnaryOp.USub (E.cst (PyData.int 1))).cons E.nil)).tup))).seq S.skip
def nm2 : List Nat := b2.names
theorem F2 : F[2]? = some ⟨1, 1, b2⟩ := by kernel_rfl
theorem C2 (l : Nat) (pws : List (Bool × W)) (h : pws.length = 1) : callAt F glob (l + 1) 2 pws = Sh.finK 1 nm2 pws (exec ⟨callAt F glob l, glob⟩ b2 (Sh.enterE 1 1 pws)) := Sh.call_eq F2 h
def b3 : S := (S.ret (((E.var 0).isi ["tuple"]).and (E.cmp CmpOp.Eq (E.bi BI.len ((E.var 0).cons E.nil)) (E.cst (PyData.int 2))))).seq S.skip
def nm3 : List Nat := b3.names
theorem F3 : F[3]? = some ⟨1, 1, b3⟩ := by kernel_rfl
theorem C3 (l : Nat) (pws : List (Bool × W)) (h : pws.length = 1) : callAt F glob (l + 1) 3 pws = Sh.finK 1 nm3 pws (exec ⟨callAt F glob l, glob⟩ b3 (Sh.enterE 1 1 pws)) := Sh.call_eq F3 h
def b4 : S := (S.ife ((E.call 3 ((E.var 0).cons E.nil)).not.or ((((E.var 0).idx (E.cst (PyData.int 0))).isi ["str"]).not.or (E.cmp CmpOp.NotIn ((E.var 0).idx (E.cst (PyData.int 0))) (E.glb { cps := { toList := [83, 79, 82, 84, 83] } })))) ((S.ret (E.cst (PyData.bool false))).seq S.skip) S.skip).seq ((S.ret (E.call 1 (((E.var 0).idx (E.cst (PyData.int 1))).cons ((E.cst (PyData.int 1)).cons ((E.glb { cps := { toList := [77, 79, 83, 84, 95, 83, 84, 82, 65, 78, 68, 83] } }).cons E.nil))))).seq S.skip)
def nm4 : List Nat := b4.names
theorem F4 : F[4]? = some ⟨1, 1, b4⟩ := by kernel_rfl
theorem C4 (l : Nat) (pws : List (Bool × W)) (h : pws.length = 1) : callAt F glob (l + 1) 4 pws = Sh.finK 1 nm4 pws (exec ⟨callAt F glob l, glob⟩ b4 (Sh.enterE 1 1 pws)) := Sh.call_eq F4 h
def b5 : S := (S.ret ((E.call 3 ((E.var 0).cons E.nil)).and ((E.call 1 (((E.var 0).idx (E.cst (PyData.int 0))).cons ((E.cst (PyData.int 0)).cons ((E.bin Operator.Sub (E.var 1) (E.cst (PyData.int 1))).cons E.nil)))).and (E.call 1 (((E.var 0).idx (E.cst (PyData.int 1))).cons ((E.glb { cps := { toList := [85, 78, 68, 69, 82] } }).cons ((E.glb { cps := { toList := [79, 86, 69, 82] } }).cons E.nil))))))).seq S.skip
def nm5 : List Nat := b5.names
theorem F5 : F[5]? = some ⟨2, 2, b5⟩ := by kernel_rfl
theorem C5 (l : Nat) (pws : List (Bool × W)) (h : pws.length = 2) : callAt F glob (l + 1) 5 pws = Sh.finK 2 nm5 pws (exec ⟨callAt F glob l, glob⟩ b5 (Sh.enterE 2 2 pws)) := Sh.call_eq F5 h
def b6 : S := (S.ife ((E.call 3 ((E.var 1).cons E.nil)).not.or ((((E.var 1).idx (E.cst (PyData.int 0))).isi ["tuple"]).not.or (((E.var 1).idx (E.cst (PyData.int 1))).isi ["tuple"]).not)) ((S.ret (E.cst (PyData.bool false))).seq S.skip) S.skip).seq ((S.asg ((E.var 2).cons ((E.var 3).cons E.nil)).tup (E.var 1)).seq ((S.ife ((E.cmp CmpOp.NotEq (E.bi BI.len ((E.var 2).cons E.nil)) ((E.var 0).idx (E.cst (PyData.int 1)))).or ((E.cmp CmpOp.Gt (E.bi BI.len ((E.var 3).cons E.nil)) (E.glb { cps := { toList := [77, 79, 83, 84, 95, 65, 82, 82, 79, 87, 83] } })).or (E.bi BI.all ((E.lc [5, 6] (E.var 6) (E.var 3) E.nil (E.call 2 ((E.var 6).cons E.nil))).cons E.nil)).not)) ((S.ret (E.cst (PyData.bool false))).seq S.skip) S.skip).seq ((S.ife (E.bi BI.all ((E.lc [5, 7] (E.var 7) (E.var 2) E.nil ((E.var 7).isi ["tuple"])).cons E.nil)).not ((S.ret (E.cst (PyData.bool false))).seq S.skip) S.skip).seq ((S.asg (E.var 4) (E.lc2 [5, 7, 8] [8] (E.var 7) (E.var 2) E.nil (E.var 8) (E.var 7) E.nil (E.var 8))).seq ((S.ife ((E.cmp CmpOp.NotEq (E.bi BI.len ((E.var 4).cons E.nil)) (E.bin Operator.Mult (E.cst (PyData.int 2)) (E.bi BI.len ((E.var 3).cons E.nil)))).or (E.bi BI.all ((E.lc [5, 8] (E.var 8) (E.var 4) E.nil (E.call 5 ((E.var 8).cons ((E.bi BI.len ((E.var 3).cons E.nil)).cons E.nil)))).cons E.nil)).not) ((S.ret (E.cst (PyData.bool false))).seq S.skip) S.skip).seq ((S.ret (E.cmp CmpOp.Eq (E.bi BI.len ((E.dc [5, 8] (E.var 8) (E.var 4) E.nil (E.var 8) (E.cst (PyData.bool true))).cons E.nil)) (E.bi BI.len ((E.var 4).cons E.nil)))).seq S.skip))))))
def nm6 : List Nat := b6.names
theorem F6 : F[6]? = some ⟨2, 9, b6⟩ := by kernel_rfl
theorem C6 (l : Nat) (pws : List (Bool × W)) (h : pws.length = 2) : callAt F glob (l + 1) 6 pws = Sh.finK 2 nm6 pws (exec ⟨callAt F glob l, glob⟩ b6 (Sh.enterE 2 9 pws)) := Sh.call_eq F6 h
def b7 : S := (S.ret (E.bi BI.len (((E.var 0).idx (E.cst (PyData.int 1))).cons E.nil))).seq S.skip
def nm7 : List Nat := b7.names
theorem F7 : F[7]? = some ⟨1, 1, b7⟩ := by kernel_rfl
theorem C7 (l : Nat) (pws : List (Bool × W)) (h : pws.length = 1) : callAt F glob (l + 1) 7 pws = Sh.finK 1 nm7 pws (exec ⟨callAt F glob l, glob⟩ b7 (Sh.enterE 1 1 pws)) := Sh.call_eq F7 h
def b8 : S := (S.asg (E.var 2) E.dnew).seq ((S.for_ (E.var 3) (E.var 0) ((S.for_ ((E.var 4).cons ((E.var 5).cons E.nil)).tup (E.var 3) ((S.expr (E.meth MI.setdefault (E.var 2) ((E.var 4).cons ((E.bi BI.len ((E.var 2).cons E.nil)).cons E.nil)))).seq S.skip)).seq S.skip)).seq ((S.asg (E.var 6) (E.lc [7, 3] (E.var 3) (E.var 0) E.nil (E.bi BI.tuple ((E.lc [7, 4, 8] ((E.var 4).cons ((E.var 8).cons E.nil)).tup (E.var 3) E.nil (((E.var 2).idx (E.var 4)).cons ((E.var 8).cons E.nil)).tup).cons E.nil)))).seq ((S.ret ((E.bi BI.tuple ((E.var 6).cons E.nil)).cons ((E.bi BI.tuple ((E.lc [7, 4] (E.var 4) (E.var 2) E.nil ((E.var 1).idx (E.var 4))).cons E.nil)).cons E.nil)).tup).seq S.skip)))
def nm8 : List Nat := b8.names
theorem F8 : F[8]? = some ⟨2, 9, b8⟩ := by kernel_rfl
theorem C8 (l : Nat) (pws : List (Bool × W)) (h : pws.length = 2) : callAt F glob (l + 1) 8 pws = Sh.finK 2 nm8 pws (exec ⟨callAt F glob l, glob⟩ b8 (Sh.enterE 2 9 pws)) := Sh.call_eq F8 h
def b9 : S := (S.ret (E.lc [1, 2] (E.var 2) ((E.bi BI.max ((E.bi BI.len ((E.var 0).cons E.nil)).cons ((E.cst (PyData.int 1)).cons E.nil))).cons E.nil).rng E.nil (E.bin Operator.Add ((E.var 0).slc (E.var 2) E.nil) ((E.var 0).slc E.nil (E.var 2))))).seq S.skip
def nm9 : List Nat := b9.names
theorem F9 : F[9]? = some ⟨1, 3, b9⟩ := by kernel_rfl
theorem C9 (l : Nat) (pws : List (Bool × W)) (h : pws.length = 1) : callAt F glob (l + 1) 9 pws = Sh.finK 1 nm9 pws (exec ⟨callAt F glob l, glob⟩ b9 (Sh.enterE 1 3 pws)) := Sh.call_eq F9 h
def b10 : S := (S.asg (E.var 1) (E.nil.tup.cons E.nil).lst).seq ((S.for_ (E.var 2) (E.var 0) ((S.asg (E.var 1) (E.lc2 [3, 4, 5] [5] (E.var 4) (E.var 1) E.nil (E.var 5) (E.call 9 ((E.var 2).cons E.nil)) E.nil ((E.var 4).scons ((E.var 5).cons E.nil)).tup)).seq S.skip)).seq ((S.ret (E.var 1)).seq S.skip))
def nm10 : List Nat := b10.names
theorem F10 : F[10]? = some ⟨1, 6, b10⟩ := by kernel_rfl
theorem C10 (l : Nat) (pws : List (Bool × W)) (h : pws.length = 1) : callAt F glob (l + 1) 10 pws = Sh.finK 1 nm10 pws (exec ⟨callAt F glob l, glob⟩ b10 (Sh.enterE 1 6 pws)) := Sh.call_eq F10 h
def b11 : S := (S.asg ((E.var 2).cons ((E.var 3).cons E.nil)).tup (E.var 1)).seq ((S.ife (E.cmp CmpOp.Eq ((E.var 0).idx (E.cst (PyData.int 0))) (E.glb { cps := { toList := [76, 73, 78, 69] } })) ((S.ret (E.call 8 ((E.var 2).cons ((E.var 3).cons E.nil)))).seq S.skip) S.skip).seq ((S.ret (E.bi BI.min ((E.lc [4, 5] (E.var 5) (E.call 10 ((E.var 2).cons E.nil)) E.nil (E.call 8 ((E.var 5).cons ((E.var 3).cons E.nil)))).cons E.nil))).seq S.skip))
def nm11 : List Nat := b11.names
theorem F11 : F[11]? = some ⟨2, 6, b11⟩ := by kernel_rfl
theorem C11 (l : Nat) (pws : List (Bool × W)) (h : pws.length = 2) : callAt F glob (l + 1) 11 pws = Sh.finK 2 nm11 pws (exec ⟨callAt F glob l, glob⟩ b11 (Sh.enterE 2 6 pws)) := Sh.call_eq F11 h
def b12 : S := (S.ret (E.bi BI.tuple ((E.lc [1, 2] (E.var 2) (E.var 0) E.nil (E.un UnaryOp.USub (E.var 2))).cons E.nil))).seq S.skip
def nm12 : List Nat := b12.names
theorem F12 : F[12]? = some ⟨1, 3, b12⟩ := by kernel_rfl
theorem C12 (l : Nat) (pws : List (Bool × W)) (h : pws.length = 1) : callAt F glob (l + 1) 12 pws = Sh.finK 1 nm12 pws (exec ⟨callAt F glob l, glob⟩ b12 (Sh.enterE 1 3 pws)) := Sh.call_eq F12 h
def b13 : S := (S.ret ((E.bi BI.tuple ((E.lc [1, 2] (E.var 2) ((E.var 0).idx (E.cst (PyData.int 0))) E.nil (E.var 2).rev).cons E.nil)).cons (((E.var 0).idx (E.cst (PyData.int 1))).cons E.nil)).tup).seq S.skip
def nm13 : List Nat := b13.names
theorem F13 : F[13]? = some ⟨1, 3, b13⟩ := by kernel_rfl
theorem C13 (l : Nat) (pws : List (Bool × W)) (h : pws.length = 1) : callAt F glob (l + 1) 13 pws = Sh.finK 1 nm13 pws (exec ⟨callAt F glob l, glob⟩ b13 (Sh.enterE 1 3 pws)) := Sh.call_eq F13 h
def b14 : S := (S.ret (((E.var 0).idx (E.cst (PyData.int 0))).cons ((E.call 12 (((E.var 0).idx (E.cst (PyData.int 1))).cons E.nil)).cons E.nil)).tup).seq S.skip
def nm14 : List Nat := b14.names
theorem F14 : F[14]? = some ⟨1, 1, b14⟩ := by kernel_rfl
theorem C14 (l : Nat) (pws : List (Bool × W)) (h : pws.length = 1) : callAt F glob (l + 1) 14 pws = Sh.finK 1 nm14 pws (exec ⟨callAt F glob l, glob⟩ b14 (Sh.enterE 1 1 pws)) := Sh.call_eq F14 h
def b15 : S := (S.asg (E.var 2) E.nil.lst).seq ((S.for_ (E.var 3) ((E.var 0).idx (E.cst (PyData.int 0))) ((S.expr (E.meth MI.append (E.var 2) ((E.bi BI.tuple ((E.lc [5, 6, 7] ((E.var 6).cons ((E.var 7).cons E.nil)).tup (E.var 3) E.nil ((E.var 6).cons (((E.cmp CmpOp.In (E.var 6) (E.var 1)).ife (E.bin Operator.Sub (E.glb { cps := { toList := [79, 86, 69, 82] } }) (E.var 7)) (E.var 7)).cons E.nil)).tup).cons E.nil)).cons E.nil))).seq S.skip)).seq ((S.asg (E.var 4) (E.lc [5, 6, 8] ((E.var 6).cons ((E.var 8).cons E.nil)).tup ((E.var 0).idx (E.cst (PyData.int 1))).enum E.nil ((E.cmp CmpOp.In (E.var 6) (E.var 1)).ife (E.un UnaryOp.USub (E.var 8)) (E.var 8)))).seq ((S.ret ((E.bi BI.tuple ((E.var 2).cons E.nil)).cons ((E.bi BI.tuple ((E.var 4).cons E.nil)).cons E.nil)).tup).seq S.skip)))
def nm15 : List Nat := b15.names
theorem F15 : F[15]? = some ⟨2, 9, b15⟩ := by kernel_rfl
theorem C15 (l : Nat) (pws : List (Bool × W)) (h : pws.length = 2) : callAt F glob (l + 1) 15 pws = Sh.finK 2 nm15 pws (exec ⟨callAt F glob l, glob⟩ b15 (Sh.enterE 2 9 pws)) := Sh.call_eq F15 h
def b16 : S := (S.ret (E.call 15 ((E.var 0).cons ((E.bi BI.tuple (((E.call 7 ((E.var 0).cons E.nil)).cons E.nil).lrng.cons E.nil)).cons E.nil)))).seq S.skip
def nm16 : List Nat := b16.names
theorem F16 : F[16]? = some ⟨1, 1, b16⟩ := by kernel_rfl
theorem C16 (l : Nat) (pws : List (Bool × W)) (h : pws.length = 1) : callAt F glob (l + 1) 16 pws = Sh.finK 1 nm16 pws (exec ⟨callAt F glob l, glob⟩ b16 (Sh.enterE 1 1 pws)) := Sh.call_eq F16 h
def b17 : S := (S.ife (E.call 4 ((E.var 0).cons E.nil)).not ((S.expr E.nil.rng).seq S.skip) S.skip).seq S.skip
def nm17 : List Nat := b17.names
theorem F17 : F[17]? = some ⟨1, 1, b17⟩ := by kernel_rfl
theorem C17 (l : Nat) (pws : List (Bool × W)) (h : pws.length = 1) : callAt F glob (l + 1) 17 pws = Sh.finK 1 nm17 pws (exec ⟨callAt F glob l, glob⟩ b17 (Sh.enterE 1 1 pws)) := Sh.call_eq F17 h
def b18 : S := (S.expr (E.call 17 ((E.var 0).cons E.nil))).seq ((S.expr (E.call 19 ((E.var 0).cons ((E.var 1).cons E.nil)))).seq S.skip)
def nm18 : List Nat := b18.names
theorem F18 : F[18]? = some ⟨2, 2, b18⟩ := by kernel_rfl
theorem C18 (l : Nat) (pws : List (Bool × W)) (h : pws.length = 2) : callAt F glob (l + 1) 18 pws = Sh.finK 2 nm18 pws (exec ⟨callAt F glob l, glob⟩ b18 (Sh.enterE 2 2 pws)) := Sh.call_eq F18 h
def b19 : S := (S.ife (E.call 6 ((E.var 0).cons ((E.var 1).cons E.nil))).not ((S.expr E.nil.rng).seq S.skip) S.skip).seq S.skip
def nm19 : List Nat := b19.names
theorem F19 : F[19]? = some ⟨2, 2, b19⟩ := by kernel_rfl
theorem C19 (l : Nat) (pws : List (Bool × W)) (h : pws.length = 2) : callAt F glob (l + 1) 19 pws = Sh.finK 2 nm19 pws (exec ⟨callAt F glob l, glob⟩ b19 (Sh.enterE 2 2 pws)) := Sh.call_eq F19 h
def b20 : S := (S.expr (E.call 17 ((E.var 0).cons E.nil))).seq ((S.ret (E.call 6 ((E.var 0).cons ((E.var 1).cons E.nil)))).seq S.skip)
def nm20 : List Nat := b20.names
theorem F20 : F[20]? = some ⟨2, 2, b20⟩ := by kernel_rfl
theorem C20 (l : Nat) (pws : List (Bool × W)) (h : pws.length = 2) : callAt F glob (l + 1) 20 pws = Sh.finK 2 nm20 pws (exec ⟨callAt F glob l, glob⟩ b20 (Sh.enterE 2 2 pws)) := Sh.call_eq F20 h
def b21 : S := (S.expr (E.call 18 ((E.var 0).cons ((E.var 1).cons E.nil)))).seq ((S.ret (E.call 11 ((E.var 0).cons ((E.var 1).cons E.nil)))).seq S.skip)
def nm21 : List Nat := b21.names
theorem F21 : F[21]? = some ⟨2, 2, b21⟩ := by kernel_rfl
theorem C21 (l : Nat) (pws : List (Bool × W)) (h : pws.length = 2) : callAt F glob (l + 1) 21 pws = Sh.finK 2 nm21 pws (exec ⟨callAt F glob l, glob⟩ b21 (Sh.enterE 2 2 pws)) := Sh.call_eq F21 h
def b22 : S := (S.expr (E.call 18 ((E.var 0).cons ((E.var 1).cons E.nil)))).seq ((S.expr (E.call 19 ((E.var 0).cons ((E.var 2).cons E.nil)))).seq ((S.ret (E.cmp CmpOp.Eq (E.call 11 ((E.var 0).cons ((E.var 1).cons E.nil))) (E.call 11 ((E.var 0).cons ((E.var 2).cons E.nil))))).seq S.skip))
def nm22 : List Nat := b22.names
theorem F22 : F[22]? = some ⟨3, 3, b22⟩ := by kernel_rfl
theorem C22 (l : Nat) (pws : List (Bool × W)) (h : pws.length = 3) : callAt F glob (l + 1) 22 pws = Sh.finK 3 nm22 pws (exec ⟨callAt F glob l, glob⟩ b22 (Sh.enterE 3 3 pws)) := Sh.call_eq F22 h
def b23 : S := (S.expr (E.call 18 ((E.var 0).cons ((E.var 1).cons E.nil)))).seq ((S.ret (E.call 13 ((E.var 1).cons E.nil))).seq S.skip)
def nm23 : List Nat := b23.names
theorem F23 : F[23]? = some ⟨2, 2, b23⟩ := by kernel_rfl
theorem C23 (l : Nat) (pws : List (Bool × W)) (h : pws.length = 2) : callAt F glob (l + 1) 23 pws = Sh.finK 2 nm23 pws (exec ⟨callAt F glob l, glob⟩ b23 (Sh.enterE 2 2 pws)) := Sh.call_eq F23 h
def b24 : S := (S.expr (E.call 18 ((E.var 0).cons ((E.var 1).cons E.nil)))).seq ((S.ret (E.call 14 ((E.var 1).cons E.nil))).seq S.skip)
def nm24 : List Nat := b24.names
theorem F24 : F[24]? = some ⟨2, 2, b24⟩ := by kernel_rfl
theorem C24 (l : Nat) (pws : List (Bool × W)) (h : pws.length = 2) : callAt F glob (l + 1) 24 pws = Sh.finK 2 nm24 pws (exec ⟨callAt F glob l, glob⟩ b24 (Sh.enterE 2 2 pws)) := Sh.call_eq F24 h
def b25 : S := (S.expr (E.call 18 ((E.var 0).cons ((E.var 1).cons E.nil)))).seq ((S.ret (E.call 16 ((E.var 1).cons E.nil))).seq S.skip)
def nm25 : List Nat := b25.names
theorem F25 : F[25]? = some ⟨2, 2, b25⟩ := by kernel_rfl
theorem C25 (l : Nat) (pws : List (Bool × W)) (h : pws.length = 2) : callAt F glob (l + 1) 25 pws = Sh.finK 2 nm25 pws (exec ⟨callAt F glob l, glob⟩ b25 (Sh.enterE 2 2 pws)) := Sh.call_eq F25 h
def b26 : S := (S.asg (E.var 2) E.dnew).seq ((S.for_ (E.var 3) ((E.var 1).idx (E.cst (PyData.int 0))) ((S.for_ ((E.var 4).cons ((E.var 5).cons E.nil)).tup ((E.var 3).zip ((E.var 3).slc (E.cst (PyData.int 1)) E.nil)) ((S.asg ((E.var 2).idx (E.var 4)) (E.var 5)).seq S.skip)).seq ((S.ife ((E.cmp CmpOp.Eq ((E.var 0).idx (E.cst (PyData.int 0))) (E.glb { cps := { toList := [82, 73, 78, 71] } })).and (E.cmp CmpOp.Gt (E.bi BI.len ((E.var 3).cons E.nil)) (E.cst (PyData.int 1)))) ((S.asg ((E.var 2).idx ((E.var 3).idx (E.un UnaryOp.USub (E.cst (PyData.int 1))))) ((E.var 3).idx (E.cst (PyData.int 0)))).seq S.skip) S.skip).seq S.skip))).seq ((S.ret (E.var 2)).seq S.skip))
def nm26 : List Nat := b26.names
theorem F26 : F[26]? = some ⟨2, 6, b26⟩ := by kernel_rfl
theorem C26 (l : Nat) (pws : List (Bool × W)) (h : pws.length = 2) : callAt F glob (l + 1) 26 pws = Sh.finK 2 nm26 pws (exec ⟨callAt F glob l, glob⟩ b26 (Sh.enterE 2 6 pws)) := Sh.call_eq F26 h
def b27 : S := (S.asg (E.var 3) ((E.cmp CmpOp.Eq (E.meth MI.get (E.var 0) ((E.var 1).cons E.nil)) (E.var 2)).ife ((E.cst (PyData.int 1)).cons E.nil).lst E.nil.lst)).seq ((S.ret (E.bin Operator.Add (E.var 3) ((E.cmp CmpOp.Eq (E.meth MI.get (E.var 0) ((E.var 2).cons E.nil)) (E.var 1)).ife ((E.un UnaryOp.USub (E.cst (PyData.int 1))).cons E.nil).lst E.nil.lst))).seq S.skip)
def nm27 : List Nat := b27.names
theorem F27 : F[27]? = some ⟨3, 4, b27⟩ := by kernel_rfl
theorem C27 (l : Nat) (pws : List (Bool × W)) (h : pws.length = 3) : callAt F glob (l + 1) 27 pws = Sh.finK 3 nm27 pws (exec ⟨callAt F glob l, glob⟩ b27 (Sh.enterE 3 4 pws)) := Sh.call_eq F27 h
def b28 : S := (S.ret (E.cmp CmpOp.NotEq (E.call 27 ((E.var 0).cons (((E.var 1).cons ((E.glb { cps := { toList := [79, 86, 69, 82] } }).cons E.nil)).tup.cons (((E.var 1).cons ((E.glb { cps := { toList := [85, 78, 68, 69, 82] } }).cons E.nil)).tup.cons E.nil)))) E.nil.lst)).seq S.skip
def nm28 : List Nat := b28.names
theorem F28 : F[28]? = some ⟨2, 2, b28⟩ := by kernel_rfl
theorem C28 (l : Nat) (pws : List (Bool × W)) (h : pws.length = 2) : callAt F glob (l + 1) 28 pws = Sh.finK 2 nm28 pws (exec ⟨callAt F glob l, glob⟩ b28 (Sh.enterE 2 2 pws)) := Sh.call_eq F28 h
def b29 : S := (S.ife (E.cmp CmpOp.Eq (((E.var 0).idx (E.cst (PyData.int 1))).idx (E.var 2)) (((E.var 0).idx (E.cst (PyData.int 1))).idx (E.var 3))) ((S.ret (E.cst (PyData.bool false))).seq S.skip) S.skip).seq ((S.ret (E.bi BI.all ((E.lc [4, 5] (E.var 5) ((E.glb { cps := { toList := [79, 86, 69, 82] } }).cons ((E.glb { cps := { toList := [85, 78, 68, 69, 82] } }).cons E.nil)).tup E.nil (E.cmp CmpOp.NotEq (E.call 27 ((E.var 1).cons (((E.var 2).cons ((E.var 5).cons E.nil)).tup.cons (((E.var 3).cons ((E.var 5).cons E.nil)).tup.cons E.nil)))) E.nil.lst)).cons E.nil))).seq S.skip)
def nm29 : List Nat := b29.names
theorem F29 : F[29]? = some ⟨4, 6, b29⟩ := by kernel_rfl
theorem C29 (l : Nat) (pws : List (Bool × W)) (h : pws.length = 4) : callAt F glob (l + 1) 29 pws = Sh.finK 4 nm29 pws (exec ⟨callAt F glob l, glob⟩ b29 (Sh.enterE 4 6 pws)) := Sh.call_eq F29 h
def b30 : S := (S.asg ((E.var 3).cons ((E.var 4).cons ((E.var 5).cons E.nil))).tup (E.var 2)).seq ((S.asg ((E.var 6).cons ((E.var 7).cons ((E.var 8).cons E.nil))).tup (E.lc [14, 15] (E.var 15) (E.var 2) E.nil (((E.var 0).idx (E.cst (PyData.int 1))).idx (E.var 15)))).seq ((S.asg (E.var 9) (E.call 27 ((E.var 1).cons (((E.var 3).cons ((E.glb { cps := { toList := [79, 86, 69, 82] } }).cons E.nil)).tup.cons (((E.var 4).cons ((E.glb { cps := { toList := [79, 86, 69, 82] } }).cons E.nil)).tup.cons E.nil))))).seq ((S.asg (E.var 10) (E.call 27 ((E.var 1).cons (((E.var 3).cons ((E.glb { cps := { toList := [85, 78, 68, 69, 82] } }).cons E.nil)).tup.cons (((E.var 5).cons ((E.glb { cps := { toList := [79, 86, 69, 82] } }).cons E.nil)).tup.cons E.nil))))).seq ((S.asg (E.var 11) (E.call 27 ((E.var 1).cons (((E.var 4).cons ((E.glb { cps := { toList := [85, 78, 68, 69, 82] } }).cons E.nil)).tup.cons (((E.var 5).cons ((E.glb { cps := { toList := [85, 78, 68, 69, 82] } }).cons E.nil)).tup.cons E.nil))))).seq ((S.asg (E.var 12) (E.lc [14, 16] (E.var 16) (E.var 10) E.nil (E.bin Operator.Mult (E.var 16) (E.var 6)))).seq ((S.asg (E.var 13) (E.lc [14, 16] (E.var 16) (E.var 9) E.nil (E.bin Operator.Mult (E.bin Operator.Mult (E.bin Operator.Mult (E.var 16) (E.var 6)) (E.var 7)) (E.var 8)))).seq ((S.ret (E.bi BI.any ((E.lc [14, 16] (E.var 16) (E.var 11) E.nil ((E.cmp CmpOp.In (E.bin Operator.Mult (E.var 16) (E.var 7)) (E.var 12)).and (E.cmp CmpOp.In (E.bin Operator.Mult (E.var 16) (E.var 7)) (E.var 13)))).cons E.nil))).seq S.skip)))))))
def nm30 : List Nat := b30.names
theorem F30 : F[30]? = some ⟨3, 17, b30⟩ := by kernel_rfl
theorem C30 (l : Nat) (pws : List (Bool × W)) (h : pws.length = 3) : callAt F glob (l + 1) 30 pws = Sh.finK 3 nm30 pws (exec ⟨callAt F glob l, glob⟩ b30 (Sh.enterE 3 17 pws)) := Sh.call_eq F30 h
def b31 : S := (S.asg (E.var 2) ((E.call 7 ((E.var 0).cons E.nil)).cons E.nil).lrng).seq ((S.asg (E.var 3) E.nil.lst).seq ((S.for_ (E.var 4) (E.var 2) ((S.for_ (E.var 5) (E.var 2) ((S.ife ((E.cmp CmpOp.NotEq (E.var 4) (E.var 5)).and (E.cmp CmpOp.NotEq (E.call 27 ((E.var 1).cons (((E.var 4).cons ((E.glb { cps := { toList := [79, 86, 69, 82] } }).cons E.nil)).tup.cons (((E.var 5).cons ((E.glb { cps := { toList := [79, 86, 69, 82] } }).cons E.nil)).tup.cons E.nil)))) E.nil.lst)) ((S.asg (E.var 6) (E.lc [7, 8] (E.var 8) (E.var 2) (E.cmp CmpOp.NotIn (E.var 8) ((E.var 4).cons ((E.var 5).cons E.nil)).tup) (E.var 8))).seq ((S.expr (E.meth MI.extend (E.var 3) ((E.lc [7, 8] (E.var 8) (E.var 6) (E.call 30 ((E.var 0).cons ((E.var 1).cons (((E.var 4).cons ((E.var 5).cons ((E.var 8).cons E.nil))).tup.cons E.nil)))) ((E.var 4).cons ((E.var 5).cons ((E.var 8).cons E.nil))).tup).cons E.nil))).seq S.skip)) S.skip).seq S.skip)).seq S.skip)).seq ((S.ret (E.lc [7, 6] (E.var 6) (E.var 3) E.nil ((E.glb { cps := { toList := [84, 72, 82, 69, 69] } }).cons ((E.var 6).scons E.nil)).tup)).seq S.skip)))
def nm31 : List Nat := b31.names
theorem F31 : F[31]? = some ⟨2, 9, b31⟩ := by kernel_rfl
theorem C31 (l : Nat) (pws : List (Bool × W)) (h : pws.length = 2) : callAt F glob (l + 1) 31 pws = Sh.finK 2 nm31 pws (exec ⟨callAt F glob l, glob⟩ b31 (Sh.enterE 2 9 pws)) := Sh.call_eq F31 h
def b32 : S := (S.par ((E.var 2).cons ((E.var 3).cons E.nil)) ((E.call 26 ((E.var 0).cons ((E.var 1).cons E.nil))).cons (((E.call 7 ((E.var 1).cons E.nil)).cons E.nil).lrng.cons E.nil))).seq ((S.asg (E.var 4) (E.lc [6, 7] (E.var 7) (E.var 3) (E.call 28 ((E.var 2).cons ((E.var 7).cons E.nil))) ((E.glb { cps := { toList := [79, 78, 69] } }).cons ((E.var 7).cons E.nil)).tup)).seq ((S.for_ (E.var 5) (E.var 3) ((S.expr (E.meth MI.extend (E.var 4) ((E.lc [6, 8] (E.var 8) ((E.var 3).slc (E.bin Operator.Add (E.var 5) (E.cst (PyData.int 1))) E.nil) (E.call 29 ((E.var 1).cons ((E.var 2).cons ((E.var 5).cons ((E.var 8).cons E.nil))))) ((E.glb { cps := { toList := [84, 87, 79] } }).cons ((E.var 5).cons ((E.var 8).cons E.nil))).tup).cons E.nil))).seq S.skip)).seq ((S.ret (E.bi BI.sorted ((E.bin Operator.Add (E.var 4) (E.call 31 ((E.var 1).cons ((E.var 2).cons E.nil)))).cons E.nil))).seq S.skip)))
def nm32 : List Nat := b32.names
theorem F32 : F[32]? = some ⟨2, 9, b32⟩ := by kernel_rfl
theorem C32 (l : Nat) (pws : List (Bool × W)) (h : pws.length = 2) : callAt F glob (l + 1) 32 pws = Sh.finK 2 nm32 pws (exec ⟨callAt F glob l, glob⟩ b32 (Sh.enterE 2 9 pws)) := Sh.call_eq F32 h
def b33 : S := (S.expr (E.call 18 ((E.var 0).cons ((E.var 1).cons E.nil)))).seq ((S.ret (E.bi BI.tuple ((E.call 32 ((E.var 0).cons ((E.var 1).cons E.nil))).cons E.nil))).seq S.skip)
def nm33 : List Nat := b33.names
theorem F33 : F[33]? = some ⟨2, 2, b33⟩ := by kernel_rfl
theorem C33 (l : Nat) (pws : List (Bool × W)) (h : pws.length = 2) : callAt F glob (l + 1) 33 pws = Sh.finK 2 nm33 pws (exec ⟨callAt F glob l, glob⟩ b33 (Sh.enterE 2 2 pws)) := Sh.call_eq F33 h
def b34 : S := (S.asg (E.var 2) ((E.cmp CmpOp.Lt (E.var 1) (E.bi BI.len ((E.var 0).cons E.nil))).ife (E.bi BI.int (((E.var 0).idx (E.var 1)).cons E.nil)) (E.bin Operator.Add (E.cst (PyData.int 773)) (E.bin Operator.Mult (E.cst (PyData.int 37)) (E.var 1))))).seq ((S.asg (E.var 3) (E.bin Operator.Add (E.cst (PyData.int 70535)) (E.bin Operator.Mult (E.cst (PyData.int 19)) (E.var 1)))).seq ((S.for_ ((E.var 4).cons ((E.var 5).cons E.nil)).tup ((E.var 0).slc E.nil (E.cst (PyData.int 36))).enum ((S.asg (E.var 3) (E.bin Operator.Mod (E.bi BI.int ((E.bin Operator.Add (E.bin Operator.Add (E.bin Operator.Mult (E.var 3) (E.cst (PyData.int 3202034522624059733))) (E.bin Operator.Mult (E.bin Operator.Mod (E.bi BI.int ((E.var 5).cons E.nil)) (E.cst (PyData.int 1000000087))) (E.bin Operator.Add (E.bin Operator.Mult (E.cst (PyData.int 4)) (E.var 4)) (E.cst (PyData.int 3))))) (E.cst (PyData.int 11))).cons E.nil)) (E.cst (PyData.int 4611686018427387733)))).seq S.skip)).seq ((S.asg (E.var 3) (E.bin Operator.Mod (E.bi BI.int ((E.bin Operator.Add (E.bin Operator.Add (E.bin Operator.Mult (E.var 3) (E.cst (PyData.int 3202034522624059733))) (E.bin Operator.Mod (E.var 2) (E.cst (PyData.int 1000000087)))) (E.cst (PyData.int 13))).cons E.nil)) (E.cst (PyData.int 4611686018427387733)))).seq ((S.ret ((E.var 3).cons ((((E.cmp CmpOp.Lt (E.var 2) (E.cst (PyData.int 0))).or (E.cmp CmpOp.GtE (E.var 2) (E.bin Operator.Pow (E.cst (PyData.int 10)) (E.cst (PyData.int 18))))).ife (E.bin Operator.Mod (E.bi BI.int ((E.bi BI.abs ((E.var 2).cons E.nil)).cons E.nil)) (E.bin Operator.Pow (E.cst (PyData.int 10)) (E.cst (PyData.int 54)))) (E.cst (PyData.int 0))).cons E.nil)).lst).seq S.skip))))
def nm34 : List Nat := b34.names
theorem F34 : F[34]? = some ⟨2, 6, b34⟩ := by kernel_rfl
theorem C34 (l : Nat) (pws : List (Bool × W)) (h : pws.length = 2) : callAt F glob (l + 1) 34 pws = Sh.finK 2 nm34 pws (exec ⟨callAt F glob l, glob⟩ b34 (Sh.enterE 2 6 pws)) := Sh.call_eq F34 h
def b35 : S := (S.ife (E.cmp CmpOp.Gt ((E.var 0).idx (E.cst (PyData.int 1))) (E.cst (PyData.int 0))) ((S.asg (((E.var 0).idx (E.cst (PyData.int 1))).cons ((E.var 2).cons E.nil)).tup (E.bi BI.divmod (((E.var 0).idx (E.cst (PyData.int 1))).cons ((E.var 1).cons E.nil)))).seq ((S.ret (E.var 2)).seq S.skip)) S.skip).seq ((S.asg ((E.var 0).idx (E.cst (PyData.int 0))) (E.bin Operator.Mod (E.bi BI.int ((E.bin Operator.Add (E.bin Operator.Mult ((E.var 0).idx (E.cst (PyData.int 0))) (E.cst (PyData.int 2862933555777941757))) (E.cst (PyData.int 3037000493))).cons E.nil)) (E.cst (PyData.int 4611686018427387733)))).seq ((S.ret (E.bin Operator.Mod (E.bi BI.int ((E.bin Operator.FloorDiv ((E.var 0).idx (E.cst (PyData.int 0))) (E.cst (PyData.int 8388608))).cons E.nil)) (E.var 1))).seq S.skip))
def nm35 : List Nat := b35.names
theorem F35 : F[35]? = some ⟨2, 3, b35⟩ := by kernel_rfl
theorem C35 (l : Nat) (pws : List (Bool × W)) (h : pws.length = 2) : callAt F glob (l + 1) 35 pws = Sh.finK 2 nm35 pws (exec ⟨callAt F glob l, glob⟩ b35 (Sh.enterE 2 3 pws)) := Sh.call_eq F35 h
def b36 : S := (S.ret ((E.var 1).idx (E.call 35 ((E.var 0).cons ((E.bi BI.len ((E.var 1).cons E.nil)).cons E.nil))))).seq S.skip
def nm36 : List Nat := b36.names
theorem F36 : F[36]? = some ⟨2, 2, b36⟩ := by kernel_rfl
theorem C36 (l : Nat) (pws : List (Bool × W)) (h : pws.length = 2) : callAt F glob (l + 1) 36 pws = Sh.finK 2 nm36 pws (exec ⟨callAt F glob l, glob⟩ b36 (Sh.enterE 2 2 pws)) := Sh.call_eq F36 h
def b37 : S := (S.ife ((E.var 1).isi ["tuple"]) ((S.ret (((E.var 0).isi ["tuple"]).and ((E.cmp CmpOp.Eq (E.bi BI.len ((E.var 0).cons E.nil)) (E.bi BI.len ((E.var 1).cons E.nil))).and (E.cmp CmpOp.NotIn (E.cst (PyData.bool false)) (E.lc [2, 3, 4] ((E.var 3).cons ((E.var 4).cons E.nil)).tup ((E.var 0).zip (E.var 1)) E.nil (E.call 37 ((E.var 3).cons ((E.var 4).cons E.nil)))))))).seq S.skip) S.skip).seq ((S.ife ((E.cmp CmpOp.Is (E.var 1) (E.cst PyData.none)).or ((E.var 1).isi ["bool"])) ((S.ret ((E.cmp CmpOp.Is (E.var 1) (E.cst PyData.none)).ife (E.cmp CmpOp.Is (E.var 0) (E.cst PyData.none)) (((E.var 0).isi ["bool"]).and (E.cmp CmpOp.Eq (E.var 0) (E.var 1))))).seq S.skip) S.skip).seq ((S.ife ((E.var 1).isi ["int"]) ((S.ret (((E.var 0).isi ["int"]).and (((E.var 0).isi ["bool"]).not.and (E.cmp CmpOp.Eq (E.var 0) (E.var 1))))).seq S.skip) S.skip).seq ((S.ret (((E.var 0).isi ["str"]).and (((E.var 1).isi ["str"]).and (E.cmp CmpOp.Eq (E.var 0) (E.var 1))))).seq S.skip)))
def nm37 : List Nat := b37.names
theorem F37 : F[37]? = some ⟨2, 5, b37⟩ := by kernel_rfl
theorem C37 (l : Nat) (pws : List (Bool × W)) (h : pws.length = 2) : callAt F glob (l + 1) 37 pws = Sh.finK 2 nm37 pws (exec ⟨callAt F glob l, glob⟩ b37 (Sh.enterE 2 5 pws)) := Sh.call_eq F37 h
def b38 : S := (S.par ((E.var 2).cons ((E.var 3).cons E.nil)) (E.dnew.cons (E.nil.lst.cons E.nil))).seq ((S.for_ (E.var 4) (E.var 0) ((S.for_ ((E.var 5).cons ((E.var 6).cons E.nil)).tup (E.var 4) ((S.asg ((E.var 2).idx (E.var 5)) (E.meth MI.get (E.var 2) ((E.var 5).cons ((E.bi BI.len ((E.var 2).cons E.nil)).cons E.nil)))).seq S.skip)).seq S.skip)).seq ((S.for_ (E.var 4) (E.var 0) ((S.expr (E.meth MI.append (E.var 3) ((E.bi BI.tuple ((E.lc [7, 5, 6] ((E.var 5).cons ((E.var 6).cons E.nil)).tup (E.var 4) E.nil (((E.var 2).idx (E.var 5)).cons ((E.var 6).cons E.nil)).tup).cons E.nil)).cons E.nil))).seq S.skip)).seq ((S.ret ((E.bi BI.tuple ((E.var 3).cons E.nil)).cons ((E.bi BI.tuple ((E.lc [7, 5] (E.var 5) (E.var 2) E.nil ((E.var 1).idx (E.var 5))).cons E.nil)).cons E.nil)).tup).seq S.skip)))
def nm38 : List Nat := b38.names
theorem F38 : F[38]? = some ⟨2, 8, b38⟩ := by kernel_rfl
theorem C38 (l : Nat) (pws : List (Bool × W)) (h : pws.length = 2) : callAt F glob (l + 1) 38 pws = Sh.finK 2 nm38 pws (exec ⟨callAt F glob l, glob⟩ b38 (Sh.enterE 2 8 pws)) := Sh.call_eq F38 h
def b39 : S := (S.ret (((E.cmp CmpOp.Eq (E.var 1) (E.cst (PyData.str { cps := { toList := [114, 105, 110, 103] } }))).and (E.cmp CmpOp.NotEq (E.var 0) E.nil.tup)).ife (E.lc [2, 3] (E.var 3) ((E.bi BI.len ((E.var 0).cons E.nil)).cons E.nil).rng E.nil (E.bin Operator.Add ((E.var 0).slc (E.var 3) E.nil) ((E.var 0).slc E.nil (E.var 3)))) ((E.var 0).cons E.nil).lst)).seq S.skip
def nm39 : List Nat := b39.names
theorem F39 : F[39]? = some ⟨2, 4, b39⟩ := by kernel_rfl
theorem C39 (l : Nat) (pws : List (Bool × W)) (h : pws.length = 2) : callAt F glob (l + 1) 39 pws = Sh.finK 2 nm39 pws (exec ⟨callAt F glob l, glob⟩ b39 (Sh.enterE 2 4 pws)) := Sh.call_eq F39 h
def b40 : S := (S.asg (E.var 2) (E.nil.tup.cons E.nil).lst).seq ((S.for_ (E.var 3) ((E.var 1).idx (E.cst (PyData.int 0))) ((S.asg (E.var 4) E.nil.lst).seq ((S.for_ (E.var 5) (E.var 2) ((S.asg (E.var 4) (E.bin Operator.Add (E.var 4) (E.lc [6, 7] (E.var 7) (E.call 39 ((E.var 3).cons (((E.var 0).idx (E.cst (PyData.int 0))).cons E.nil))) E.nil (E.bin Operator.Add (E.var 5) ((E.var 7).cons E.nil).tup)))).seq S.skip)).seq ((S.asg (E.var 2) (E.var 4)).seq S.skip)))).seq ((S.ret (E.bi BI.min ((E.lc [6, 8] (E.var 8) (E.var 2) E.nil (E.call 38 ((E.var 8).cons (((E.var 1).idx (E.cst (PyData.int 1))).cons E.nil)))).cons E.nil))).seq S.skip))
def nm40 : List Nat := b40.names
theorem F40 : F[40]? = some ⟨2, 9, b40⟩ := by kernel_rfl
theorem C40 (l : Nat) (pws : List (Bool × W)) (h : pws.length = 2) : callAt F glob (l + 1) 40 pws = Sh.finK 2 nm40 pws (exec ⟨callAt F glob l, glob⟩ b40 (Sh.enterE 2 9 pws)) := Sh.call_eq F40 h
def b41 : S := (S.ret ((E.call 36 ((E.var 0).cons (((E.cst (PyData.str { cps := { toList := [108, 105, 110, 101] } })).cons ((E.cst (PyData.str { cps := { toList := [114, 105, 110, 103] } })).cons E.nil)).tup.cons E.nil))).cons ((E.call 36 ((E.var 0).cons (((E.cst (PyData.int 1)).cons ((E.cst (PyData.int 1)).cons ((E.cst (PyData.int 2)).cons ((E.cst (PyData.int 3)).cons E.nil)))).tup.cons E.nil))).cons E.nil)).tup).seq S.skip
def nm41 : List Nat := b41.names
theorem F41 : F[41]? = some ⟨1, 1, b41⟩ := by kernel_rfl
theorem C41 (l : Nat) (pws : List (Bool × W)) (h : pws.length = 1) : callAt F glob (l + 1) 41 pws = Sh.finK 1 nm41 pws (exec ⟨callAt F glob l, glob⟩ b41 (Sh.enterE 1 1 pws)) := Sh.call_eq F41 h
def b42 : S := (S.par ((E.var 3).cons ((E.var 4).cons E.nil)) ((E.lc [6, 7] (E.var 7) ((E.var 2).cons E.nil).rng E.nil (((E.var 7).cons ((E.cst (PyData.int 1)).cons E.nil)).tup.cons (((E.var 7).cons ((E.cst (PyData.int 0)).cons E.nil)).tup.cons E.nil)).lst).sumL.cons ((E.lc [6, 8] (E.var 8) (((E.var 1).idx (E.cst (PyData.int 1))).cons E.nil).rng E.nil E.nil.lst).cons E.nil))).seq ((S.for_ (E.var 5) ((E.bin Operator.Mult (E.cst (PyData.int 2)) (E.var 2)).cons E.nil).rng ((S.expr (E.meth MI.append ((E.var 4).idx (E.call 35 ((E.var 0).cons (((E.var 1).idx (E.cst (PyData.int 1))).cons E.nil)))) ((E.meth MI.pop (E.var 3) ((E.call 35 ((E.var 0).cons ((E.bi BI.len ((E.var 3).cons E.nil)).cons E.nil))).cons E.nil)).cons E.nil))).seq S.skip)).seq ((S.ret ((E.bi BI.tuple ((E.lc [6, 8] (E.var 8) (E.var 4) E.nil (E.bi BI.tuple ((E.var 8).cons E.nil))).cons E.nil)).cons ((E.bi BI.tuple ((E.lc [6, 7] (E.var 7) ((E.var 2).cons E.nil).rng E.nil (E.call 36 ((E.var 0).cons (((E.cst (PyData.int 1)).cons ((E.un UnaryOp.USub (E.cst (PyData.int 1))).cons E.nil)).tup.cons E.nil)))).cons E.nil)).cons E.nil)).tup).seq S.skip))
def nm42 : List Nat := b42.names
theorem F42 : F[42]? = some ⟨3, 9, b42⟩ := by kernel_rfl
theorem C42 (l : Nat) (pws : List (Bool × W)) (h : pws.length = 3) : callAt F glob (l + 1) 42 pws = Sh.finK 3 nm42 pws (exec ⟨callAt F glob l, glob⟩ b42 (Sh.enterE 3 9 pws)) := Sh.call_eq F42 h
def b43 : S := (S.ret ((E.bi BI.tuple ((E.lc [1, 2] (E.var 2) ((E.var 0).idx (E.cst (PyData.int 0))) E.nil (E.var 2).rev).cons E.nil)).cons (((E.var 0).idx (E.cst (PyData.int 1))).cons E.nil)).tup).seq S.skip
def nm43 : List Nat := b43.names
theorem F43 : F[43]? = some ⟨1, 3, b43⟩ := by kernel_rfl
theorem C43 (l : Nat) (pws : List (Bool × W)) (h : pws.length = 1) : callAt F glob (l + 1) 43 pws = Sh.finK 1 nm43 pws (exec ⟨callAt F glob l, glob⟩ b43 (Sh.enterE 1 3 pws)) := Sh.call_eq F43 h
def b44 : S := (S.ret (((E.var 0).idx (E.cst (PyData.int 0))).cons ((E.bi BI.tuple ((E.lc [1, 2] (E.var 2) ((E.var 0).idx (E.cst (PyData.int 1))) E.nil (E.bin Operator.Sub (E.cst (PyData.int 0)) (E.var 2))).cons E.nil)).cons E.nil)).tup).seq S.skip
def nm44 : List Nat := b44.names
theorem F44 : F[44]? = some ⟨1, 3, b44⟩ := by kernel_rfl
theorem C44 (l : Nat) (pws : List (Bool × W)) (h : pws.length = 1) : callAt F glob (l + 1) 44 pws = Sh.finK 1 nm44 pws (exec ⟨callAt F glob l, glob⟩ b44 (Sh.enterE 1 3 pws)) := Sh.call_eq F44 h
def b45 : S := (S.asg (E.var 2) (E.bi BI.tuple ((E.lc [3, 4] (E.var 4) ((E.var 0).idx (E.cst (PyData.int 0))) E.nil (E.bi BI.tuple ((E.lc [3, 5, 6] ((E.var 5).cons ((E.var 6).cons E.nil)).tup (E.var 4) E.nil ((E.var 5).cons (((E.cmp CmpOp.In (E.var 5) (E.var 1)).ife (E.bin Operator.Sub (E.cst (PyData.int 1)) (E.var 6)) (E.var 6)).cons E.nil)).tup).cons E.nil))).cons E.nil))).seq ((S.ret ((E.var 2).cons ((E.bi BI.tuple ((E.lc [3, 5, 7] ((E.var 5).cons ((E.var 7).cons E.nil)).tup ((E.var 0).idx (E.cst (PyData.int 1))).enum E.nil ((E.cmp CmpOp.In (E.var 5) (E.var 1)).ife (E.bin Operator.Sub (E.cst (PyData.int 0)) (E.var 7)) (E.var 7))).cons E.nil)).cons E.nil)).tup).seq S.skip)
def nm45 : List Nat := b45.names
theorem F45 : F[45]? = some ⟨2, 8, b45⟩ := by kernel_rfl
theorem C45 (l : Nat) (pws : List (Bool × W)) (h : pws.length = 2) : callAt F glob (l + 1) 45 pws = Sh.finK 2 nm45 pws (exec ⟨callAt F glob l, glob⟩ b45 (Sh.enterE 2 8 pws)) := Sh.call_eq F45 h
def b46 : S := (S.ret (E.call 45 ((E.var 0).cons ((E.bi BI.tuple (((E.bi BI.len (((E.var 0).idx (E.cst (PyData.int 1))).cons E.nil)).cons E.nil).lrng.cons E.nil)).cons E.nil)))).seq S.skip
def nm46 : List Nat := b46.names
theorem F46 : F[46]? = some ⟨1, 1, b46⟩ := by kernel_rfl
theorem C46 (l : Nat) (pws : List (Bool × W)) (h : pws.length = 1) : callAt F glob (l + 1) 46 pws = Sh.finK 1 nm46 pws (exec ⟨callAt F glob l, glob⟩ b46 (Sh.enterE 1 1 pws)) := Sh.call_eq F46 h
def b47 : S := (S.ret (E.bi BI.tuple ((E.lc [1, 2] (E.var 2) ((E.cst (PyData.str { cps := { toList := [111, 110, 101] } })).cons ((E.cst (PyData.str { cps := { toList := [116, 119, 111] } })).cons ((E.cst (PyData.str { cps := { toList := [116, 104, 114, 101, 101] } })).cons E.nil))).tup E.nil (E.bi BI.len ((E.lc [1, 3] (E.var 3) (E.var 0) (E.cmp CmpOp.Eq ((E.var 3).idx (E.cst (PyData.int 0))) (E.var 2)) (E.var 3)).cons E.nil))).cons E.nil))).seq S.skip
def nm47 : List Nat := b47.names
theorem F47 : F[47]? = some ⟨1, 4, b47⟩ := by kernel_rfl
theorem C47 (l : Nat) (pws : List (Bool × W)) (h : pws.length = 1) : callAt F glob (l + 1) 47 pws = Sh.finK 1 nm47 pws (exec ⟨callAt F glob l, glob⟩ b47 (Sh.enterE 1 4 pws)) := Sh.call_eq F47 h
def b48 : S := (S.for_ (E.var 1) ((E.cst (PyData.int 14)).cons E.nil).rng ((S.asg (E.var 2) (E.call 41 ((E.var 0).cons E.nil))).seq ((S.asg (E.var 3) (E.call 42 ((E.var 0).cons ((E.var 2).cons ((E.call 36 ((E.var 0).cons (((E.cst (PyData.int 0)).cons ((E.cst (PyData.int 1)).cons ((E.cst (PyData.int 2)).cons ((E.cst (PyData.int 3)).cons ((E.cst (PyData.int 5)).cons ((E.cst (PyData.int 6)).cons E.nil)))))).tup.cons E.nil))).cons E.nil))))).seq ((S.asg (E.var 4) ((E.call 43 ((E.var 3).cons E.nil)).cons ((E.call 44 ((E.var 3).cons E.nil)).cons ((E.call 46 ((E.var 3).cons E.nil)).cons E.nil))).tup).seq ((S.asg (E.var 5) ((E.call 23 ((E.var 2).cons ((E.var 3).cons E.nil))).cons ((E.call 24 ((E.var 2).cons ((E.var 3).cons E.nil))).cons ((E.call 25 ((E.var 2).cons ((E.var 3).cons E.nil))).cons E.nil))).tup).seq ((S.ife ((E.call 37 ((E.var 5).cons ((E.var 4).cons E.nil))).not.or (E.call 37 (((E.callk 23 [1, 0] ((E.var 3).cons ((E.var 2).cons E.nil))).cons ((E.callk 24 [1, 0] ((E.var 3).cons ((E.var 2).cons E.nil))).cons ((E.callk 25 [1, 0] ((E.var 3).cons ((E.var 2).cons E.nil))).cons E.nil))).tup.cons ((E.var 4).cons E.nil))).not) ((S.ret (E.cst (PyData.bool false))).seq S.skip) S.skip).seq ((S.ife ((E.call 37 (((E.call 23 ((E.var 2).cons (((E.var 5).idx (E.cst (PyData.int 0))).cons E.nil))).cons ((E.call 24 ((E.var 2).cons (((E.var 5).idx (E.cst (PyData.int 1))).cons E.nil))).cons ((E.call 25 ((E.var 2).cons (((E.var 5).idx (E.cst (PyData.int 2))).cons E.nil))).cons E.nil))).tup.cons ((E.bin Operator.Mult ((E.var 3).cons E.nil).tup (E.cst (PyData.int 3))).cons E.nil))).not.or (E.cmp CmpOp.In (E.cst (PyData.bool false)) (E.lc [14, 15] (E.var 15) (E.var 5) E.nil (E.call 20 ((E.var 2).cons ((E.var 15).cons E.nil)))))) ((S.ret (E.cst (PyData.bool false))).seq S.skip) S.skip).seq ((S.asg (E.var 6) ((E.call 24 ((E.var 2).cons (((E.var 5).idx (E.cst (PyData.int 0))).cons E.nil))).cons ((E.call 25 ((E.var 2).cons (((E.var 5).idx (E.cst (PyData.int 0))).cons E.nil))).cons ((E.call 25 ((E.var 2).cons (((E.var 5).idx (E.cst (PyData.int 1))).cons E.nil))).cons E.nil))).tup).seq ((S.ife (E.call 37 (((E.call 23 ((E.var 2).cons (((E.var 5).idx (E.cst (PyData.int 1))).cons E.nil))).cons ((E.call 23 ((E.var 2).cons (((E.var 5).idx (E.cst (PyData.int 2))).cons E.nil))).cons ((E.call 24 ((E.var 2).cons (((E.var 5).idx (E.cst (PyData.int 2))).cons E.nil))).cons E.nil))).tup.cons ((E.var 6).cons E.nil))).not ((S.ret (E.cst (PyData.bool false))).seq S.skip) S.skip).seq ((S.ife ((E.cmp CmpOp.Lt (E.bi BI.len (((E.var 3).idx (E.cst (PyData.int 1))).cons E.nil)) (E.cst (PyData.int 6))).or (E.cmp CmpOp.Eq ((E.var 2).idx (E.cst (PyData.int 0))) (E.cst (PyData.str { cps := { toList := [108, 105, 110, 101] } })))) ((S.asg (E.var 7) (E.call 21 ((E.var 2).cons ((E.var 3).cons E.nil)))).seq ((S.for_ ((E.var 8).cons ((E.var 9).cons E.nil)).tup (((E.cst (PyData.dict [(PyData.str { cps := { toList := [102, 110] } }, PyData.int 23)])).cons ((E.cst (PyData.dict [(PyData.str { cps := { toList := [102, 110] } }, PyData.int 43)])).cons E.nil)).tup.cons (((E.cst (PyData.dict [(PyData.str { cps := { toList := [102, 110] } }, PyData.int 24)])).cons ((E.cst (PyData.dict [(PyData.str { cps := { toList := [102, 110] } }, PyData.int 44)])).cons E.nil)).tup.cons (((E.cst (PyData.dict [(PyData.str { cps := { toList := [102, 110] } }, PyData.int 25)])).cons ((E.cst (PyData.dict [(PyData.str { cps := { toList := [102, 110] } }, PyData.int 46)])).cons E.nil)).tup.cons E.nil))).tup ((S.asg (E.var 10) (E.callv 8 ((E.var 2).cons ((E.var 7).cons E.nil)))).seq ((S.ife (E.call 37 (((E.call 21 ((E.var 2).cons ((E.var 10).cons E.nil))).cons ((E.call 22 ((E.var 2).cons ((E.var 10).cons ((E.callv 8 ((E.var 2).cons ((E.var 3).cons E.nil))).cons E.nil)))).cons E.nil)).tup.cons (((E.call 40 ((E.var 2).cons ((E.callv 9 ((E.var 3).cons E.nil)).cons E.nil))).cons ((E.cst (PyData.bool true)).cons E.nil)).tup.cons E.nil))).not ((S.ret (E.cst (PyData.bool false))).seq S.skip) S.skip).seq S.skip))).seq ((S.asg (E.var 11) (E.call 47 ((E.call 33 ((E.var 2).cons ((E.var 3).cons E.nil))).cons E.nil))).seq ((S.ife ((E.cmp CmpOp.NotEq (E.lc [14, 15] (E.var 15) (E.var 5) (E.cmp CmpOp.NotEq ((E.call 47 ((E.call 33 ((E.var 2).cons ((E.var 15).cons E.nil))).cons E.nil)).slc E.nil (E.cst (PyData.int 2))) ((E.var 11).slc E.nil (E.cst (PyData.int 2)))) (E.cst (PyData.int 1))) E.nil.lst).or (E.cmp CmpOp.NotEq ((E.call 47 ((E.call 33 ((E.var 2).cons ((E.call 25 ((E.var 2).cons ((E.call 23 ((E.var 2).cons ((E.var 3).cons E.nil))).cons E.nil))).cons E.nil))).cons E.nil)).slc E.nil (E.cst (PyData.int 2))) ((E.var 11).slc E.nil (E.cst (PyData.int 2))))) ((S.ret (E.cst (PyData.bool false))).seq S.skip) S.skip).seq S.skip)))) S.skip).seq S.skip)))))))))).seq ((S.par ((E.var 12).cons ((E.var 13).cons E.nil)) (((E.cst (PyData.str { cps := { toList := [108, 105, 110, 101] } })).cons ((E.cst (PyData.int 1)).cons E.nil)).tup.cons ((((((E.cst (PyData.int 0)).cons ((E.cst (PyData.int 0)).cons E.nil)).tup.cons (((E.cst (PyData.int 1)).cons ((E.cst (PyData.int 1)).cons E.nil)).tup.cons (((E.cst (PyData.int 0)).cons ((E.cst (PyData.int 1)).cons E.nil)).tup.cons (((E.cst (PyData.int 1)).cons ((E.cst (PyData.int 0)).cons E.nil)).tup.cons E.nil)))).tup.cons E.nil).tup.cons (((E.cst (PyData.int 1)).cons ((E.cst (PyData.int 1)).cons E.nil)).tup.cons E.nil)).tup.cons E.nil))).seq ((S.asg (E.var 5) ((E.call 23 ((E.var 12).cons ((E.var 13).cons E.nil))).cons ((E.call 25 ((E.var 12).cons ((E.var 13).cons E.nil))).cons ((E.call 24 ((E.var 12).cons ((E.var 13).cons E.nil))).cons ((E.call 23 (((E.cst (PyData.str { cps := { toList := [108, 105, 110, 101] } })).cons ((E.cst (PyData.int 2)).cons E.nil)).tup.cons ((((((E.cst (PyData.int 0)).cons ((E.cst (PyData.int 1)).cons E.nil)).tup.cons E.nil).tup.cons ((((E.cst (PyData.int 0)).cons ((E.cst (PyData.int 0)).cons E.nil)).tup.cons (((E.cst (PyData.int 1)).cons ((E.cst (PyData.int 1)).cons E.nil)).tup.cons (((E.cst (PyData.int 1)).cons ((E.cst (PyData.int 0)).cons E.nil)).tup.cons E.nil))).tup.cons E.nil)).tup.cons (((E.cst (PyData.int 1)).cons ((E.un UnaryOp.USub (E.cst (PyData.int 1))).cons E.nil)).tup.cons E.nil)).tup.cons E.nil))).cons E.nil)))).tup).seq ((S.asg (E.var 4) ((((((E.cst (PyData.int 1)).cons ((E.cst (PyData.int 0)).cons E.nil)).tup.cons (((E.cst (PyData.int 0)).cons ((E.cst (PyData.int 1)).cons E.nil)).tup.cons (((E.cst (PyData.int 1)).cons ((E.cst (PyData.int 1)).cons E.nil)).tup.cons (((E.cst (PyData.int 0)).cons ((E.cst (PyData.int 0)).cons E.nil)).tup.cons E.nil)))).tup.cons E.nil).tup.cons (((E.cst (PyData.int 1)).cons ((E.cst (PyData.int 1)).cons E.nil)).tup.cons E.nil)).tup.cons ((((((E.cst (PyData.int 0)).cons ((E.cst (PyData.int 1)).cons E.nil)).tup.cons (((E.cst (PyData.int 1)).cons ((E.cst (PyData.int 0)).cons E.nil)).tup.cons (((E.cst (PyData.int 0)).cons ((E.cst (PyData.int 0)).cons E.nil)).tup.cons (((E.cst (PyData.int 1)).cons ((E.cst (PyData.int 1)).cons E.nil)).tup.cons E.nil)))).tup.cons E.nil).tup.cons (((E.un UnaryOp.USub (E.cst (PyData.int 1))).cons ((E.un UnaryOp.USub (E.cst (PyData.int 1))).cons E.nil)).tup.cons E.nil)).tup.cons ((((((E.cst (PyData.int 0)).cons ((E.cst (PyData.int 0)).cons E.nil)).tup.cons (((E.cst (PyData.int 1)).cons ((E.cst (PyData.int 1)).cons E.nil)).tup.cons (((E.cst (PyData.int 0)).cons ((E.cst (PyData.int 1)).cons E.nil)).tup.cons (((E.cst (PyData.int 1)).cons ((E.cst (PyData.int 0)).cons E.nil)).tup.cons E.nil)))).tup.cons E.nil).tup.cons (((E.un UnaryOp.USub (E.cst (PyData.int 1))).cons ((E.un UnaryOp.USub (E.cst (PyData.int 1))).cons E.nil)).tup.cons E.nil)).tup.cons E.nil))).tup).seq ((S.asg (E.var 4) (E.bin Operator.Add (E.var 4) ((((((E.cst (PyData.int 0)).cons ((E.cst (PyData.int 1)).cons E.nil)).tup.cons E.nil).tup.cons ((((E.cst (PyData.int 1)).cons ((E.cst (PyData.int 0)).cons E.nil)).tup.cons (((E.cst (PyData.int 1)).cons ((E.cst (PyData.int 1)).cons E.nil)).tup.cons (((E.cst (PyData.int 0)).cons ((E.cst (PyData.int 0)).cons E.nil)).tup.cons E.nil))).tup.cons E.nil)).tup.cons (((E.cst (PyData.int 1)).cons ((E.un UnaryOp.USub (E.cst (PyData.int 1))).cons E.nil)).tup.cons E.nil)).tup.cons E.nil).tup)).seq ((S.ret (E.call 37 ((E.var 5).cons ((E.var 4).cons E.nil)))).seq S.skip)))))
def nm48 : List Nat := b48.names
theorem F48 : F[48]? = some ⟨1, 16, b48⟩ := by kernel_rfl
theorem C48 (l : Nat) (pws : List (Bool × W)) (h : pws.length = 1) : callAt F glob (l + 1) 48 pws = Sh.finK 1 nm48 pws (exec ⟨callAt F glob l, glob⟩ b48 (Sh.enterE 1 16 pws)) := Sh.call_eq F48 h
def b49 : S := (S.ret (E.cmp CmpOp.NotIn (E.cst (PyData.bool false)) (E.lc [1, 2] (E.var 2) ((E.bi BI.max ((E.cst (PyData.int 2)).cons ((E.bi BI.min ((E.bi BI.len ((E.var 0).cons E.nil)).cons ((E.cst (PyData.int 3)).cons E.nil))).cons E.nil))).cons E.nil).rng E.nil (E.call 48 ((E.call 34 ((E.var 0).cons ((E.var 2).cons E.nil))).cons E.nil))))).seq S.skip
def nm49 : List Nat := b49.names
theorem F49 : F[49]? = some ⟨1, 3, b49⟩ := by kernel_rfl
theorem C49 (l : Nat) (pws : List (Bool × W)) (h : pws.length = 1) : callAt F glob (l + 1) 49 pws = Sh.finK 1 nm49 pws (exec ⟨callAt F glob l, glob⟩ b49 (Sh.enterE 1 3 pws)) := Sh.call_eq F49 h
end Ev
end

section
set_option maxRecDepth 100000
set_option linter.all false
open PySem
namespace Ev
open Sh
/-- _law_fetch -/
theorem c21 (l : Nat) (a b n : Int) (h1 : 0 < n) (h2 : n < 1000000) : ∃ t a' b', callAt F glob (l+1) 35 [(true, .lst [.d (.int a), .d (.int b)]), (false, .d (.int n))] = some (.ok (.d (.int t)), [.lst [.d (.int a'), .d (.int b')], .d (.int n)]) ∧ 0 ≤ t ∧ t < n := by
  rw [C35 _ _ rfl]
  by_cases hb : 0 < b
  · refine ⟨b % n, a, b / n, ?_, Int.emod_nonneg _ (by omega), Int.emod_lt_of_pos _ h1⟩
    simp [b35, enterE, hb, h1, show n < 1073741824 by omega]
    rw [finK_rt (by rfl)]
    rfl
  · refine ⟨(((a * 2862933555777941757 + 3037000493).fmod 4611686018427387733).fdiv 8388608).fmod n, (a * 2862933555777941757 + 3037000493).fmod 4611686018427387733, b, ?_, Int.fmod_nonneg_of_pos _ h1, Int.fmod_lt_of_pos _ h1⟩
    simp [b35, enterE, hb, show ¬ n = 0 by omega]
    rw [finK_rt (by rfl)]
    rfl
end Ev
end

section
set_option Elab.async false
set_option maxRecDepth 100000
set_option linter.all false
open PySem
namespace Ev
open Sh Ac
def encE (e : En) : D := .tuple [.int e.1, .int e.2]
def encS (s : List En) : D := .tuple (s.map encE)
def encSts (s : Sts) : D := .tuple (s.map encS)
def encI (xs : List Int) : D := .tuple (xs.map .int)
def encD (d : Dr) : D := .tuple [encSts d.1, encI d.2]
def encG (ring : Bool) (k : Int) : D := .tuple [.str (if ring = true then { cps := { toList := [114, 105, 110, 103] } } else { cps := { toList := [108, 105, 110, 101] } }), .int k]
theorem bx {a b c d : Nat} (h : a = b) : a = b := h
@[simp] theorem big_eq : big = 1000000 := rfl
@[simp] theorem isTy1 : isTy "int" "int" = true := rfl
@[simp] theorem isTy2 : isTy "int" "bool" = false := rfl
@[simp] theorem isTy3 : isTy "tuple" "tuple" = true := rfl
@[simp] theorem isTy4 : isTy "str" "str" = true := rfl
theorem c0 (l : Nat) (i : Int) : callAt F glob (l+1) 0 [(false, .d (.int i))] = some (.ok (.d (.bool true)), [.d (.int i)]) := by
  rw [C0 _ _ rfl]
  simp [b0, enterE]
  rw [finK_rt (by rfl)]
  rfl
theorem c1 (l : Nat) (i a b : Int) : callAt F glob (l+2) 1 [(false, .d (.int i)), (false, .d (.int a)), (false, .d (.int b))] = some (.ok (.d (.bool (decide (a ≤ i ∧ i ≤ b)))), [.d (.int i), .d (.int a), .d (.int b)]) := by
  rw [C1 _ _ rfl]
  by_cases h : a ≤ i
  · simp [b1, enterE, c0, h]
    rw [finK_rt (by rfl)]
    rfl
  · simp [b1, enterE, c0, h]
    rw [finK_rt (by rfl)]
    rfl
theorem c2 (l : Nat) (i : Int) (h : i = 1 ∨ i = -1) : callAt F glob (l+2) 2 [(false, .d (.int i))] = some (.ok (.d (.bool true)), [.d (.int i)]) := by
  rw [C2 _ _ rfl]
  rcases h with rfl | rfl
  · simp [b2, enterE, c0, inW]
    rw [finK_rt (by rfl)]
    rfl
  · simp [b2, enterE, c0, inW]
    rw [finK_rt (by rfl)]
    rfl
theorem c3 (l : Nat) (x y : D) : callAt F glob (l+1) 3 [(false, .d (.tuple [x, y]))] = some (.ok (.d (.bool true)), [.d (.tuple [x, y])]) := by
  rw [C3 _ _ rfl]
  simp [b3, enterE]
  rw [finK_rt (by rfl)]
  rfl
@[simp] theorem g_LINE : glob { cps := { toList := [76, 73, 78, 69] } } = some (.str { cps := { toList := [108, 105, 110, 101] } }) := by kernel_rfl
@[simp] theorem g_RING : glob { cps := { toList := [82, 73, 78, 71] } } = some (.str { cps := { toList := [114, 105, 110, 103] } }) := by kernel_rfl
@[simp] theorem g_SORTS : glob { cps := { toList := [83, 79, 82, 84, 83] } } = some (.tuple [.str { cps := { toList := [108, 105, 110, 101] } }, .str { cps := { toList := [114, 105, 110, 103] } }]) := by kernel_rfl
@[simp] theorem g_MOST_STRANDS : glob { cps := { toList := [77, 79, 83, 84, 95, 83, 84, 82, 65, 78, 68, 83] } } = some (.int 3) := by kernel_rfl
@[simp] theorem g_MOST_ARROWS : glob { cps := { toList := [77, 79, 83, 84, 95, 65, 82, 82, 79, 87, 83] } } = some (.int 8) := by kernel_rfl
@[simp] theorem g_OVER : glob { cps := { toList := [79, 86, 69, 82] } } = some (.int 1) := by kernel_rfl
@[simp] theorem g_UNDER : glob { cps := { toList := [85, 78, 68, 69, 82] } } = some (.int 0) := by kernel_rfl
@[simp] theorem inSorts (ring : Bool) : inW (.d (.str (if ring = true then { cps := { toList := [114, 105, 110, 103] } } else { cps := { toList := [108, 105, 110, 101] } }))) (.d (.tuple [.str { cps := { toList := [108, 105, 110, 101] } }, .str { cps := { toList := [114, 105, 110, 103] } }])) = some true := by
  cases ring <;> decide +kernel
@[simp] theorem isLine (ring : Bool) : eqW (.d (.str (if ring = true then { cps := { toList := [114, 105, 110, 103] } } else { cps := { toList := [108, 105, 110, 101] } }))) (.d (.str { cps := { toList := [108, 105, 110, 101] } })) = some (!ring) := by
  cases ring <;> decide +kernel
theorem c4 (l : Nat) (ring : Bool) (k : Int) (h : 1 ≤ k ∧ k ≤ 3) : callAt F glob (l+3) 4 [(false, .d (encG ring k))] = some (.ok (.d (.bool true)), [.d (encG ring k)]) := by
  rw [C4 _ _ rfl]
  simp [b4, enterE, encG, c3, c1, h]
  rw [finK_rt (by rfl)]
  rfl
theorem c5 (l : Nat) (e : En) (n : Int) (h : 0 ≤ e.1 ∧ e.1 < n) (h2 : e.2 = 0 ∨ e.2 = 1) : callAt F glob (l+3) 5 [(false, .d (encE e)), (false, .d (.int n))] = some (.ok (.d (.bool true)), [.d (encE e), .d (.int n)]) := by
  rw [C5 _ _ rfl]
  simp [b5, enterE, encE, c3, c1, h, show e.1 ≤ n - 1 by omega, show 0 ≤ e.2 ∧ e.2 ≤ 1 by omega]
  rw [finK_rt (by rfl)]
  rfl
theorem c7 (l : Nat) (d : Dr) : callAt F glob (l+1) 7 [(false, .d (encD d))] = some (.ok (.d (.int d.2.length)), [.d (encD d)]) := by
  rw [C7 _ _ rfl]
  simp [b7, enterE, encD, encI]
  rw [finK_rt (by rfl)]
  rfl
end Ev
end

section
set_option Elab.async false
set_option maxRecDepth 100000
set_option linter.all false
open PySem
namespace Ev
open Sh Ac
theorem rngD_map (n : Nat) : rngD 0 n = (List.range n).map fun (i : Nat) => PyData.int (i : Int) := by
  unfold rngD; simp
theorem cut_fromN {α : Type} (xs : List α) (i : Nat) : cut xs (some (i : Int)) none = xs.drop i := by rw [cut_from _ (by omega)]; simp
theorem cut_toN {α : Type} (xs : List α) (i : Nat) : cut xs none (some (i : Int)) = xs.take i := by rw [cut_to _ (by omega)]; simp
theorem c9 (l : Nat) (st : List En) (h : st.length ≤ 1000) : callAt F glob (l+1) 9 [(false, .d (encS st))] = some (.ok (.lst ((rots st).map fun s => .d (encS s))), [.d (encS st)]) := by
  rw [C9 _ _ rfl]
  have hm : (if (st.length : Int) < 1 then (1 : Int) else st.length) = ((max st.length 1 : Nat) : Int) := by split <;> omega
  simp [b9, enterE, encS]
  rw [ev_lcS, whileLk_no rfl]
  simp [hm]
  simp only [show (max (st.length : Int) 1) = ((max st.length 1 : Nat) : Int) by omega, Int.toNat_natCast, rngD_map]
  rw [if_pos (by omega)]
  simp
  rw [lcL_mapE (g := fun i => W.d (.tuple ((st.map encE).drop i ++ (st.map encE).take i)))]
  · simp
    rw [finK_rt (by rfl)]
    simp [backs, rots, encS]
  · intro i hi
    rw [List.mem_range] at hi
    simp [cut_fromN, cut_toN, show (st.length - i + min i st.length ≤ 1000000) by omega]
  · simp; omega
end Ev
end

section
set_option Elab.async false
set_option maxRecDepth 100000
set_option linter.all false
open PySem
namespace Ev
open Sh Ac
/-- arrows with the numbers in which they are met -/
def kvF : Nat → List Int → List (L2.Key × D)
  | _, [] => []
  | n, a :: as => (.inl a, .int n) :: kvF (n + 1) as
theorem kvF_length : ∀ (n : Nat) (as : List Int), (kvF n as).length = as.length
  | _, [] => rfl
  | n, a :: as => by simp [kvF, kvF_length (n + 1) as]
theorem kvF_keys : ∀ (n : Nat) (as : List Int), (kvF n as).map (fun kv => dKey kv.1) = as.map .int
  | _, [] => rfl
  | n, a :: as => by
    have := kvF_keys (n + 1) as
    rw [kvF, List.map_cons, this]
    rfl
theorem kvF_snoc : ∀ (n : Nat) (as : List Int) (a : Int), kvF n (as ++ [a]) = kvF n as ++ [(.inl a, .int ((n + as.length : Nat) : Int))]
  | n, [], a => by simp [kvF]
  | n, b :: as, a => by simp [kvF, kvF_snoc (n + 1) as a]; omega
theorem kvF_get : ∀ (n : Nat) (as : List Int) (a : Int), getK (kvF n as) (.inl a) = if a ∈ as then some (.int ((n + ix as a : Nat) : Int)) else none
  | n, [], a => by simp [kvF, getK]
  | n, b :: as, a => by
    have ih := kvF_get (n + 1) as a
    unfold getK at ih ⊢
    rw [kvF, List.find?_cons]
    by_cases e : b = a
    · subst e; simp [ix]
    · have e2 : ¬ a = b := fun q => e q.symm
      have e3 : (b == a) = false := by simpa using e
      simp [e, e2, ih, ix, List.idxOf_cons, e3]
      split <;> simp <;> omega
theorem kvF_none {n : Nat} {as : List Int} {a : Int} (h : getK (kvF n as) (.inl a) = none) (v : D) : setK (kvF n as) (.inl a) v = kvF n as ++ [(.inl a, v)] := by
  unfold getK at h
  unfold setK
  rw [if_neg]
  intro q
  rw [List.any_eq_true] at q
  obtain ⟨x, hx, hq⟩ := q
  rw [Option.map_eq_none_iff, List.find?_eq_none] at h
  exact h x hx hq
theorem put1_kv (acc : List Int) (a : Int) : sdK (getK (kvF 0 acc) (.inl a)) (kvF 0 acc) (.inl a) (.int acc.length) = some (W.dct false (kvF 0 (put1 acc a)), W.d (.int (ix (put1 acc a) a))) := by
  by_cases h : a ∈ acc
  · rw [kvF_get, if_pos h]
    unfold put1 sdK
    rw [if_pos h]
    simp
  · have e : getK (kvF 0 acc) (.inl a) = none := by rw [kvF_get, if_neg h]
    rw [e]
    unfold put1 sdK
    simp only
    rw [if_neg h, kvF_none e, kvF_snoc]
    have e2 : ix (acc ++ [a]) a = acc.length := by
      unfold ix
      rw [List.idxOf_append, if_neg h]
      simp
    rw [e2]
    simp
theorem firsts_len : ∀ (as acc : List Int), acc.length ≤ (firsts acc as).length
  | [], acc => Nat.le_refl _
  | a :: as, acc => by
    refine Nat.le_trans ?_ (firsts_len as (put1 acc a))
    unfold put1; split <;> simp
theorem ends_walk (s : List En) : items (encS s) = some (s.map encE) := rfl
theorem arrs_cons (st : List En) (s : Sts) : arrs (st :: s) = st.map (·.1) ++ arrs s := by simp [arrs]
theorem firsts_app (acc a b : List Int) : firsts acc (a ++ b) = firsts (firsts acc a) b := by unfold firsts; rw [List.foldl_append]
theorem c8 (l : Nat) (s : Sts) (sgn : List Int) (h : ∀ a ∈ arrs s, 0 ≤ a ∧ a < sgn.length) (hl : (order s).length ≤ 1000) (hl2 : ∀ st ∈ s, st.length ≤ 1000) (hs : s.length ≤ 1000) : callAt F glob (l+1) 8 [(false, .d (encSts s)), (false, .d (encI sgn))] = some (.ok (.d (encD (inOrder s sgn))), [.d (encSts s), .d (encI sgn)]) := by
  rw [C8 _ _ rfl]
  simp [b8, enterE, show items (encSts s) = some (s.map encS) from rfl]
  refine forL_elim (P := fun o => finK _ _ _ (sqK o _) = _) encS (fun rest env => ∃ acc s3 s4 s5, env = [.ok false (.d (encSts s)), .ok false (.d (encI sgn)), .ok false (.dct false (kvF 0 acc)), s3, s4, s5, .no, .no, .no] ∧ Free s3 ∧ Free s4 ∧ Free s5 ∧ firsts acc (arrs rest) = order s) ?_ ?_ ?_
  · exact ⟨[], .no, .no, .no, rfl, .no, .no, .no, rfl⟩
  · rintro st rest env ⟨acc, s3, s4, s5, rfl, f3, f4, f5, hacc⟩
    rw [arrs_cons, firsts_app] at hacc
    have hz : (firsts acc (st.map (·.1))).length ≤ 1000 := by
      have := firsts_len (arrs rest) (firsts acc (st.map (·.1)))
      rw [hacc] at this
      omega
    simp [setK2_free f3, ends_walk]
    refine forL_ex (f := fun o => ctK (sqK o _)) encE (fun rest' env => ∃ acc' s4 s5, env = [.ok false (.d (encSts s)), .ok false (.d (encI sgn)), .ok false (.dct false (kvF 0 acc')), .ok false (.d (encS st)), s4, s5, .no, .no, .no] ∧ Free s4 ∧ Free s5 ∧ firsts acc' (rest'.map (·.1)) = firsts acc (st.map (·.1))) ?_ ?_ ?_
    · exact ⟨acc, s4, s5, rfl, f4, f5, rfl⟩
    · rintro e rest' env ⟨acc', s4, s5, rfl, f4, f5, hacc'⟩
      have hb : acc'.length ≤ 1000 := by
        have := firsts_len ((e :: rest').map (·.1)) acc'
        rw [hacc'] at this
        omega
      refine ⟨_, ?_, put1 acc' e.1, .ok false (.d (.int e.1)), .ok false (.d (.int e.2)), rfl, .ok _, .ok _, by rw [← hacc']; rfl⟩
      simp [encE, setK2_free f4, setK2_free f5, kvF_length, show acc'.length < 1000000 by omega, put1_kv]
    · rintro env ⟨acc', s4, s5, rfl, f4, f5, hacc'⟩
      exact ⟨_, by simp; rfl, acc', _, s4, s5, rfl, .ok _, f4, f5, by rw [← hacc, ← hacc']; rfl⟩
  · rintro env ⟨acc, s3, s4, s5, rfl, f3, f4, f5, hacc⟩
    have hacc : acc = order s := hacc
    subst hacc
    simp
    rw [ev_lcS, whileLk_no rfl]
    simp [show items (encSts s) = some (s.map encS) from rfl]
    refine lcL_mapR (P := fun o => finK _ _ _ (sqK (ofK (unlkE _ (lcE o)) _) _) = _) (fun env => ∃ s4, Free s4 ∧ env = [.ok false (.d (encSts s)), .ok false (.d (encI sgn)), .ok false (.dct false (kvF 0 (order s))), .no, s4, s5, .no, .no, .no]) encS (fun st => W.d (.tuple (st.map fun e => .tuple [.int (ix (order s) e.1), .int e.2]))) s (by simp; omega) ⟨s4, f4, rfl⟩ ?_ ?_
    · rintro st hst env ⟨s4, f4, rfl⟩
      refine ⟨_, ?_, .no, .no, rfl⟩
      simp
      rw [ev_lcS, whileLk_no rfl]
      simp [ends_walk]
      rw [lcL_mapE (g := fun e : En => W.d (.tuple [.int (ix (order s) e.1), .int e.2]))]
      · simp
      · intro e he
        have hm : e.1 ∈ order s := mem_order.mpr (by unfold arrs; exact List.mem_map_of_mem (List.mem_flatten.mpr ⟨st, hst, he⟩))
        simp [encE, kvF_get, hm]
      · have := hl2 st hst
        simp; omega
    · rintro env ⟨s4, f4, rfl⟩
      simp
      rw [ev_lcS, whileLk_some rfl]
      simp [kvF_keys]
      rw [lcL_mapE (g := fun a : Int => W.d (.int (sg sgn a)))]
      · simp
        rw [finK_rt (by rfl)]
        simp [backs, encD, inOrder, encSts, encI, ren, encS, encE, Function.comp_def]
      · intro a ha
        obtain ⟨h0, h1⟩ := h a (mem_order.mp ha)
        simp [encI, atI_ok h0 (show a < ((sgn.map PyData.int).length : Nat) by simpa using h1), sg, List.getElem?_eq_getElem (show a.toNat < sgn.length by omega)]
      · simp; omega
end Ev
end

section
set_option Elab.async false
set_option maxRecDepth 100000
set_option linter.all false
open PySem
namespace Ev
open Sh Ac
def begStep (found : List Sts) (st : List En) : List Sts := found.flatMap fun ahead => (rots st).map fun t => ahead ++ [t]
theorem begs_eq (s : Sts) : begs s = s.foldl begStep [[]] := rfl
theorem rots_pos {α : Type} (x : List α) : 1 ≤ (rots x).length := by unfold rots; simp; omega
theorem begStep_len (found : List Sts) (st : List En) : found.length ≤ (begStep found st).length := by
  unfold begStep
  induction found with
  | nil => simp
  | cons a l ih =>
    rw [List.flatMap_cons, List.length_append, List.length_map, List.length_cons]
    have := rots_pos st
    omega
theorem begFold_len : ∀ (s : Sts) (found : List Sts), found.length ≤ (s.foldl begStep found).length
  | [], found => Nat.le_refl _
  | st :: s, found => Nat.le_trans (begStep_len found st) (begFold_len s (begStep found st))
theorem c10 (l : Nat) (s : Sts) (h : ∀ st ∈ s, st.length ≤ 1000) (hz : s.length ≤ 1000) (hb : (begs s).length ≤ 1000000) : callAt F glob (l+2) 10 [(false, .d (encSts s))] = some (.ok (.lst ((begs s).map fun t => .d (encSts t))), [.d (encSts s)]) := by
  rw [C10 _ _ rfl]
  simp [b10, enterE, show items (encSts s) = some (s.map encS) from rfl]
  refine forL_elim (P := fun o => finK _ _ _ (sqK o _) = _) encS (fun rest env => ∃ fnd s2, env = [.ok false (.d (encSts s)), .ok false (.lst (fnd.map fun t => .d (encSts t))), s2, .no, .no, .no] ∧ Free s2 ∧ rest.foldl begStep fnd = begs s ∧ ∃ done, s = done ++ rest ∧ ∀ a ∈ fnd, a.length = done.length) ?_ ?_ ?_
  · exact ⟨[[]], .no, rfl, .no, rfl, [], rfl, by simp⟩
  · rintro st rest env ⟨fnd, s2, rfl, f2, hf, done, hd, hlen⟩
    have hl : (begStep fnd st).length ≤ 1000000 := by
      have := begFold_len rest (begStep fnd st)
      rw [List.foldl_cons] at hf
      rw [hf] at this
      omega
    have hst : st.length ≤ 1000 := h st (by rw [hd]; simp)
    refine ⟨_, ?_, begStep fnd st, .ok false (.d (encS st)), rfl, .ok _, hf, done ++ [st], by rw [hd]; simp, fun a ha => ?_⟩
    rotate_left
    · unfold begStep at ha
      obtain ⟨b, hb1, hb2⟩ := List.mem_flatMap.mp ha
      obtain ⟨t, _, rfl⟩ := List.mem_map.mp hb2
      simp [hlen b hb1]
    simp [setK2_free f2]
    rw [ev_lc2S, whileLk_no rfl]
    simp
    rw [lcO_mapE (enc := encSts) (g := fun ahead => (rots st).map fun t => W.d (encSts (ahead ++ [t])))]
    · simp [begStep, List.map_flatMap, Function.comp_def]
    · intro ahead hah acc hacc
      have ha : ahead.length ≤ 1000 := by
        rw [hlen ahead hah]
        rw [hd] at hz
        simp at hz
        omega
      simp [c9 l st hst]
      rw [lcL_mapA (g := fun t => W.d (encSts (ahead ++ [t])))]
      · simp
      · intro t ht
        simp [show seqOrTup (.d (encSts ahead)) = some (ahead.map encS) from rfl]
        simp [show ahead.length ≤ 999999 by omega, encSts]
      · simpa using hacc
    · have : (List.flatMap (fun ahead => (rots st).map fun t => W.d (encSts (ahead ++ [t]))) fnd).length = (begStep fnd st).length := by
        unfold begStep
        rw [List.length_flatMap, List.length_flatMap]
        simp
      rw [this]; simpa using hl
  · rintro env ⟨fnd, s2, rfl, f2, hf, done, hd, hlen⟩
    have hf : fnd = begs s := hf
    subst hf
    simp
    rw [finK_rt (by rfl)]
    rfl
end Ev
end

section
set_option Elab.async false
set_option maxRecDepth 100000
set_option linter.all false
open PySem
namespace Ev
open Sh Ac
open PySem.W (dataLt alike alikeAll)
/-! ### data of drawings -/
theorem encE_inj {a b : En} (h : encE a = encE b) : a = b := by
  unfold encE at h
  simp at h
  exact Prod.ext h.1 h.2
theorem encS_inj {a b : List En} (h : encS a = encS b) : a = b := by
  unfold encS at h
  simp at h
  exact (List.map_inj_right fun x y => encE_inj).mp h
theorem encSts_inj {a b : Sts} (h : encSts a = encSts b) : a = b := by
  unfold encSts at h
  simp at h
  exact (List.map_inj_right fun x y => encS_inj).mp h
theorem encI_inj {a b : List Int} (h : encI a = encI b) : a = b := by
  unfold encI at h
  simp at h
  exact (List.map_inj_right fun x y q => by simpa using q).mp h
theorem encD_inj {a b : Dr} (h : encD a = encD b) : a = b := by
  unfold encD at h
  simp at h
  exact Prod.ext (encSts_inj h.1) (encI_inj h.2)
theorem cln_ints (n : Nat) (xs : List Int) : cln (n + 1) (encI xs) = true := by
  show (xs.map PyData.int).all (cln n) = true
  rw [List.all_map, List.all_eq_true]
  intro x _
  cases n <;> rfl
theorem cln_encE (n : Nat) (e : En) : cln (n + 1) (encE e) = true := by
  show ([PyData.int e.1, PyData.int e.2]).all (cln n) = true
  cases n <;> rfl
theorem cln_encS (n : Nat) (s : List En) : cln (n + 2) (encS s) = true := by
  show (s.map encE).all (cln (n + 1)) = true
  rw [List.all_map, List.all_eq_true]
  exact fun e _ => cln_encE n e
theorem cln_encSts (n : Nat) (s : Sts) : cln (n + 3) (encSts s) = true := by
  show (s.map encS).all (cln (n + 2)) = true
  rw [List.all_map, List.all_eq_true]
  exact fun e _ => cln_encS n e
theorem cln_encD (n : Nat) (d : Dr) : cln (n + 4) (encD d) = true := by
  show ([encSts d.1, encI d.2]).all (cln (n + 3)) = true
  rw [List.all_cons, cln_encSts, List.all_cons, cln_ints]
  rfl
theorem al_int (a b : Int) : alike (.int a) (.int b) = true := by simp [alike]
theorem al_encE (a b : En) : alike (encE a) (encE b) = true := by simp [encE, alike, alikeAll]
theorem al_encD (a b : Dr) : alike (encD a) (encD b) = true := by
  have h1 : alike (encSts a.1) (encSts b.1) = true := by
    unfold encSts
    rw [alike]
    exact alikeAll_map (fun x y => by unfold encS; rw [alike]; exact alikeAll_map al_encE x y) _ _
  have h2 : alike (encI a.2) (encI b.2) = true := by
    unfold encI
    rw [alike]
    exact alikeAll_map al_int _ _
  unfold encD
  rw [alike, alikeAll, alikeAll, h1, h2]
  simp [alikeAll]
theorem eq_encD (a b : Dr) : eqW (.d (encD a)) (.d (encD b)) = some (decide (a = b)) := by
  by_cases h : a = b
  · subst h; rw [eqW_self (cln_encD 0 a) (by omega)]; simp
  · rw [eqW_ne (cln_encD 0 a) (cln_encD 0 b) (by omega) (by omega) fun e => h (encD_inj e)]; simp [h]
/-! ### the plain one -/
/-- v is the least of d's -/
def Least (ring : Bool) (d v : Dr) : Prop := v ∈ cands ring d ∧ ∀ u ∈ cands ring d, dataLt (encD u) (encD v) = false
theorem Least.uniq {ring : Bool} {d d' v v' : Dr} (h : Least ring d v) (h' : Least ring d' v') (s : Same ring d d') : v = v' :=
  encD_inj (lt_tot (al_encD v v') (cln_encD 0 v) (cln_encD 0 v') (h'.2 v ((s.cands v).mpr h.1)) (h.2 v' ((s.cands v').mp h'.1)))
theorem same_refl (ring : Bool) (d : Dr) : Same ring d d := by
  refine ⟨id, d.1, ?_, ?_, fun a _ b _ e => e, fun a _ => rfl⟩
  · split
    · exact .refl _
    · rfl
  · show d.1 = ren id d.1
    unfold ren; simp
theorem begFold_le : ∀ (s : Sts) (found : List Sts), (∀ st ∈ s, st.length ≤ 16) → (s.foldl begStep found).length ≤ found.length * 16 ^ s.length
  | [], found, _ => by simp
  | st :: s, found, h => by
    have ih := begFold_le s (begStep found st) fun x hx => h x (by simp [hx])
    have h1 : (begStep found st).length ≤ found.length * 16 := by
      unfold begStep
      clear ih
      induction found with
      | nil => simp
      | cons a l ih =>
        rw [List.flatMap_cons, List.length_append, List.length_map, List.length_cons]
        have : (rots st).length ≤ 16 := by unfold rots; have := h st (by simp); simp; omega
        omega
    rw [List.foldl_cons, List.length_cons, Nat.pow_succ]
    calc _ ≤ (begStep found st).length * 16 ^ s.length := ih
      _ ≤ (found.length * 16) * 16 ^ s.length := Nat.mul_le_mul_right _ h1
      _ = found.length * (16 ^ s.length * 16) := by rw [Nat.mul_assoc, Nat.mul_comm 16]
structure Pre (s : Sts) (sgn : List Int) : Prop where
  arr : ∀ a ∈ arrs s, 0 ≤ a ∧ a < sgn.length
  ord : (order s).length ≤ 8
  len : ∀ st ∈ s, st.length ≤ 16
  num : s.length ≤ 3
theorem valid_pre {k : Nat} {d : Dr} (h : Valid k d) (hk : k ≤ 3) {t : Sts} (ht : Rots d.1 t) : Pre t d.2 := by
  have hm := h.most
  refine ⟨fun a ha => h.arr.mp (ht.mem_arrs.mpr ha), ?_, fun st hst => ?_, by rw [← ht.length, h.len]; exact hk⟩
  · have hp := perm_range (order_nodup t) (n := d.2.length) fun a => by rw [mem_order, ← ht.mem_arrs, h.arr]
    rw [hp.length_eq]; simpa using hm
  · have h1 : t.flatten.length = 2 * d.2.length := by rw [← ht.flat.length_eq, h.perm.length_eq, ends_length]
    have h2 : st.length ≤ t.flatten.length := (List.sublist_flatten_of_mem hst).length_le
    omega
theorem Pre.begs {s : Sts} {sgn : List Int} (h : Pre s sgn) : (Ac.begs s).length ≤ 4096 := by
  have h1 := begFold_le s [[]] h.len
  rw [begs_eq]
  have h2 : (16 : Nat) ^ s.length ≤ 16 ^ 3 := Nat.pow_le_pow_right (by omega) h.num
  simp at h1
  omega
theorem c8' (l : Nat) {s : Sts} {sgn : List Int} (h : Pre s sgn) : callAt F glob (l+1) 8 [(false, .d (encSts s)), (false, .d (encI sgn))] = some (.ok (.d (encD (inOrder s sgn))), [.d (encSts s), .d (encI sgn)]) :=
  c8 l s sgn h.arr (by have := h.ord; omega) (fun st hst => by have := h.len st hst; omega) (by have := h.num; omega)
theorem c10' (l : Nat) {s : Sts} {sgn : List Int} (h : Pre s sgn) : callAt F glob (l+2) 10 [(false, .d (encSts s))] = some (.ok (.lst ((Ac.begs s).map fun t => .d (encSts t))), [.d (encSts s)]) :=
  c10 l s (fun st hst => by have := h.len st hst; omega) (by have := h.num; omega) (by have := h.begs; omega)
@[simp] theorem eqLL : eqW (.d (.str { cps := { toList := [108, 105, 110, 101] } })) (.d (.str { cps := { toList := [108, 105, 110, 101] } })) = some true := by decide +kernel
@[simp] theorem eqRL : eqW (.d (.str { cps := { toList := [114, 105, 110, 103] } })) (.d (.str { cps := { toList := [108, 105, 110, 101] } })) = some false := by decide +kernel
@[simp] theorem eqRR : eqW (.d (.str { cps := { toList := [114, 105, 110, 103] } })) (.d (.str { cps := { toList := [114, 105, 110, 103] } })) = some true := by decide +kernel
@[simp] theorem eqLR : eqW (.d (.str { cps := { toList := [108, 105, 110, 101] } })) (.d (.str { cps := { toList := [114, 105, 110, 103] } })) = some false := by decide +kernel
theorem c11 (l : Nat) (ring : Bool) (kk : Int) {k : Nat} {d : Dr} (h : Valid k d) (hk : k ≤ 3) : ∃ v, Least ring d v ∧ callAt F glob (l+3) 11 [(false, .d (encG ring kk)), (false, .d (encD d))] = some (.ok (.d (encD v)), [.d (encG ring kk), .d (encD d)]) := by
  have p := valid_pre h hk (.refl d.1)
  rw [C11 _ _ rfl]
  cases ring with
  | false =>
    refine ⟨inOrder d.1 d.2, ⟨by simp [cands], fun u hu => ?_⟩, ?_⟩
    · simp [cands] at hu
      subst hu
      exact lt_irr _
    · have e := c8' (l + 1) p
      simp [b11, enterE, encD, encG] at e ⊢
      simp [e]
      rw [finK_rt (by rfl)]
      rfl
  | true =>
    obtain ⟨v, hv, hl, e⟩ := bi_minL (f := encD) (n := 4) (by omega) al_encD (cln_encD 0) (fun a q => by cases q) (xs := cands true d) (by
      intro q
      have : inOrder d.1 d.2 ∈ cands true d := by simp only [cands, if_true]; exact List.mem_map_of_mem (mem_begs.mpr (.refl _))
      rw [q] at this
      cases this)
    refine ⟨v, ⟨hv, hl⟩, ?_⟩
    have e2 := c10' l p
    simp only [cands, if_true, List.map_map, Function.comp_def] at e
    simp [b11, enterE, encD, encG]
    rw [ev_lcS, whileLk_no rfl]
    simp [e2]
    rw [lcL_mapE (enc := encSts) (g := fun t => W.d (encD (inOrder t d.2)))]
    · simp [e]
      rw [finK_rt (by rfl)]
      rfl
    · intro t ht
      have e3 := c8' (l + 1) (valid_pre h hk (mem_begs.mp ht))
      simp [e3]
    · have := p.begs
      simp; omega
end Ev
end

section
set_option Elab.async false
set_option maxRecDepth 100000
set_option linter.all false
open PySem
namespace Ev
open Sh Ac
def keyE (e : En) : NestedKey := .tup [.num e.1, .num e.2]
theorem tupK_encE (e : En) : tupK (encE e) = some (keyE e) := by
  unfold tupK encE keyE
  simp [isTupD, keyN, keyNs, NestedKey.depth, NestedKey.depthAll]
theorem keyE_inj {a b : En} (h : keyE a = keyE b) : a = b := by
  unfold keyE at h
  simp at h
  exact Prod.ext h.1 h.2
theorem all_true {κ : Type} (xs : List κ) : (xs.map fun _ => true).all id = true := by simp
theorem c6 (l : Nat) (ring : Bool) {k : Nat} {d : Dr} (h : Valid k d) (hk : k ≤ 3) : callAt F glob (l+4) 6 [(false, .d (encG ring k)), (false, .d (encD d))] = some (.ok (.d (.bool true)), [.d (encG ring k), .d (encD d)]) := by
  have hl := h.len
  have hm := h.most
  have hp := h.perm
  have hfl : d.1.flatten.length = 2 * d.2.length := by rw [hp.length_eq, ends_length]
  have hff : (List.flatMap (fun st : List En => st.map fun e => W.d (encE e)) d.1) = d.1.flatten.map fun e => W.d (encE e) := by rw [List.map_flatten, List.flatMap_def]
  generalize d.1.flatten = fl at hp hfl hff
  rw [C6 _ _ rfl]
  simp [b6, enterE, encD, encG, c3]
  simp only [show encSts d.1 = PyData.tuple (d.1.map encS) from rfl, show encI d.2 = PyData.tuple (d.2.map PyData.int) from rfl]
  simp [hl, show ¬ (8 : Int) < d.2.length by omega]
  rw [ev_lcS, whileLk_no rfl]
  simp
  rw [lcL_mapE (g := fun _ => W.d (.bool true))]
  · simp
    rw [ev_lcS, whileLk_no rfl]
    simp
    rw [lcL_mapE (g := fun _ => W.d (.bool true))]
    · simp
      rw [ev_lc2S, whileLk_no rfl]
      simp
      rw [lcO_mapE (g := fun st => st.map fun e => W.d (encE e))]
      · rw [hff]
        simp [hfl]
        rw [ev_lcS, whileLk_no rfl]
        simp
        rw [lcL_mapE (g := fun _ => W.d (.bool true))]
        · simp
          rw [ev_dcS, whileLk_no rfl]
          simp
          rw [dcL_all (kd := encE) (nk := keyE) (v := fun _ => .bool true) (hk := tupK_encE)]
          · simp
            rw [finK_rt (by rfl)]
            simp [backs]
          · intro e he
            simp
          · exact (hp.map keyE).nodup_iff.mpr (List.pairwise_map.mpr ((ends_nodup _).imp fun h q => h (keyE_inj q)))
          · simp; omega
        · intro e he
          have hm2 := mem_ends.mp (hp.mem_iff.mp he)
          have e5 := c5 l e d.2.length ⟨hm2.1, hm2.2.1⟩ hm2.2.2
          simp [e5]
        · simp; omega
      · intro st hst acc hacc
        simp [ends_walk]
        rw [lcL_mapA (g := fun e => W.d (encE e))]
        · simp
        · intro e he
          simp
        · simpa using hacc
      · rw [hff]
        simp; omega
    · intro st hst
      simp [encS]
    · simp; omega
  · intro x hx
    have e2 := c2 (l + 1) x (h.sgn x hx)
    simp [e2]
  · simp; omega
end Ev
end

section
set_option Elab.async false
set_option maxRecDepth 100000
set_option linter.all false
open PySem
namespace Ev
open Sh Ac
/-- a drawing of a ground -/
structure Ok (ring : Bool) (k : Nat) (d : Dr) : Prop where
  v : Valid k d
  lo : 1 ≤ k
  hi : k ≤ 3
variable {ring : Bool} {k : Nat} {d d2 : Dr}
theorem c13 (l : Nat) (ring : Bool) {k : Nat} (h1 : 1 ≤ k) (h2 : k ≤ 3) : callAt F glob (l+4) 17 [(false, .d (encG ring k))] = some (.ok (.d .none), [.d (encG ring k)]) := by
  rw [C17 _ _ rfl]
  simp [b17, enterE, c4 l ring k (by omega)]
  rw [finK_nx (by rfl)]
  rfl
theorem c15 (l : Nat) (h : Ok ring k d) : callAt F glob (l+5) 19 [(false, .d (encG ring k)), (false, .d (encD d))] = some (.ok (.d .none), [.d (encG ring k), .d (encD d)]) := by
  rw [C19 _ _ rfl]
  simp [b19, enterE, c6 l ring h.v h.hi]
  rw [finK_nx (by rfl)]
  rfl
theorem c14 (l : Nat) (h : Ok ring k d) : callAt F glob (l+6) 18 [(false, .d (encG ring k)), (false, .d (encD d))] = some (.ok (.d .none), [.d (encG ring k), .d (encD d)]) := by
  rw [C18 _ _ rfl]
  simp [b18, enterE, c13 (l+1) ring h.lo h.hi, c15 l h]
  rw [finK_nx (by rfl)]
  rfl
theorem c16 (l : Nat) (h : Ok ring k d) : callAt F glob (l+5) 20 [(false, .d (encG ring k)), (false, .d (encD d))] = some (.ok (.d (.bool true)), [.d (encG ring k), .d (encD d)]) := by
  rw [C20 _ _ rfl]
  simp [b20, enterE, c13 l ring h.lo h.hi, c6 l ring h.v h.hi]
  rw [finK_rt (by rfl)]
  rfl
theorem c17 (l : Nat) (h : Ok ring k d) : ∃ v, Least ring d v ∧ callAt F glob (l+7) 21 [(false, .d (encG ring k)), (false, .d (encD d))] = some (.ok (.d (encD v)), [.d (encG ring k), .d (encD d)]) := by
  obtain ⟨v, hl, e⟩ := c11 (l + 3) ring k h.v h.hi
  refine ⟨v, hl, ?_⟩
  rw [C21 _ _ rfl]
  simp [b21, enterE, c14 l h, e]
  rw [finK_rt (by rfl)]
  rfl
theorem c18 (l : Nat) (h : Ok ring k d) (h2 : Ok ring k d2) (s : Same ring d d2) : callAt F glob (l+7) 22 [(false, .d (encG ring k)), (false, .d (encD d)), (false, .d (encD d2))] = some (.ok (.d (.bool true)), [.d (encG ring k), .d (encD d), .d (encD d2)]) := by
  obtain ⟨v, hl, e⟩ := c11 (l + 3) ring k h.v h.hi
  obtain ⟨v2, hl2, e2⟩ := c11 (l + 3) ring k h2.v h2.hi
  have hv := hl.uniq hl2 s
  subst hv
  rw [C22 _ _ rfl]
  simp [b22, enterE, c14 l h, c15 (l + 1) h2, e, e2, eq_encD]
  rw [finK_rt (by rfl)]
  rfl
end Ev
end

section
set_option Elab.async false
set_option maxRecDepth 100000
set_option linter.all false
open PySem
namespace Ev
open Sh Ac
abbrev sat (a b : Int) : W := .lst [.d (.int a), .d (.int b)]
@[simp] theorem binI_pow (i j : Int) (h : 0 ≤ j ∧ j ≤ 1000000 ∧ i.natAbs < 2 ^ 64) : binI .Pow i j = some (i ^ j.toNat) := by
  show (if decide (0 ≤ j ∧ j ≤ 1000000 ∧ i.natAbs < 2 ^ 64) = true then some (i ^ j.toNat) else none) = _
  rw [if_pos (decide_eq_true h)]
theorem mul_lt (c : Int) (x : Int) : binI .Mult (c.fmod 1000000087) x = some (c.fmod 1000000087 * x) := by
  have h1 := Int.fmod_nonneg_of_pos c (show (0:Int) < 1000000087 by omega)
  have h2 := Int.fmod_lt_of_pos c (show (0:Int) < 1000000087 by omega)
  exact binI_mul _ _ (.inl ⟨by omega, by omega⟩)
theorem cut_to36 (xs : List D) : cut xs none (some 36) = xs.take 36 := cut_to xs (by omega)
theorem enumL_map {κ : Type} (enc : κ → D) (xs : List κ) : enumL (xs.map enc) = ((List.range xs.length).zip xs).map fun q => .tuple [.int (q.1 : Nat), enc q.2] := by
  unfold enumL
  rw [List.length_map, List.zip_map_right, List.map_map]
  rfl
theorem c20 (l : Nat) (ns : List Int) (lap : Int) (h0 : 0 ≤ lap) (hn : ns.length ≤ 1000) : Gives (callAt F glob (l+1) 34 [(true, .scr (ns.map .int)), (false, .d (.int lap))]) fun w ws => ∃ a b, w = sat a b ∧ ws = [.scr (ns.map .int), .d (.int lap)] := by
  rw [C34 _ _ rfl]
  obtain ⟨own, hown⟩ : ∃ own, ∀ T, exec T (S.asg (E.var 2) ((E.cmp CmpOp.Lt (E.var 1) (E.bi BI.len ((E.var 0).cons E.nil))).ife (E.bi BI.int (((E.var 0).idx (E.var 1)).cons E.nil)) (E.bin Operator.Add (E.cst (PyData.int 773)) (E.bin Operator.Mult (E.cst (PyData.int 37)) (E.var 1))))) [.ok true (.scr (ns.map .int)), .ok false (.d (.int lap)), .no, .no, .no, .no] = some (.nx, [.ok true (.scr (ns.map .int)), .ok false (.d (.int lap)), .ok false (.d (.int own)), .no, .no, .no]) := by
    by_cases h : lap < ns.length
    · refine ⟨ns[lap.toNat]'(by omega), fun T => ?_⟩
      simp [h, atI_ok h0 (show lap < ((ns.map PyData.int).length : Nat) by simpa using h), List.getElem?_eq_getElem (show lap.toNat < ns.length by omega)]
    · exact ⟨773 + 37 * lap, fun T => by simp [h]⟩
  simp [b34, enterE, hown]
  simp only [cut_to36]
  rw [← List.map_take, enumL_map]
  refine forL_elim (P := fun o => Gives (finK _ _ _ (sqK o _)) _) (fun q : Nat × Int => PyData.tuple [.int (q.1 : Nat), .int q.2]) (fun _ env => ∃ f s4 s5, env = [.ok true (.scr (ns.map .int)), .ok false (.d (.int lap)), .ok false (.d (.int own)), .ok false (.d (.int f)), s4, s5] ∧ Free s4 ∧ Free s5) ?_ ?_ ?_
  · exact ⟨_, _, _, rfl, .no, .no⟩
  · rintro q _ env ⟨f, s4, s5, rfl, f4, f5⟩
    show Goes _ _
    simp [setK2_free f4, setK2_free f5, mul_lt]
    exact goes_nx ⟨_, _, _, rfl, .ok _, .ok _⟩
  · rintro env ⟨f, s4, s5, rfl, f4, f5⟩
    by_cases h1 : own < 0
    · simp [h1]
      exact gives_rt (by rfl) ⟨⟨_, _, rfl⟩, rfl⟩
    · by_cases h2 : (10 : Int) ^ 18 ≤ own
      · simp at h2
        simp [h1, h2]
        exact gives_rt (by rfl) ⟨⟨_, _, rfl⟩, rfl⟩
      · simp at h2
        simp [h1, show ¬ (1000000000000000000 : Int) ≤ own by omega]
        exact gives_rt (by rfl) ⟨⟨_, _, rfl⟩, rfl⟩
theorem c22T (l : Nat) (a b : Int) (xs : List D) (h : xs ≠ []) (hn : xs.length < 100000) : ∃ x ∈ xs, ∃ a' b', callAt F glob (l+2) 36 [(true, sat a b), (false, .d (.tuple xs))] = some (.ok (.d x), [sat a' b', .d (.tuple xs)]) := by
  have hp : 0 < xs.length := List.length_pos_iff.mpr h
  obtain ⟨t, a', b', e, h1, h2⟩ := c21 l a b xs.length (by omega) (by omega)
  have hl : t.toNat < xs.length := by omega
  refine ⟨xs[t.toNat], List.getElem_mem hl, a', b', ?_⟩
  rw [C36 _ _ rfl]
  simp [b36, enterE, e, atI_ok h1 h2, List.getElem?_eq_getElem hl]
  rw [finK_rt (by rfl)]
  rfl
theorem c22L (l : Nat) (a b : Int) (xs : List D) (h : xs ≠ []) (hn : xs.length < 100000) : ∃ x ∈ xs, ∃ a' b', callAt F glob (l+2) 36 [(true, sat a b), (false, .lst (xs.map .d))] = some (.ok (.d x), [sat a' b', .lst (xs.map .d)]) := by
  have hp : 0 < xs.length := List.length_pos_iff.mpr h
  obtain ⟨t, a', b', e, h1, h2⟩ := c21 l a b xs.length (by omega) (by omega)
  have hl : t.toNat < xs.length := by omega
  refine ⟨xs[t.toNat], List.getElem_mem hl, a', b', ?_⟩
  rw [C36 _ _ rfl]
  simp [b36, enterE, e, ixN_ok h1 h2, List.getElem?_eq_getElem hl]
  rw [finK_rt (by rfl)]
  rfl
end Ev
end

section
set_option Elab.async false
set_option maxRecDepth 100000
set_option linter.all false
open PySem
namespace Ev
open Sh Ac
/-- data that _law_match looks at -/
def md : Nat → D → Bool
  | _, .none => true
  | _, .bool _ => true
  | _, .int _ => true
  | _, .str x => PyData.canLay0 (.str x)
  | n + 1, .tuple xs => decide (xs.length ≤ 1000) && xs.all (md n)
  | _, _ => false
@[simp] theorem isTyBT : isTy "bool" "tuple" = false := rfl
@[simp] theorem isTyBB : isTy "bool" "bool" = true := rfl
@[simp] theorem isTyBI : isTy "bool" "int" = true := rfl
@[simp] theorem isTyIT : isTy "int" "tuple" = false := rfl
@[simp] theorem isTyIB : isTy "int" "bool" = false := rfl
@[simp] theorem isTyST : isTy "str" "tuple" = false := rfl
@[simp] theorem isTySB : isTy "str" "bool" = false := rfl
@[simp] theorem isTySI : isTy "str" "int" = false := rfl
@[simp] theorem isTyNT : isTy "NoneType" "tuple" = false := rfl
theorem zipL_self {κ : Type} (enc : κ → D) (xs : List κ) : zipL (xs.map enc) (xs.map enc) = xs.map fun x => PyData.tuple [enc x, enc x] := by
  unfold zipL
  induction xs with
  | nil => rfl
  | cons x xs ih => simp at ih ⊢; exact ih
theorem md_flat {n : Nat} {x : D} (h : md n x = true) (ht : ∀ xs, x ≠ .tuple xs) : md 0 x = true := by
  cases n with
  | zero => exact h
  | succ n =>
    cases x with
    | tuple xs => exact (ht xs rfl).elim
    | list xs => simp [md] at h
    | dict xs => simp [md] at h
    | _ => exact h
theorem c23_flat (l : Nat) (x : D) (h : md 0 x = true) : callAt F glob (l+1) 37 [(false, .d x), (false, .d x)] = some (.ok (.d (.bool true)), [.d x, .d x]) := by
  rw [C37 _ _ rfl]
  cases x with
  | none => simp [b37, enterE]; rw [finK_rt (by rfl)]; rfl
  | bool b => simp [b37, enterE]; rw [finK_rt (by rfl)]; rfl
  | int i => simp [b37, enterE]; rw [finK_rt (by rfl)]; rfl
  | str s =>
    have e := eqW_self (n := 0) (x := .str s) h (by omega)
    simp [b37, enterE, e]; rw [finK_rt (by rfl)]; rfl
  | _ => simp [md] at h
theorem c23 : ∀ (n l : Nat) (x : D), md n x = true → callAt F glob (l+n+1) 37 [(false, .d x), (false, .d x)] = some (.ok (.d (.bool true)), [.d x, .d x]) := by
  intro n
  induction n with
  | zero => exact fun l x h => c23_flat l x h
  | succ n ih =>
    intro l x h
    by_cases ht : ∃ xs, x = .tuple xs
    · obtain ⟨xs, rfl⟩ := ht
      have h : (decide (xs.length ≤ 1000) && xs.all (md n)) = true := h
      rw [Bool.and_eq_true, decide_eq_true_eq] at h
      have hx := List.all_eq_true.mp h.2
      rw [C37 _ _ rfl]
      simp [b37, enterE]
      rw [ev_lcS, whileLk_no rfl]
      have hz : zipL xs xs = xs.map fun x => PyData.tuple [x, x] := by simpa using zipL_self (fun x => x) xs
      simp [hz]
      rw [lcL_mapE (enc := fun x => PyData.tuple [x, x]) (g := fun _ => W.d (.bool true))]
      · have e := notin_all (bs := xs.map fun _ => true) (by simp)
        simp only [List.map_map, Function.comp_def] at e
        simp [e]
        rw [finK_rt (by rfl)]
        rfl
      · intro x hx'
        have e := ih l x (hx x hx')
        simp [show l + (n + 1) = l + n + 1 by omega, e]
      · have := h.1; simp; omega
    · rw [show l + (n + 1) + 1 = (l + n + 1) + 1 by omega]
      exact c23_flat _ x (md_flat h fun xs e => ht ⟨xs, e⟩)
/-! ### numbered as first met, the law's own -/
theorem mapK : ∀ (n : Nat) (as : List Int) (a : Int), as.Nodup → a ∈ as → (kvF n as).map (fun kv => if kv.1 = (Sum.inl a : L2.Key) then (kv.1, PyData.int ((n + ix as a : Nat) : Int)) else kv) = kvF n as
  | n, [], a, _, h => by cases h
  | n, b :: as, a, hn, h => by
    obtain ⟨h1, h2⟩ := List.nodup_cons.mp hn
    rw [kvF, List.map_cons]
    by_cases e : b = a
    · subst e
      have rest : (kvF (n + 1) as).map (fun kv => if kv.1 = (Sum.inl b : L2.Key) then (kv.1, PyData.int ((n + ix (b :: as) b : Nat) : Int)) else kv) = kvF (n + 1) as := by
        have : ∀ (m : Nat) (cs : List Int), b ∉ cs → (kvF m cs).map (fun kv => if kv.1 = (Sum.inl b : L2.Key) then (kv.1, PyData.int ((n + ix (b :: as) b : Nat) : Int)) else kv) = kvF m cs := by
          intro m cs
          induction cs generalizing m with
          | nil => intro _; rfl
          | cons c cs ih =>
            intro hc
            rw [kvF, List.map_cons, ih (m + 1) fun q => hc (by simp [q])]
            rw [if_neg]
            intro q
            exact hc (by simp at q; simp [q])
        exact this _ _ h1
      rw [rest]
      simp [ix]
    · have e2 : ix (b :: as) a = ix as a + 1 := by
        have e3 : (b == a) = false := by simpa using e
        unfold ix
        rw [List.idxOf_cons, e3]
        rfl
      have ih := mapK (n + 1) as a h2 (by simpa [Ne.symm e, show ¬ a = b from fun q => e q.symm] using h)
      rw [e2, show n + (ix as a + 1) = n + 1 + ix as a by omega, ih, if_neg (by simpa using e)]
theorem setK_kv (acc : List Int) (a : Int) (hn : acc.Nodup) : setK (kvF 0 acc) (.inl a) ((getK (kvF 0 acc) (.inl a)).getD (.int acc.length)) = kvF 0 (put1 acc a) := by
  by_cases h : a ∈ acc
  · rw [kvF_get, if_pos h]
    unfold put1
    rw [if_pos h, Option.getD_some]
    have e := mapK 0 acc a hn h
    unfold setK
    rw [if_pos]
    · exact e
    · have g := kvF_get 0 acc a
      rw [if_pos h] at g
      unfold getK at g
      rw [Option.map_eq_some_iff] at g
      obtain ⟨kv, g1, _⟩ := g
      rw [List.any_eq_true]
      exact ⟨kv, List.mem_of_find?_eq_some g1, by simpa using List.find?_some g1⟩
  · have e : getK (kvF 0 acc) (.inl a) = none := by rw [kvF_get, if_neg h]
    rw [e, Option.getD_none, kvF_none e]
    unfold put1
    rw [if_neg h, kvF_snoc]
    simp
theorem order_nodup' (s : Sts) : (order s).Nodup := order_nodup s
theorem c24 (l : Nat) {s : Sts} {sgn : List Int} (p : Pre s sgn) : callAt F glob (l+1) 38 [(false, .d (encSts s)), (false, .d (encI sgn))] = some (.ok (.d (encD (inOrder s sgn))), [.d (encSts s), .d (encI sgn)]) := by
  have hl := p.ord
  have hs := p.num
  rw [C38 _ _ rfl]
  simp [b38, enterE, show items (encSts s) = some (s.map encS) from rfl]
  refine forL_elim (P := fun o => finK _ _ _ (sqK o _) = _) encS (fun rest env => ∃ acc s4 s5 s6, env = [.ok false (.d (encSts s)), .ok false (.d (encI sgn)), .ok false (.dct false (kvF 0 acc)), .ok false (.lst []), s4, s5, s6, .no] ∧ Free s4 ∧ Free s5 ∧ Free s6 ∧ acc.Nodup ∧ firsts acc (arrs rest) = order s) ?_ ?_ ?_
  · exact ⟨[], .no, .no, .no, rfl, .no, .no, .no, by simp, rfl⟩
  · rintro st rest env ⟨acc, s4, s5, s6, rfl, f4, f5, f6, hn, hacc⟩
    rw [arrs_cons, firsts_app] at hacc
    have hz : (firsts acc (st.map (·.1))).length ≤ 1000 := by
      have := firsts_len (arrs rest) (firsts acc (st.map (·.1)))
      rw [hacc] at this
      omega
    simp [setK2_free f4, ends_walk]
    refine forL_ex (f := fun o => ctK (sqK o _)) encE (fun rest' env => ∃ acc' s5 s6, env = [.ok false (.d (encSts s)), .ok false (.d (encI sgn)), .ok false (.dct false (kvF 0 acc')), .ok false (.lst []), .ok false (.d (encS st)), s5, s6, .no] ∧ Free s5 ∧ Free s6 ∧ acc'.Nodup ∧ firsts acc' (rest'.map (·.1)) = firsts acc (st.map (·.1))) ?_ ?_ ?_
    · exact ⟨acc, s5, s6, rfl, f5, f6, hn, rfl⟩
    · rintro e rest' env ⟨acc', s5, s6, rfl, f5, f6, hn', hacc'⟩
      have hb : acc'.length ≤ 1000 := by
        have := firsts_len ((e :: rest').map (·.1)) acc'
        rw [hacc'] at this
        omega
      refine ⟨_, ?_, put1 acc' e.1, .ok false (.d (.int e.1)), .ok false (.d (.int e.2)), rfl, .ok _, .ok _, put1_nodup hn', by rw [← hacc']; rfl⟩
      simp [encE, setK2_free f5, setK2_free f6, kvF_length, show acc'.length < 1000000 by omega, setK_kv _ _ hn']
    · rintro env ⟨acc', s5, s6, rfl, f5, f6, hn', hacc'⟩
      exact ⟨_, by simp; rfl, acc', _, s5, s6, rfl, .ok _, f5, f6, hn', by rw [← hacc, ← hacc']; rfl⟩
  · rintro env ⟨acc, s4, s5, s6, rfl, f4, f5, f6, hn, hacc⟩
    have hacc : acc = order s := hacc
    subst hacc
    simp [show items (encSts s) = some (s.map encS) from rfl]
    refine forL_elim (P := fun o => finK _ _ _ (sqK o _) = _) encS (fun rest env => ∃ done s4 s5 s6, s = done ++ rest ∧ env = [.ok false (.d (encSts s)), .ok false (.d (encI sgn)), .ok false (.dct false (kvF 0 (order s))), .ok false (.lst (done.map fun st => W.d (.tuple (st.map fun e => .tuple [.int (ix (order s) e.1), .int e.2])))), s4, s5, s6, .no] ∧ Free s4 ∧ Free s5 ∧ Free s6) ?_ ?_ ?_
    · exact ⟨[], s4, s5, s6, rfl, rfl, f4, f5, f6⟩
    · rintro st rest env ⟨done, s4, s5, s6, hd, rfl, f4, f5, f6⟩
      have hst : st ∈ s := by rw [hd]; simp
      have hdl : done.length ≤ 3 := by rw [hd] at hs; simp at hs; omega
      refine ⟨_, ?_, done ++ [st], .ok false (.d (encS st)), .no, .no, by rw [hd]; simp, rfl, .ok _, .no, .no⟩
      simp [setK2_free f4]
      rw [ev_lcS, whileLk_no rfl]
      simp [ends_walk]
      rw [lcL_mapE (g := fun e : En => W.d (.tuple [.int (ix (order s) e.1), .int e.2]))]
      · simp [show done.length < 1000000 by omega]
      · intro e he
        have hm : e.1 ∈ order s := mem_order.mpr (by unfold arrs; exact List.mem_map_of_mem (List.mem_flatten.mpr ⟨st, hst, he⟩))
        simp [encE, kvF_get, hm]
      · have := p.len st hst
        simp; omega
    · rintro env ⟨done, s4, s5, s6, hd, rfl, f4, f5, f6⟩
      rw [List.append_nil] at hd
      subst hd
      simp
      rw [ev_lcS, whileLk_some rfl]
      simp [kvF_keys]
      rw [lcL_mapE (g := fun a : Int => W.d (.int (sg sgn a)))]
      · simp
        rw [finK_rt (by rfl)]
        simp [backs, encD, inOrder, encSts, encI, ren, encS, encE, Function.comp_def]
      · intro a ha
        obtain ⟨h0, h1⟩ := p.arr a (mem_order.mp ha)
        simp [encI, atI_ok h0 (show a < ((sgn.map PyData.int).length : Nat) by simpa using h1), sg, List.getElem?_eq_getElem (show a.toNat < sgn.length by omega)]
      · simp; omega
end Ev
end

section
set_option Elab.async false
set_option maxRecDepth 100000
set_option linter.all false
open PySem
namespace Ev
open Sh Ac
def bgs (ring : Bool) (st : List En) : List (List En) := if ring = true then rots st else [st]
abbrev sortD (ring : Bool) : D := .str (if ring = true then { cps := { toList := [114, 105, 110, 103] } } else { cps := { toList := [108, 105, 110, 101] } })
@[simp] theorem bin_lstlst (xs ys : List W) : binop .Add (.lst xs) (.lst ys) = match seqD (.lst xs), seqD (.lst ys) with
    | some xs, some ys => addL xs ys
    | _, _ => none := by
  show (match Operator.Add, seqD (.lst xs), seqD (.lst ys) with
    | .Add, some xs, some ys => addL xs ys
    | _, _, _ => none) = _
  cases seqD (.lst xs) <;> cases seqD (.lst ys) <;> rfl
theorem c25 (l : Nat) (ring : Bool) (st : List En) (h : st.length ≤ 1000) : callAt F glob (l+1) 39 [(false, .d (encS st)), (false, .d (sortD ring))] = some (.ok (.lst ((bgs ring st).map fun s => .d (encS s))), [.d (encS st), .d (sortD ring)]) := by
  rw [C39 _ _ rfl]
  cases ring with
  | false =>
    simp [b39, enterE, sortD]
    rw [finK_rt (by rfl)]
    simp [backs, bgs]
  | true =>
    by_cases hs : st = []
    · subst hs
      have e := eqW_self (n := 2) (x := encS []) (cln_encS 0 []) (by omega)
      have e2 : eqW (.d (encS [])) (.d (.tuple [])) = some true := e
      simp [b39, enterE, sortD, e2]
      rw [finK_rt (by rfl)]
      simp [backs, bgs, rots]
    · have e2 : eqW (.d (encS st)) (.d (.tuple [])) = some false := eqW_ne (n := 2) (m := 2) (cln_encS 0 st) (cln_encS 0 []) (by omega) (by omega) fun q => hs (encS_inj (b := []) q)
      have hp : 0 < st.length := List.length_pos_iff.mpr hs
      simp [b39, enterE, sortD, e2]
      rw [ev_lcS, whileLk_no rfl]
      simp [encS]
      simp only [Int.toNat_natCast, rngD_map]
      rw [if_pos (by omega)]
      simp
      rw [lcL_mapE (g := fun i => W.d (.tuple ((st.map encE).drop i ++ (st.map encE).take i)))]
      · simp
        rw [finK_rt (by rfl)]
        simp [backs, rots, encS, bgs, show max st.length 1 = st.length by omega]
      · intro i hi
        rw [List.mem_range] at hi
        simp [cut_fromN, cut_toN, show (st.length - i + min i st.length ≤ 1000000) by omega]
      · simp; omega
def stepG (ring : Bool) (found : List Sts) (st : List En) : List Sts := found.flatMap fun a => (bgs ring st).map fun t => a ++ [t]
theorem stepG_line : ∀ (s a : Sts), s.foldl (stepG false) [a] = [a ++ s]
  | [], a => by simp
  | st :: s, a => by
    rw [List.foldl_cons]
    have : stepG false [a] st = [a ++ [st]] := by simp [stepG, bgs]
    rw [this, stepG_line s]
    simp
theorem cands_eq (ring : Bool) (d : Dr) : cands ring d = (d.1.foldl (stepG ring) [[]]).map fun t => inOrder t d.2 := by
  cases ring with
  | true => rfl
  | false => rw [stepG_line]; rfl
theorem mem_stepG {ring : Bool} {d : Dr} {t : Sts} (h : t ∈ d.1.foldl (stepG ring) [[]]) : Rots d.1 t := by
  cases ring with
  | true => exact mem_begs.mp h
  | false =>
    rw [stepG_line] at h
    simp at h
    subst h
    exact .refl _
theorem bgs_pos (ring : Bool) (st : List En) : 1 ≤ (bgs ring st).length := by
  unfold bgs
  split
  · exact rots_pos st
  · simp
theorem stepG_len (ring : Bool) (found : List Sts) (st : List En) : found.length ≤ (stepG ring found st).length := by
  unfold stepG
  induction found with
  | nil => simp
  | cons a l ih =>
    rw [List.flatMap_cons, List.length_append, List.length_map, List.length_cons]
    have := bgs_pos ring st
    omega
theorem stepG_fold_len (ring : Bool) : ∀ (s : Sts) (found : List Sts), found.length ≤ (s.foldl (stepG ring) found).length
  | [], found => Nat.le_refl _
  | st :: s, found => Nat.le_trans (stepG_len ring found st) (stepG_fold_len ring s (stepG ring found st))
theorem Pre.stepG {s : Sts} {sgn : List Int} (h : Pre s sgn) (ring : Bool) : (s.foldl (stepG ring) [[]]).length ≤ 4096 := by
  cases ring with
  | true => exact h.begs
  | false => rw [stepG_line]; simp
theorem c26 (l : Nat) {ring : Bool} {k : Nat} {d : Dr} (h : Ok ring k d) : ∃ v, Least ring d v ∧ callAt F glob (l+2) 40 [(false, .d (encG ring k)), (false, .d (encD d))] = some (.ok (.d (encD v)), [.d (encG ring k), .d (encD d)]) := by
  have p := valid_pre h.v h.hi (.refl d.1)
  obtain ⟨v, hv, hl, e⟩ := bi_minL (f := encD) (n := 4) (by omega) al_encD (cln_encD 0) (fun a q => by cases q) (xs := cands ring d) (by
      intro q
      have h2 := stepG_fold_len ring d.1 [[]]
      have h3 := congrArg List.length q
      rw [cands_eq] at h3
      simp at h2 h3
      rw [h3] at h2
      simp at h2)
  refine ⟨v, ⟨hv, hl⟩, ?_⟩
  rw [cands_eq] at e
  simp only [List.map_map, Function.comp_def] at e
  have hb := p.stepG ring
  have hsz := p.num
  rw [C40 _ _ rfl]
  simp [b40, enterE, encD, encG, show items (encSts d.1) = some (d.1.map encS) from rfl]
  refine forL_elim (P := fun o => finK _ _ _ (sqK o _) = _) encS (fun rest env => ∃ fnd w2 s3 s4 s5 done, env = [.ok false (.d (encG ring k)), .ok false (.d (encD d)), .ok false w2, s3, s4, s5, .no, .no, .no] ∧ (w2 = .lst (fnd.map fun t => W.d (encSts t)) ∨ w2 = .d (.list (fnd.map encSts))) ∧ Free s3 ∧ Free s4 ∧ Free s5 ∧ rest.foldl (stepG ring) fnd = d.1.foldl (stepG ring) [[]] ∧ d.1 = done ++ rest ∧ ∀ a ∈ fnd, a.length = done.length) ?_ ?_ ?_
  · exact ⟨[[]], _, .no, .no, .no, [], rfl, .inl rfl, .no, .no, .no, rfl, rfl, by simp⟩
  · rintro st rest env ⟨fnd, w2, s3, s4, s5, done, rfl, hw, f3, f4, f5, hf, hd, hlen⟩
    have hst : st.length ≤ 16 := p.len st (by rw [hd]; simp)
    have hdl : done.length ≤ 3 := by rw [hd] at hsz; simp at hsz; omega
    have hl2 : (stepG ring fnd st).length ≤ 4096 := by
      have := stepG_fold_len ring rest (stepG ring fnd st)
      rw [List.foldl_cons] at hf
      rw [hf] at this
      omega
    have e25 := c25 l ring st (by omega)
    have key : ∀ e0 : Env, e0 = [.ok false (.d (encG ring k)), .ok false (.d (encD d)), .ok false (.d (.list (fnd.map encSts))), .ok false (.d (encS st)), .ok false (.lst []), s5, .no, .no, .no] →
      ∃ e, ctK (sqK (forL (fun x => asg ⟨callAt F glob (l + 1), glob⟩ (.var 5) [R.d x]) (exec ⟨callAt F glob (l + 1), glob⟩ ((S.asg (E.var 4) (E.bin Operator.Add (E.var 4) (E.lc [6, 7] (E.var 7) (E.call 39 ((E.var 3).cons (((E.var 0).idx (E.cst (PyData.int 0))).cons E.nil))) E.nil (E.bin Operator.Add (E.var 5) ((E.var 7).cons E.nil).tup)))).seq S.skip)) (fnd.map encSts) e0) (exec ⟨callAt F glob (l + 1), glob⟩ ((S.asg (E.var 2) (E.var 4)).seq S.skip))) = some (.nx, e) ∧
        ∃ s5', Free s5' ∧ e = [.ok false (.d (encG ring k)), .ok false (.d (encD d)), .ok false (.d (.list ((stepG ring fnd st).map encSts))), .ok false (.d (encS st)), .ok false (.d (.list ((stepG ring fnd st).map encSts))), s5', .no, .no, .no] := by
      rintro e0 rfl
      refine forL_ex (f := fun o => ctK (sqK o _)) encSts (fun rest' env => ∃ dn s5', Free s5' ∧ fnd = dn ++ rest' ∧ env = [.ok false (.d (encG ring k)), .ok false (.d (encD d)), .ok false (.d (.list (fnd.map encSts))), .ok false (.d (encS st)), .ok false (.lst ((stepG ring dn st).map fun t => W.d (encSts t))), s5', .no, .no, .no]) ?_ ?_ ?_
      · exact ⟨[], s5, f5, rfl, rfl⟩
      · rintro a rest' env ⟨dn, s5', f5', hfn, rfl⟩
        have ha : a.length ≤ 3 := by rw [hlen a (by rw [hfn]; simp)]; exact hdl
        have hbb : (stepG ring dn st).length + (bgs ring st).length ≤ 4096 := by
          have : stepG ring fnd st = stepG ring dn st ++ ((bgs ring st).map fun t => a ++ [t]) ++ stepG ring rest' st := by
            rw [hfn]; simp [stepG]
          rw [this] at hl2
          simp at hl2
          omega
        refine ⟨_, ?_, dn ++ [a], .ok false (.d (encSts a)), .ok _, by rw [hfn]; simp, rfl⟩
        simp [setK2_free f5']
        rw [ev_lcS, whileLk_no rfl]
        simp [encG, e25]
        rw [lcL_mapE (g := fun t => W.d (encSts (a ++ [t])))]
        · simp [addL, show (stepG ring dn st).length + (bgs ring st).length ≤ 1000000 by omega]
          simp [stepG, Function.comp_def]
        · intro t ht
          simp [encSts, show a.length ≤ 999999 by omega]
        · simp; omega
      · rintro env ⟨dn, s5', f5', hfn, rfl⟩
        rw [List.append_nil] at hfn
        subst hfn
        exact ⟨_, by simp, s5', f5', rfl⟩
    rcases hw with rfl | rfl
    · obtain ⟨e, h1, s5', f5', rfl⟩ := key _ rfl
      refine ⟨_, ?_, stepG ring fnd st, .d (.list ((stepG ring fnd st).map encSts)), .ok false (.d (encS st)), .ok false (.d (.list ((stepG ring fnd st).map encSts))), s5', done ++ [st], rfl, .inr rfl, .ok _, .ok _, f5', hf, by rw [hd]; simp, fun a ha => ?_⟩
      · simp [setK2_free f3, setK2_free f4]
        exact h1
      · obtain ⟨b, hb1, hb2⟩ := List.mem_flatMap.mp ha
        obtain ⟨t, _, rfl⟩ := List.mem_map.mp hb2
        simp [hlen b hb1]
    · obtain ⟨e, h1, s5', f5', rfl⟩ := key _ rfl
      refine ⟨_, ?_, stepG ring fnd st, .d (.list ((stepG ring fnd st).map encSts)), .ok false (.d (encS st)), .ok false (.d (.list ((stepG ring fnd st).map encSts))), s5', done ++ [st], rfl, .inr rfl, .ok _, .ok _, f5', hf, by rw [hd]; simp, fun a ha => ?_⟩
      · simp [setK2_free f3, setK2_free f4]
        exact h1
      · obtain ⟨b, hb1, hb2⟩ := List.mem_flatMap.mp ha
        obtain ⟨t, _, rfl⟩ := List.mem_map.mp hb2
        simp [hlen b hb1]
  · rintro env ⟨fnd, w2, s3, s4, s5, done, rfl, hw, f3, f4, f5, hf, hd, hlen⟩
    have hf : fnd = d.1.foldl (stepG ring) [[]] := hf
    have key : ∀ t ∈ fnd, callAt F glob (l + 1) 38 [(false, .d (encSts t)), (false, .d (encI d.2))] = some (.ok (.d (encD (inOrder t d.2))), [.d (encSts t), .d (encI d.2)]) := fun t ht => c24 l (valid_pre h.v h.hi (mem_stepG (hf ▸ ht)))
    rcases hw with rfl | rfl
    · simp
      rw [ev_lcS, whileLk_no rfl]
      simp
      rw [lcL_mapE (enc := encSts) (g := fun t => W.d (encD (inOrder t d.2)))]
      · rw [hf]
        simp [e]
        rw [finK_rt (by rfl)]
        rfl
      · intro t ht
        simp [encD, key t ht]
      · rw [hf]; simp; omega
    · simp
      rw [ev_lcS, whileLk_no rfl]
      simp
      rw [lcL_mapE (enc := encSts) (g := fun t => W.d (encD (inOrder t d.2)))]
      · rw [hf]
        simp [e]
        rw [finK_rt (by rfl)]
        rfl
      · intro t ht
        simp [encD, key t ht]
      · rw [hf]; simp; omega
end Ev
end

section
set_option Elab.async false
set_option maxRecDepth 100000
set_option linter.all false
open PySem
namespace Ev
open Sh Ac
theorem c27 (l : Nat) (a b : Int) (Q : W → List W → Prop) (hQ : ∀ (ring : Bool) (k : Nat) (a' b' : Int), 1 ≤ k → k ≤ 3 → Q (.d (encG ring k)) [sat a' b']) : Gives (callAt F glob (l+3) 41 [(true, sat a b)]) Q := by
  rw [C41 _ _ rfl]
  obtain ⟨x, hx, a1, b1, e1⟩ := c22T l a b [.str { cps := { toList := [108, 105, 110, 101] } }, .str { cps := { toList := [114, 105, 110, 103] } }] (by simp) (by simp)
  obtain ⟨y, hy, a2, b2, e2⟩ := c22T l a1 b1 [.int 1, .int 1, .int 2, .int 3] (by simp) (by simp)
  simp [b41, enterE, e1, e2]
  refine gives_rt (by rfl) ?_
  obtain ⟨ring, rfl⟩ : ∃ ring : Bool, x = sortD ring := by
    simp at hx
    rcases hx with rfl | rfl
    · exact ⟨false, rfl⟩
    · exact ⟨true, rfl⟩
  obtain ⟨k, h1, h2, rfl⟩ : ∃ k : Nat, 1 ≤ k ∧ k ≤ 3 ∧ y = .int (k : Int) := by
    simp at hy
    rcases hy with rfl | rfl | rfl
    · exact ⟨1, by omega, by omega, rfl⟩
    · exact ⟨2, by omega, by omega, rfl⟩
    · exact ⟨3, by omega, by omega, rfl⟩
  exact hQ ring k a2 b2 h1 h2
theorem flat_set : ∀ (ss : Sts) (i : Nat) (hi : i < ss.length) (e : En), (ss.set i (ss[i] ++ [e])).flatten.Perm (ss.flatten ++ [e])
  | [], i, hi, e => by simp at hi
  | st :: ss, 0, hi, e => by
    show ((st ++ [e]) ++ ss.flatten).Perm ((st ++ ss.flatten) ++ [e])
    rw [List.append_assoc, List.append_assoc]
    exact List.Perm.append_left st List.perm_append_comm
  | st :: ss, i + 1, hi, e => by
    show (st ++ (ss.set i (ss[i]'(by simpa using hi) ++ [e])).flatten).Perm ((st ++ ss.flatten) ++ [e])
    rw [List.append_assoc]
    exact (flat_set ss i (by simpa using hi) e).append_left st
theorem allLs_map {κ : Type} (f : κ → W) (g : κ → List D) (h : ∀ x, seqD (f x) = some (g x)) (xs : List κ) : allLs (xs.map f) = some (xs.flatMap g) := by
  induction xs with
  | nil => rfl
  | cons x xs ih => rw [List.map_cons, allLs, h, ih]; rfl
theorem ends_enc (n : Nat) : ((List.range n).flatMap fun (i : Nat) => [PyData.tuple [.int (i : Int), .int 1], PyData.tuple [.int (i : Int), .int 0]]) = (ends n).map encE := by
  unfold ends
  rw [List.map_flatMap]
  rfl
theorem rngD_nat (lo : Int) (n : Nat) : rngD 0 n = (List.range n).map fun (i : Nat) => PyData.int (i : Int) := rngD_map n
theorem c28 (l : Nat) (a b : Int) (ring : Bool) (k : Nat) (hk1 : 1 ≤ k) (hk3 : k ≤ 3) (n : Nat) (hn : n ≤ 8) (Q : W → List W → Prop)
    (hQ : ∀ (d : Dr) (a' b' : Int), Ok ring k d → d.2.length = n → Q (.d (encD d)) [sat a' b', .d (encG ring k), .d (.int n)]) : Gives (callAt F glob (l+3) 42 [(true, sat a b), (false, .d (encG ring k)), (false, .d (.int n))]) Q := by
  rw [C42 _ _ rfl]
  simp [b42, enterE, encG]
  rw [ev_lcS, whileLk_no rfl]
  simp [show (n : Int) ≤ 1000000 by omega]
  rw [rngD_map, lcL_mapE (g := fun i : Nat => W.lst [.d (.tuple [.int (i : Int), .int 1]), .d (.tuple [.int (i : Int), .int 0])])]
  rotate_left
  · intro i hi
    simp
  · simp; omega
  have hs : sumW (.lst ((List.range n).map fun (i : Nat) => W.lst [.d (.tuple [.int (i : Int), .int 1]), .d (.tuple [.int (i : Int), .int 0])])) = some ((ends n).map encE) := by
    show allLs _ = _
    rw [allLs_map (g := fun (i : Nat) => [PyData.tuple [.int (i : Int), .int 1], PyData.tuple [.int (i : Int), .int 0]]) (h := fun x => by simp), ends_enc]
  simp [hs, ends_length, show 2 * n ≤ 1000000 by omega]
  rw [ev_lcS, whileLk_no rfl]
  simp [show (k : Int) ≤ 1000000 by omega]
  rw [rngD_map, lcL_mapE (g := fun i : Nat => W.lst [])]
  rotate_left
  · intro i hi
    simp
  · simp; omega
  simp [show (-1000000 : Int) ≤ 2 * n ∧ 2 * (n : Int) ≤ 1000000 by omega, show (2 * (n : Int)).toNat = 2 * n by omega, rngD_map]
  refine forL_elim (P := fun o => Gives (finK _ _ _ (sqK o _)) _) (fun (i : Nat) => PyData.int (i : Int)) (fun rest env => ∃ (a' b' : Int) (ss : Sts) (es : List En) (s5 : Slot), env = [.ok true (sat a' b'), .ok false (.d (encG ring k)), .ok false (.d (.int n)), .ok false (.lst (es.map fun e => W.d (encE e))), .ok false (.lst (ss.map fun st => W.lst (st.map fun e => W.d (encE e)))), s5, .no, .no, .no] ∧ Free s5 ∧ ss.length = k ∧ (ss.flatten ++ es).Perm (ends n) ∧ es.length = rest.length) ?_ ?_ ?_
  · refine ⟨a, b, List.replicate k [], ends n, .no, ?_, .no, by simp, by simp, by simp [ends_length]⟩
    simp [encG, List.map_replicate, List.map_const']
  · rintro i rest env ⟨a', b', ss, es, s5, rfl, f5, hss, hp, hes⟩
    obtain ⟨t1, a1, b1, e1, p1, q1⟩ := c21 (l + 1) a' b' k (by omega) (by omega)
    have hl : es.length ≤ 16 := by
      have := hp.length_eq
      rw [List.length_append, ends_length] at this
      omega
    have hle : 0 < es.length := by rw [hes]; simp
    obtain ⟨t2, a2, b2, e2, p2, q2⟩ := c21 (l + 1) a1 b1 es.length (by omega) (by omega)
    have ht1 : t1.toNat < ss.length := by omega
    have ht2 : t2.toNat < es.length := by omega
    have hsl : (ss[t1.toNat]).length ≤ 16 := by
      have h1 := (List.sublist_flatten_of_mem (List.getElem_mem ht1)).length_le
      have := hp.length_eq
      rw [List.length_append, ends_length] at this
      omega
    show Goes _ _
    simp [setK2_free f5, encG, e1, e2, ixN_ok p1 (show t1 < (ss.length : Int) by omega), ixN_ok p2 q2, List.getElem?_eq_getElem ht1, List.getElem?_eq_getElem ht2, show (ss[t1.toNat]).length < 1000000 by omega]
    refine goes_nx ⟨a2, b2, ss.set t1.toNat (ss[t1.toNat] ++ [es[t2.toNat]]), es.eraseIdx t2.toNat, .ok false (.d (.int i)), ?_, .ok _, by simpa using hss, ?_, ?_⟩
    · simp [List.map_set, map_eraseIdx']
    · have h1 := flat_set ss t1.toNat ht1 es[t2.toNat]
      have h2 := erase_perm es t2.toNat ht2
      refine (h1.append_right _).trans ?_
      rw [List.append_assoc]
      exact (h2.append_left ss.flatten).trans hp
    · rw [List.length_eraseIdx_of_lt ht2, hes]; simp
  · rintro env ⟨a', b', ss, es, s5, rfl, f5, hss, hp, hes⟩
    have hes0 : es = [] := List.length_eq_zero_iff.mp hes
    subst hes0
    rw [List.append_nil] at hp
    simp
    rw [ev_lcS, whileLk_no rfl]
    simp
    rw [lcL_mapE (enc := fun st : List En => PyData.list (st.map encE)) (g := fun st => W.d (encS st))]
    rotate_left
    · intro st hst
      simp [encS]
    · simp; omega
    simp
    rw [ev_lcS, whileLk_no rfl]
    simp [show (n : Int) ≤ 1000000 by omega, rngD_map]
    generalize hlc : lcL _ _ _ _ _ _ _ = o
    obtain ⟨ws, env', rfl, a1, b1, sg, rfl, rfl, hsg, hlen⟩ : ∃ ws env', o = some (.ok ws, env') ∧ ∃ (a1 b1 : Int) (sg : List Int), env' = [.ok true (sat a1 b1), .ok false (.d (encG ring k)), .ok false (.d (.int n)), .ok false (.lst []), .ok false (.d (.list (ss.map fun st => .list (st.map encE)))), s5, .no, .no, .no] ∧ ws = sg.map (fun i => W.d (.int i)) ∧ (∀ x ∈ sg, x = 1 ∨ x = -1) ∧ sg.length = n := by
      rw [← hlc]
      refine lcL_relE (fun (i : Nat) => PyData.int (i : Int)) (fun rest acc env => ∃ (a1 b1 : Int) (sg : List Int), env = [.ok true (sat a1 b1), .ok false (.d (encG ring k)), .ok false (.d (.int n)), .ok false (.lst []), .ok false (.d (.list (ss.map fun st => .list (st.map encE)))), s5, .no, .no, .no] ∧ acc = sg.map (fun i => W.d (.int i)) ∧ (∀ x ∈ sg, x = 1 ∨ x = -1) ∧ sg.length + rest.length = n) ?_ ?_
      · exact ⟨a', b', [], rfl, rfl, by simp, by simp⟩
      · rintro i rest acc env ⟨a1, b1, sg, rfl, rfl, hsg, hlen⟩
        simp at hlen
        refine ⟨by simp; omega, ?_⟩
        obtain ⟨x, hx, a2, b2, e2⟩ := c22T l a1 b1 [.int 1, .int (-1)] (by simp) (by simp)
        obtain ⟨z, rfl, hz⟩ : ∃ z : Int, x = .int z ∧ (z = 1 ∨ z = -1) := by
          simp at hx
          rcases hx with rfl | rfl
          · exact ⟨1, rfl, .inl rfl⟩
          · exact ⟨-1, rfl, .inr rfl⟩
        refine ⟨.d (.int z), _, ?_, a2, b2, sg ++ [z], rfl, by simp, ?_, by simp; omega⟩
        · simp [e2]
        intro y hy
        rcases List.mem_append.mp hy with hy | hy
        · exact hsg y hy
        · simp at hy; subst hy; exact hz
    simp
    refine gives_rt (by rfl) ?_
    have hv : Valid k (ss, sg) := ⟨hss, by simp; omega, hsg, by simpa [hlen] using hp⟩
    have := hQ (ss, sg) a1 b1 ⟨hv, hk1, hk3⟩ hlen
    simpa [encD, encI, encSts, Function.comp_def, backs] using this
end Ev
end

section
set_option Elab.async false
set_option maxRecDepth 100000
set_option linter.all false
open PySem
namespace Ev
open Sh Ac
/-- d begun and numbered otherwise is the same, a drawing of the ground still -/
theorem md_encD {ring : Bool} {k : Nat} {d : Dr} (h : Ok ring k d) : md 4 (encD d) = true := by
  have p := valid_pre h.v h.hi (.refl d.1)
  have hm := h.v.most
  have h1 : ∀ st ∈ d.1, md 2 (encS st) = true := fun st hst => by
    have := p.len st hst
    show (decide ((st.map encE).length ≤ 1000) && (st.map encE).all (md 1)) = true
    rw [Bool.and_eq_true, decide_eq_true_eq, List.all_eq_true]
    refine ⟨by simp; omega, fun e he => ?_⟩
    obtain ⟨x, _, rfl⟩ := List.mem_map.mp he
    rfl
  have h2 : md 3 (encSts d.1) = true := by
    have := p.num
    show (decide ((d.1.map encS).length ≤ 1000) && (d.1.map encS).all (md 2)) = true
    rw [Bool.and_eq_true, decide_eq_true_eq, List.all_eq_true]
    refine ⟨by simp; omega, fun e he => ?_⟩
    obtain ⟨x, hx, rfl⟩ := List.mem_map.mp he
    exact h1 x hx
  have h3 : md 3 (encI d.2) = true := by
    show (decide ((d.2.map PyData.int).length ≤ 1000) && (d.2.map PyData.int).all (md 2)) = true
    rw [Bool.and_eq_true, decide_eq_true_eq, List.all_eq_true]
    refine ⟨by simp; omega, fun e he => ?_⟩
    obtain ⟨x, hx, rfl⟩ := List.mem_map.mp he
    rfl
  show (decide ([encSts d.1, encI d.2].length ≤ 1000) && [encSts d.1, encI d.2].all (md 3)) = true
  simp [h2, h3]
theorem md_up : ∀ {n : Nat} {x : D}, md n x = true → md (n + 1) x = true
  | 0, x, h => by cases x <;> first | exact h | (simp [md] at h)
  | n + 1, x, h => by
    cases x with
    | tuple xs =>
      have h : (decide (xs.length ≤ 1000) && xs.all (md n)) = true := h
      rw [Bool.and_eq_true] at h
      show (decide (xs.length ≤ 1000) && xs.all (md (n + 1))) = true
      rw [Bool.and_eq_true]
      exact ⟨h.1, List.all_eq_true.mpr fun y hy => md_up (List.all_eq_true.mp h.2 y hy)⟩
    | list xs => simp [md] at h
    | dict xs => simp [md] at h
    | _ => exact h
theorem md_tup {n : Nat} {xs : List D} (hl : xs.length ≤ 1000) (h : ∀ x ∈ xs, md n x = true) : md (n + 1) (.tuple xs) = true := by
  show (decide (xs.length ≤ 1000) && xs.all (md n)) = true
  rw [Bool.and_eq_true, decide_eq_true_eq, List.all_eq_true]
  exact ⟨hl, h⟩
theorem Ok.cand {ring : Bool} {k : Nat} {d v : Dr} (h : Ok ring k d) (hv : Least ring d v) : Ok ring k v ∧ v.2.length = d.2.length ∧ Same ring d v :=
  ⟨⟨(h.v.cand hv.1).1, h.lo, h.hi⟩, (h.v.cand hv.1).2, cand_same hv.1⟩
theorem lay_sort (ring : Bool) : PyData.canLay0 (sortD ring) = true := by cases ring <;> decide +kernel
theorem cln_encG (ring : Bool) (k : Int) : cln 1 (encG ring k) = true := by
  show ([sortD ring, PyData.int k]).all (cln 0) = true
  rw [List.all_cons]
  show (PyData.canLay0 (sortD ring) && _) = true
  rw [lay_sort]
  rfl
@[simp] theorem idx_encG0 (o : R) (ring : Bool) (k : Int) : idx o (.d (encG ring k)) (.d (.int 0)) = some (.d (sortD ring)) := rfl
@[simp] theorem idx_encD0 (o : R) (d : Dr) : idx o (.d (encD d)) (.d (.int 0)) = some (.d (encSts d.1)) := rfl
@[simp] theorem idx_encD1 (o : R) (d : Dr) : idx o (.d (encD d)) (.d (.int 1)) = some (.d (encI d.2)) := rfl
@[simp] theorem len_encI (xs : List Int) : biW .len [.d (encI xs)] = some (.d (.int xs.length)) := by
  unfold encI; simp
end Ev
end

section
set_option Elab.async false
set_option maxRecDepth 100000
set_option linter.all false
open PySem
namespace Ev
open Sh Ac
section
variable {T : Tb} {env : Env}
@[simp] theorem ev_rev (a : E) : ev T (.rev a) env = bndK (ev T a env) fun xs => bnd (sole xs) fun x => bnd (seeM x) fun v => lft ((revW v).map fun r => [toR r]) := by rw [ev]; rfl
@[simp] theorem revW_t (xs : List D) : revW (.d (.tuple xs)) = some (.d (.tuple xs.reverse)) := rfl
@[simp] theorem revW_S (st : List En) : revW (.d (encS st)) = some (.d (encS st.reverse)) := by
  show some (W.d (.tuple (st.map encE).reverse)) = _
  rw [← List.map_reverse]
  rfl
end
theorem encSts_map {κ : Type} (f : κ → List En) (xs : List κ) : PyData.tuple (xs.map fun x => encS (f x)) = encSts (xs.map f) := by
  unfold encSts; rw [List.map_map]; rfl
theorem encI_map {κ : Type} (f : κ → Int) (xs : List κ) : PyData.tuple (xs.map fun x => PyData.int (f x)) = encI (xs.map f) := by
  unfold encI; rw [List.map_map]; rfl
theorem k12 (l : Nat) (xs : List Int) (h : xs.length ≤ 1000) : callAt F glob (l+1) 12 [(false, .d (encI xs))] = some (.ok (.d (encI (xs.map fun x => -x))), [.d (encI xs)]) := by
  rw [C12 _ _ rfl]
  simp [b12, enterE, encI]
  rw [ev_lcS, whileLk_no rfl]
  simp
  rw [lcL_mapE (enc := PyData.int) (g := fun x : Int => W.d (.int (-x)))]
  · simp
    rw [finK_rt (by rfl)]
    simp [backs, Function.comp_def]
  · intro x hx
    simp
  · simp; omega
theorem k13 (l : Nat) (d : Dr) (h : d.1.length ≤ 3) : callAt F glob (l+1) 13 [(false, .d (encD d))] = some (.ok (.d (encD (bk d))), [.d (encD d)]) := by
  rw [C13 _ _ rfl]
  simp [b13, enterE]
  rw [ev_lcS, whileLk_no rfl]
  simp [show encSts d.1 = PyData.tuple (d.1.map encS) from rfl]
  rw [lcL_mapE (enc := encS) (g := fun st => W.d (encS st.reverse))]
  · simp
    rw [finK_rt (by rfl)]
    simp [backs, encD, bk, encSts, Function.comp_def]
  · intro st hst
    simp
  · simp; omega
theorem k14 (l : Nat) (d : Dr) (h : d.2.length ≤ 8) : callAt F glob (l+2) 14 [(false, .d (encD d))] = some (.ok (.d (encD (mi d))), [.d (encD d)]) := by
  rw [C14 _ _ rfl]
  simp [b14, enterE, k12 l d.2 (by omega)]
  rw [finK_rt (by rfl)]
  rfl
theorem k43 (l : Nat) (d : Dr) (h : d.1.length ≤ 3) : callAt F glob (l+1) 43 [(false, .d (encD d))] = some (.ok (.d (encD (bk d))), [.d (encD d)]) := by
  rw [C43 _ _ rfl]
  simp [b43, enterE]
  rw [ev_lcS, whileLk_no rfl]
  simp [show encSts d.1 = PyData.tuple (d.1.map encS) from rfl]
  rw [lcL_mapE (enc := encS) (g := fun st => W.d (encS st.reverse))]
  · simp
    rw [finK_rt (by rfl)]
    simp [backs, encD, bk, encSts, Function.comp_def]
  · intro st hst
    simp
  · simp; omega
theorem k44 (l : Nat) (d : Dr) (h : d.2.length ≤ 8) : callAt F glob (l+1) 44 [(false, .d (encD d))] = some (.ok (.d (encD (mi d))), [.d (encD d)]) := by
  rw [C44 _ _ rfl]
  simp [b44, enterE]
  rw [ev_lcS, whileLk_no rfl]
  simp [show encI d.2 = PyData.tuple (d.2.map PyData.int) from rfl]
  rw [lcL_mapE (enc := PyData.int) (g := fun x : Int => W.d (.int (-x)))]
  · simp
    rw [finK_rt (by rfl)]
    simp [backs, encD, mi, encI, Function.comp_def]
  · intro x hx
    simp
  · simp; omega
end Ev
end

section
set_option Elab.async false
set_option maxRecDepth 100000
set_option linter.all false
open PySem
namespace Ev
open Sh Ac
theorem eqv_int (i j : Int) : PyData.eqv (.int i) (.int j) = decide (i = j) := by
  have h := eq_ints i j
  have h2 : eqW (.d (.int i)) (.d (.int j)) = some (PyData.eqv (.int i) (.int j)) := by
    show (if (fair (.int i) && fair (.int j)) = true then some (PyData.eqv (.int i) (.int j)) else none) = _
    rw [if_pos (show (fair (.int i) && fair (.int j)) = true from rfl)]
  rw [h2] at h
  simpa using h
@[simp] theorem in_ints (a : Int) (as : List Int) : inW (.d (.int a)) (.d (.tuple (as.map .int))) = some (decide (a ∈ as)) := by
  show (if fair (.int a) && (as.map PyData.int).all fair then some ((as.map PyData.int).any fun z => PyData.eqv z (.int a)) else none) = _
  rw [if_pos (by simp)]
  congr 1
  rw [List.any_map]
  induction as with
  | nil => rfl
  | cons b as ih =>
    rw [List.any_cons, ih]
    show (PyData.eqv (.int b) (.int a) || _) = _
    rw [eqv_int]
    by_cases h : b = a
    · simp [h]
    · simp [h, show ¬ a = b from fun z => h z.symm]
theorem encE_pair (a b : Int) : PyData.tuple [.int a, .int b] = encE (a, b) := rfl
/-- the parts of an END with its role changed if its arrow is in a lot -/
theorem ite_int (c : Bool) (a b : Int) : (if c = true then W.d (.int a) else W.d (.int b)) = W.d (.int (if c = true then a else b)) := by cases c <;> rfl
theorem k15 (l : Nat) (d : Dr) (as : List Int) (h : d.1.length ≤ 3) (h2 : ∀ st ∈ d.1, st.length ≤ 100) (h3 : d.2.length ≤ 8) : callAt F glob (l+1) 15 [(false, .d (encD d)), (false, .d (encI as))] = some (.ok (.d (encD (chg as d))), [.d (encD d), .d (encI as)]) := by
  rw [C15 _ _ rfl]
  simp [b15, enterE]
  simp only [show encSts d.1 = PyData.tuple (d.1.map encS) from rfl, items_tuple]
  simp
  refine forL_elim (P := fun o => finK _ _ _ (sqK o _) = _) encS (fun rest env => ∃ (dn : List (List En)) (s3 : Slot), env = [.ok false (.d (encD d)), .ok false (.d (encI as)), .ok false (.lst (dn.map fun st => W.d (encS (st.map (chE as))))), s3, .no, .no, .no, .no, .no] ∧ Free s3 ∧ d.1 = dn ++ rest) ?_ ?_ ?_
  · exact ⟨[], .no, rfl, .no, rfl⟩
  · rintro st rest env ⟨dn, s3, rfl, f3, hd⟩
    have hst : st.length ≤ 100 := h2 st (by rw [hd]; simp)
    have hdn : dn.length ≤ 3 := by have := congrArg List.length hd; simp at this; omega
    show Goes _ _
    simp [setK2_free f3]
    rw [ev_lcS, whileLk_no rfl]
    simp [show encS st = PyData.tuple (st.map encE) from rfl]
    rw [lcL_mapE (enc := encE) (g := fun e => W.d (encE (chE as e)))]
    · simp [show dn.length < 1000000 by omega]
      refine goes_nx ⟨dn ++ [st], .ok false (.d (encS st)), ?_, .ok _, ?_⟩
      · simp [encS, Function.comp_def]
      · rw [hd]; simp
    · intro e he
      obtain ⟨a, r⟩ := e
      by_cases ha : a ∈ as <;> simp [encE, encI, chE, ha]
    · simp; omega
  · rintro env ⟨dn, s3, rfl, f3, hd⟩
    rw [List.append_nil] at hd
    subst hd
    have hen : enumD (encI d.2) = some (((List.range d.2.length).zip d.2).map fun q : Nat × Int => PyData.tuple [.int (q.1 : Nat), .int q.2]) := by
      show some (enumL (d.2.map PyData.int)) = _
      rw [enumL_map]
    simp
    rw [ev_lcS, whileLk_no rfl]
    simp [hen]
    rw [lcL_mapE (g := fun q : Nat × Int => W.d (.int (if ((q.1 : Nat) : Int) ∈ as then -q.2 else q.2)))]
    · simp
      rw [finK_rt (by rfl)]
      simp [backs, encD, chg, chS, chG, encSts, encI, Function.comp_def]
    · rintro ⟨i, x⟩ hq
      by_cases ha : (i : Int) ∈ as <;> simp [encI, ha]
    · simp; omega
theorem numL_enc (n : Nat) : (List.range n).map (fun (i : Nat) => PyData.int (i : Int)) = (numL n).map PyData.int := by
  unfold numL
  rw [List.map_map]
  rfl
theorem allD_num (n : Nat) : allD ((List.range n).map (W.d ∘ fun (i : Nat) => PyData.int (i : Int))) = some ((numL n).map PyData.int) := by
  rw [← List.map_map, numL_enc]
  exact allD_map' _
theorem mem_numL {n : Nat} {a : Int} : a ∈ numL n ↔ 0 ≤ a ∧ a < n := by
  unfold numL
  rw [List.mem_map]
  constructor
  · rintro ⟨i, hi, rfl⟩
    rw [List.mem_range] at hi
    omega
  · rintro ⟨h1, h2⟩
    exact ⟨a.toNat, by rw [List.mem_range]; omega, by omega⟩
theorem ov_numL {k : Nat} {d : Dr} (h : Valid k d) : chg (numL d.2.length) d = ov d := chg_all h fun i hi => mem_numL.mpr ⟨by omega, by omega⟩
theorem valid_len {k : Nat} {d : Dr} (h : Valid k d) (hk : k ≤ 3) : ∀ st ∈ d.1, st.length ≤ 16 := (valid_pre h hk (.refl d.1)).len
theorem k16 (l : Nat) {k : Nat} {d : Dr} (h : Valid k d) (hk : k ≤ 3) : callAt F glob (l+2) 16 [(false, .d (encD d))] = some (.ok (.d (encD (ov d))), [.d (encD d)]) := by
  have hm := h.most
  have hl := h.len
  have e := k15 l d (numL d.2.length) (by omega) (fun st hst => by have := valid_len h hk st hst; omega) hm
  rw [ov_numL h] at e
  rw [C16 _ _ rfl]
  simp [b16, enterE, c7, show ((d.2.length : Nat) : Int) ≤ 1000000 by omega, rngD_map]
  simp [allD_num, show PyData.tuple ((numL d.2.length).map PyData.int) = encI (numL d.2.length) from rfl, e]
  rw [finK_rt (by rfl)]
  rfl
theorem k45 (l : Nat) (d : Dr) (as : List Int) (h : d.1.length ≤ 3) (h2 : ∀ st ∈ d.1, st.length ≤ 100) (h3 : d.2.length ≤ 8) : callAt F glob (l+1) 45 [(false, .d (encD d)), (false, .d (encI as))] = some (.ok (.d (encD (chg as d))), [.d (encD d), .d (encI as)]) := by
  have hen : enumD (encI d.2) = some (((List.range d.2.length).zip d.2).map fun q : Nat × Int => PyData.tuple [.int (q.1 : Nat), .int q.2]) := by
    show some (enumL (d.2.map PyData.int)) = _
    rw [enumL_map]
  rw [C45 _ _ rfl]
  simp [b45, enterE]
  rw [ev_lcS, whileLk_no rfl]
  simp [show encSts d.1 = PyData.tuple (d.1.map encS) from rfl]
  rw [lcL_mapE (enc := encS) (g := fun st => W.d (encS (st.map (chE as))))]
  · simp
    rw [ev_lcS, whileLk_no rfl]
    simp [hen]
    rw [lcL_mapE (g := fun q : Nat × Int => W.d (.int (if ((q.1 : Nat) : Int) ∈ as then -q.2 else q.2)))]
    · simp
      rw [finK_rt (by rfl)]
      simp [backs, encD, chg, chS, chG, encSts, encI, Function.comp_def]
    · rintro ⟨i, x⟩ hq
      by_cases ha : (i : Int) ∈ as <;> simp [encI, ha]
    · simp; omega
  · intro st hst
    have := h2 st hst
    simp
    rw [ev_lcS, whileLk_no rfl]
    simp [show encS st = PyData.tuple (st.map encE) from rfl]
    rw [lcL_mapE (enc := encE) (g := fun e => W.d (encE (chE as e)))]
    · simp [encS, Function.comp_def]
    · rintro ⟨a, r⟩ he
      by_cases ha : a ∈ as <;> simp [encE, encI, chE, ha]
    · simp; omega
  · simp; omega
theorem k46 (l : Nat) {k : Nat} {d : Dr} (h : Valid k d) (hk : k ≤ 3) : callAt F glob (l+2) 46 [(false, .d (encD d))] = some (.ok (.d (encD (ov d))), [.d (encD d)]) := by
  have hm := h.most
  have hl := h.len
  have e := k45 l d (numL d.2.length) (by omega) (fun st hst => by have := valid_len h hk st hst; omega) hm
  rw [ov_numL h] at e
  rw [C46 _ _ rfl]
  simp [b46, enterE, show ((d.2.length : Nat) : Int) ≤ 1000000 by omega, rngD_map]
  simp [allD_num, show PyData.tuple ((numL d.2.length).map PyData.int) = encI (numL d.2.length) from rfl, e]
  rw [finK_rt (by rfl)]
  rfl
variable {ring : Bool} {k : Nat} {d d2 : Dr}
theorem Ok.bk (h : Ok ring k d) : Ok ring k (bk d) := ⟨h.v.bk, h.lo, h.hi⟩
theorem Ok.mi (h : Ok ring k d) : Ok ring k (mi d) := ⟨h.v.mi, h.lo, h.hi⟩
theorem Ok.ov (h : Ok ring k d) : Ok ring k (ov d) := ⟨h.v.ov, h.lo, h.hi⟩
theorem k23 (l : Nat) (h : Ok ring k d) : callAt F glob (l+7) 23 [(false, .d (encG ring k)), (false, .d (encD d))] = some (.ok (.d (encD (bk d))), [.d (encG ring k), .d (encD d)]) := by
  rw [C23 _ _ rfl]
  simp [b23, enterE, c14 l h, k13 (l + 5) d (by have := h.v.len; have := h.hi; omega)]
  rw [finK_rt (by rfl)]
  rfl
theorem k24 (l : Nat) (h : Ok ring k d) : callAt F glob (l+7) 24 [(false, .d (encG ring k)), (false, .d (encD d))] = some (.ok (.d (encD (mi d))), [.d (encG ring k), .d (encD d)]) := by
  rw [C24 _ _ rfl]
  simp [b24, enterE, c14 l h, k14 (l + 4) d h.v.most]
  rw [finK_rt (by rfl)]
  rfl
theorem k25 (l : Nat) (h : Ok ring k d) : callAt F glob (l+7) 25 [(false, .d (encG ring k)), (false, .d (encD d))] = some (.ok (.d (encD (ov d))), [.d (encG ring k), .d (encD d)]) := by
  rw [C25 _ _ rfl]
  simp [b25, enterE, c14 l h, k16 (l + 4) h.v h.hi]
  rw [finK_rt (by rfl)]
  rfl
end Ev
end

section
set_option Elab.async false
set_option maxRecDepth 100000
set_option linter.all false
open PySem
namespace Ev
open Sh Ac
/-- a dict from ENDs to ENDs -/
def dW : List (En × En) → W
  | [] => .dct false []
  | p :: ps => .dcn ((p :: ps).map fun p => (keyE p.1, encE p.2))
section
variable {env : Env}
@[simp] theorem varK_dW (p : Bool) (ps : List (En × En)) (i : Nat) : varK (some (.ok p (dW ps))) i env = some (.ok [.pth i []], env) := by cases ps <;> rfl
@[simp] theorem toR_dW (ps : List (En × En)) : toR (dW ps) = .own (dW ps) := by cases ps <;> rfl
@[simp] theorem fits_dW (ps : List (En × En)) : MI.fits .get (dW ps) = true := by cases ps <;> rfl
end
theorem keyD_encE (e : En) : keyD (encE e) = none := rfl
theorem setN_new {ps : List (En × En)} {x y : En} (h : x ∉ ps.map (·.1)) : setN (ps.map fun p => (keyE p.1, encE p.2)) (keyE x) (encE y) = (ps ++ [(x, y)]).map fun p => (keyE p.1, encE p.2) := by
  unfold setN
  rw [if_neg, List.map_append]
  · rfl
  · intro q
    rw [List.any_eq_true] at q
    obtain ⟨z, hz, e⟩ := q
    obtain ⟨p, hp, rfl⟩ := List.mem_map.mp hz
    have e' : keyE p.1 = keyE x := by simpa using e
    exact h (List.mem_map.mpr ⟨p, hp, keyE_inj e'⟩)
theorem stW_dW {ps : List (En × En)} {x y : En} (h : x ∉ ps.map (·.1)) (hl : ps.length < 1000) : stW (dW ps) (.d (encE x)) (.d (encE y)) = some (dW (ps ++ [(x, y)])) := by
  cases ps with
  | nil =>
    show stW (.dct false []) (.d (encE x)) (.d (encE y)) = _
    unfold stW
    simp only [keyD_encE, tupK_encE]
    rfl
  | cons p ps =>
    show stW (.dcn ((p :: ps).map fun p : En × En => (keyE p.1, encE p.2))) (.d (encE x)) (.d (encE y)) = _
    unfold stW
    simp only [tupK_encE]
    rw [if_pos (by rw [List.length_map]; exact Nat.lt_of_lt_of_le hl (by decide)), setN_new h]
    rfl
/-- what stands behind -/
def behD (ps : List (En × En)) (x : En) : D := match ps.find? fun p => decide (p.1 = x) with
  | some p => encE p.2
  | none => .none
theorem getN_enc (ps : List (En × En)) (x : En) : (getN (ps.map fun p => (keyE p.1, encE p.2)) (keyE x)).getD .none = behD ps x := by
  unfold getN behD
  induction ps with
  | nil => rfl
  | cons p ps ih =>
    rw [List.map_cons, List.find?_cons, List.find?_cons]
    by_cases h : p.1 = x
    · rw [decide_eq_true h, decide_eq_true (congrArg keyE h)]
      rfl
    · rw [decide_eq_false h, decide_eq_false fun q => h (keyE_inj q)]
      exact ih
theorem meGet_dW (ps : List (En × En)) (x : En) : meW .get (dW ps) [.d (encE x)] = some (dW ps, .d (behD ps x)) := by
  cases ps with
  | nil =>
    show meGet (.dct false []) [.d (encE x)] = _
    unfold meGet
    simp only [keyD_encE, tupK_encE]
    rfl
  | cons p ps =>
    show meGet (.dcn ((p :: ps).map fun p : En × En => (keyE p.1, encE p.2))) [.d (encE x)] = _
    unfold meGet
    simp only [tupK_encE]
    rw [Option.map_some, getN_enc]
    rfl
theorem behD_iff {ps : List (En × En)} (hn : (ps.map (·.1)).Nodup) (x y : En) : behD ps x = encE y ↔ (x, y) ∈ ps := by
  unfold behD
  induction ps with
  | nil => simp [encE]
  | cons p ps ih =>
    rw [List.map_cons, List.nodup_cons] at hn
    rw [List.find?_cons]
    by_cases h : p.1 = x
    · rw [decide_eq_true h]
      show encE p.2 = encE y ↔ _
      rw [List.mem_cons]
      constructor
      · intro q
        refine .inl ?_
        rw [← encE_inj q, ← h]
      · rintro (q | q)
        · rw [← q]
        · exact (hn.1 (by rw [h]; exact List.mem_map.mpr ⟨_, q, rfl⟩)).elim
    · rw [decide_eq_false h]
      rw [List.mem_cons]
      refine (ih hn.2).trans ⟨.inr, fun q => q.resolve_left fun q => h (by rw [← q])⟩
/-! ### the keys are unlike -/
theorem zip_keys : ∀ st : List En, (st.zip st.tail).map (·.1) = st.dropLast
  | [] => rfl
  | [x] => rfl
  | x :: y :: st => by
    have ih := zip_keys (y :: st)
    simp only [List.tail_cons, List.zip_cons_cons, List.map_cons, List.dropLast_cons₂] at ih ⊢
    rw [ih]
theorem adj_keys (ring : Bool) (st : List En) : ((adj ring st).map (·.1)).Sublist st := by
  unfold adj
  rw [List.map_append, zip_keys]
  split
  · rename_i h
    have hne : st ≠ [] := by rintro rfl; simp at h
    rw [List.getLast?_eq_some_getLast hne]
    cases hh : st.head? with
    | none => simp; exact List.dropLast_sublist st
    | some y =>
      show (st.dropLast ++ [st.getLast hne]).Sublist st
      rw [List.dropLast_concat_getLast hne]
      exact .refl _
  · simp; exact List.dropLast_sublist st
theorem bh_keys (ring : Bool) : ∀ s : Sts, ((bh ring s).map (·.1)).Sublist s.flatten
  | [] => .refl _
  | st :: s => by
    show (((adj ring st) ++ bh ring s).map (·.1)).Sublist (st ++ s.flatten)
    rw [List.map_append]
    exact (adj_keys ring st).append (bh_keys ring s)
theorem bh_nodup {ring : Bool} {k : Nat} {d : Dr} (h : Valid k d) : ((bh ring d.1).map (·.1)).Nodup := (bh_keys ring d.1).nodup (h.perm.nodup_iff.mpr (ends_nodup _))
theorem adj_split (ring : Bool) (st : List En) : ∃ tl, adj ring st = st.zip st.tail ++ tl ∧ ((ring = true ∧ 1 < st.length ∧ ∃ (h : st ≠ []), tl = [(st.getLast h, st.head h)]) ∨ (¬ (ring = true ∧ 1 < st.length) ∧ tl = [])) := by
  refine ⟨_, rfl, ?_⟩
  split
  · rename_i h
    have hne : st ≠ [] := by rintro rfl; simp at h
    refine .inl ⟨h.1, h.2, hne, ?_⟩
    rw [List.getLast?_eq_some_getLast hne, List.head?_eq_some_head hne]
  · rename_i h
    exact .inr ⟨h, rfl⟩
theorem atI_neg1 {α : Type} {xs : List α} (h : xs ≠ []) : L2.atI xs (-1) = some (xs.getLast h) := by
  have hl : 0 < xs.length := List.length_pos_iff.mpr h
  unfold L2.atI L2.ixN
  rw [if_neg (by omega), if_pos (by omega), Option.bind_some, List.getLast_eq_getElem, show (-1 + (xs.length : Int)).toNat = xs.length - 1 by omega, List.getElem?_eq_getElem (by omega)]
theorem atI_zero {α : Type} {xs : List α} (h : xs ≠ []) : L2.atI xs 0 = some (xs.head h) := by
  cases xs with
  | nil => exact (h rfl).elim
  | cons x xs => simp
theorem bh_app (ring : Bool) (s t : Sts) : bh ring (s ++ t) = bh ring s ++ bh ring t := by
  unfold bh; rw [List.flatMap_append]
theorem zipL_enc (xs ys : List En) : zipL (xs.map encE) (ys.map encE) = (xs.zip ys).map fun p => PyData.tuple [encE p.1, encE p.2] := by
  unfold zipL
  rw [List.zip_map, List.map_map]
  rfl
theorem isRing (ring : Bool) : eqW (.d (.str (if ring = true then { cps := { toList := [114, 105, 110, 103] } } else { cps := { toList := [108, 105, 110, 101] } }))) (.d (.str { cps := { toList := [114, 105, 110, 103] } })) = some ring := by
  cases ring <;> decide +kernel
theorem k26 (l : Nat) (ring : Bool) (kk : Int) {k : Nat} {d : Dr} (h : Valid k d) (hk : k ≤ 3) : callAt F glob (l+1) 26 [(false, .d (encG ring kk)), (false, .d (encD d))] = some (.ok (dW (bh ring d.1)), [.d (encG ring kk), .d (encD d)]) := by
  have hnd := bh_nodup (ring := ring) h
  have hlen := valid_len h hk
  have hbl : (bh ring d.1).length ≤ 100 := by
    have h1 := (bh_keys ring d.1).length_le
    have h2 := h.perm.length_eq
    rw [ends_length] at h2
    rw [List.length_map] at h1
    have := h.most
    omega
  rw [C26 _ _ rfl]
  simp [b26, enterE]
  simp only [show encSts d.1 = PyData.tuple (d.1.map encS) from rfl, items_tuple]
  simp
  refine forL_elim (P := fun o => finK _ _ _ (sqK o _) = _) encS (fun rest env => ∃ (dn : List (List En)) (s3 s4 s5 : Slot), env = [.ok false (.d (encG ring kk)), .ok false (.d (encD d)), .ok false (dW (bh ring dn)), s3, s4, s5] ∧ Free s3 ∧ Free s4 ∧ Free s5 ∧ d.1 = dn ++ rest) ?_ ?_ ?_
  · exact ⟨[], .no, .no, .no, rfl, .no, .no, .no, rfl⟩
  · rintro st rest env ⟨dn, s3, s4, s5, rfl, f3, f4, f5, hd⟩
    obtain ⟨tl, ha, htl⟩ := adj_split ring st
    have hst : st.length ≤ 16 := hlen st (by rw [hd]; simp)
    have hall : bh ring d.1 = bh ring dn ++ (st.zip st.tail ++ tl ++ bh ring rest) := by
      rw [hd, bh_app, ← ha]
      rfl
    have hkeys : ∀ (a b : List (En × En)) (p : En × En), bh ring dn ++ (st.zip st.tail ++ tl) = a ++ p :: b → p.1 ∉ a.map (·.1) ∧ a.length < 1000 := by
      intro a b p e
      have e2 : bh ring d.1 = a ++ p :: (b ++ bh ring rest) := by
        rw [hall, ← List.append_assoc (bh ring dn), e]
        simp
      constructor
      · rw [e2, List.map_append, List.map_cons] at hnd
        intro q
        exact (List.nodup_append.mp hnd).2.2 _ q _ (by simp) rfl
      · rw [e2] at hbl
        simp at hbl
        omega
    show Goes _ _
    simp [setK2_free f3]
    simp only [show encS st = PyData.tuple (st.map encE) from rfl]
    simp
    rw [show cut (st.map encE) (some 1) none = st.tail.map encE from by rw [show (1 : Int) = ((1 : Nat) : Int) from rfl, cut_fromN, ← List.map_drop, List.drop_one]]
    rw [zipL_enc]
    refine forL_elim (P := fun o => Goes (ctK (sqK o _)) _) (fun p : En × En => PyData.tuple [encE p.1, encE p.2]) (fun rest' env => ∃ (dz : List (En × En)) (s4 s5 : Slot), env = [.ok false (.d (encG ring kk)), .ok false (.d (encD d)), .ok false (dW (bh ring dn ++ dz)), .ok false (.d (PyData.tuple (st.map encE))), s4, s5] ∧ Free s4 ∧ Free s5 ∧ st.zip st.tail = dz ++ rest') ?_ ?_ ?_
    · exact ⟨[], s4, s5, by rw [List.append_nil], f4, f5, rfl⟩
    · rintro ⟨x, y⟩ rest' env ⟨dz, s4, s5, rfl, f4, f5, hz⟩
      have hk2 := hkeys (bh ring dn ++ dz) (rest' ++ tl) (x, y) (by rw [hz]; simp)
      have e := stW_dW (y := y) hk2.1 hk2.2
      refine ⟨_, ?_, dz ++ [(x, y)], .ok false (.d (encE x)), .ok false (.d (encE y)), rfl, .ok _, .ok _, by rw [hz]; simp⟩
      simp [setK2_free f4, setK2_free f5, e]
    · rintro env ⟨dz, s4, s5, rfl, f4, f5, hz⟩
      rw [List.append_nil] at hz
      subst hz
      rcases htl with ⟨hr, hl1, hne, rfl⟩ | ⟨hno, rfl⟩
      · subst hr
        have hk2 := hkeys (bh true dn ++ st.zip st.tail) [] (st.getLast hne, st.head hne) (by simp)
        have e := stW_dW (y := st.head hne) hk2.1 hk2.2
        have hne' : st.map encE ≠ [] := by simpa using hne
        have e1 := atI_neg1 hne'
        have e2 := atI_zero hne'
        rw [List.getLast_map] at e1
        rw [List.head_map] at e2
        simp [encG, hl1, e1, e2, e, show ((1 : Int) < st.length) by omega]
        exact goes_nx ⟨dn ++ [st], _, _, _, by rw [bh_app]; show _ = [_, _, Slot.ok false (dW (bh true dn ++ (adj true st ++ []))), _, _, _]; rw [ha, List.append_nil, ← List.append_assoc], .ok _, f4, f5, by rw [hd]; simp⟩
      · have hcond : ∀ T, ev T ((E.cmp CmpOp.Eq ((E.var 0).idx (E.cst (PyData.int 0))) (E.glb { cps := { toList := [82, 73, 78, 71] } })).and (E.cmp CmpOp.Gt (E.bi BI.len ((E.var 3).cons E.nil)) (E.cst (PyData.int 1)))) [.ok false (.d (encG ring kk)), .ok false (.d (encD d)), .ok false (dW (bh ring dn ++ st.zip st.tail)), .ok false (.d (PyData.tuple (st.map encE))), s4, s5] = none ∨ True := fun _ => .inr trivial
        cases ring with
        | true =>
          have hl1 : ¬ (1 : Int) < st.length := fun q => hno ⟨rfl, by omega⟩
          simp [encG, hl1]
          exact goes_nx ⟨dn ++ [st], _, _, _, by rw [bh_app]; show _ = [_, _, Slot.ok false (dW (bh true dn ++ (adj true st ++ []))), _, _, _]; rw [ha]; first | rfl | (simp [encG]; done) | (simp [encG]; rfl), .ok _, f4, f5, by rw [hd]; simp⟩
        | false =>
          simp [encG]
          exact goes_nx ⟨dn ++ [st], _, _, _, by rw [bh_app]; show _ = [_, _, Slot.ok false (dW (bh false dn ++ (adj false st ++ []))), _, _, _]; rw [ha]; first | rfl | (simp [encG]; done) | (simp [encG]; rfl), .ok _, f4, f5, by rw [hd]; simp⟩
  · rintro env ⟨dn, s3, s4, s5, rfl, f3, f4, f5, hd⟩
    rw [List.append_nil] at hd
    subst hd
    simp
    rw [finK_rt (by rfl)]
    rfl
end Ev
end

section
set_option Elab.async false
set_option maxRecDepth 100000
set_option linter.all false
open PySem
namespace Ev
open Sh Ac
def nearP (ps : List (En × En)) (x y : En) : Bool := decide ((x, y) ∈ ps) || decide ((y, x) ∈ ps)
def wl (ps : List (En × En)) (x y : En) : List Int := (if (x, y) ∈ ps then [1] else []) ++ (if (y, x) ∈ ps then [-1] else [])
theorem cln_behD (ps : List (En × En)) (x : En) : cln 1 (behD ps x) = true := by
  unfold behD
  split
  · exact cln_encE 0 _
  · rfl
theorem eq_behD {ps : List (En × En)} (hn : (ps.map (·.1)).Nodup) (x y : En) : eqW (.d (behD ps x)) (.d (encE y)) = some (decide ((x, y) ∈ ps)) := by
  by_cases h : behD ps x = encE y
  · rw [h, eqW_self (n := 1) (cln_encE 0 y) (by omega), decide_eq_true ((behD_iff hn x y).mp h)]
  · rw [eqW_ne (n := 1) (m := 1) (cln_behD ps x) (cln_encE 0 y) (by omega) (by omega) h, decide_eq_false fun q => h ((behD_iff hn x y).mpr q)]
theorem meGet_dW2 (ps : List (En × En)) (x : En) : meGet (dW ps) [.d (encE x)] = some (dW ps, .d (behD ps x)) := meGet_dW ps x
theorem k27 (l : Nat) {ps : List (En × En)} (hn : (ps.map (·.1)).Nodup) (x y : En) : callAt F glob (l+1) 27 [(true, dW ps), (false, .d (encE x)), (false, .d (encE y))] = some (.ok (.lst ((wl ps x y).map fun i => W.d (.int i))), [dW ps, .d (encE x), .d (encE y)]) := by
  rw [C27 _ _ rfl]
  by_cases h1 : (x, y) ∈ ps <;> by_cases h2 : (y, x) ∈ ps <;> simp [b27, enterE, meGet_dW2, eq_behD hn, h1, h2, wl, addL] <;> (rw [finK_rt (by rfl)]; rfl)
theorem nearP_ne (ps : List (En × En)) (x y : En) : eqW (.lst ((wl ps x y).map fun i => W.d (.int i))) (.lst []) = some (!nearP ps x y) := by
  unfold wl nearP
  by_cases h1 : (x, y) ∈ ps <;> by_cases h2 : (y, x) ∈ ps <;> simp [h1, h2] <;> decide +kernel
theorem k28 (l : Nat) {ps : List (En × En)} (hn : (ps.map (·.1)).Nodup) (a : Int) : callAt F glob (l+2) 28 [(true, dW ps), (false, .d (.int a))] = some (.ok (.d (.bool (nearP ps (a, 1) (a, 0)))), [dW ps, .d (.int a)]) := by
  have e := k27 l hn (a, 1) (a, 0)
  rw [C28 _ _ rfl]
  simp [b28, enterE]
  simp only [encE_pair, e]
  simp [nearP_ne]
  rw [finK_rt (by rfl)]
  rfl
end Ev
end

section
set_option Elab.async false
set_option maxRecDepth 100000
set_option linter.all false
open PySem
namespace Ev
open Sh Ac
theorem idx_encI {xs : List Int} {a : Int} (o : R) (h0 : 0 ≤ a) (h1 : a < xs.length) : idx o (.d (encI xs)) (.d (.int a)) = some (.d (.int (Ac.sg xs a))) := by
  show (L2.atI (xs.map PyData.int) a).map R.d = _
  have hl : a.toNat < xs.length := by omega
  rw [atI_ok h0 (by simpa using h1), List.getElem?_map, List.getElem?_eq_getElem hl]
  unfold Ac.sg
  rw [List.getElem?_eq_getElem hl]
  rfl
theorem sg_one {xs : List Int} (h : ∀ x ∈ xs, x = 1 ∨ x = -1) {a : Int} (h0 : 0 ≤ a) (h1 : a < xs.length) : Ac.sg xs a = 1 ∨ Ac.sg xs a = -1 := by
  have hl : a.toNat < xs.length := by omega
  unfold Ac.sg
  rw [List.getElem?_eq_getElem hl]
  exact h _ (List.getElem_mem hl)
def twinP (ps : List (En × En)) (d : Dr) (a b : Int) : Bool := !decide (Ac.sg d.2 a = Ac.sg d.2 b) && (nearP ps (a, 1) (b, 1) && nearP ps (a, 0) (b, 0))
theorem k29 (l : Nat) {ps : List (En × En)} (hn : (ps.map (·.1)).Nodup) (d : Dr) (a b : Int) (ha : 0 ≤ a ∧ a < d.2.length) (hb : 0 ≤ b ∧ b < d.2.length) :
    callAt F glob (l+2) 29 [(false, .d (encD d)), (true, dW ps), (false, .d (.int a)), (false, .d (.int b))] = some (.ok (.d (.bool (twinP ps d a b))), [.d (encD d), dW ps, .d (.int a), .d (.int b)]) := by
  rw [C29 _ _ rfl]
  by_cases hs : Ac.sg d.2 a = Ac.sg d.2 b
  · simp [b29, enterE, idx_encI _ ha.1 ha.2, idx_encI _ hb.1 hb.2, hs]
    rw [finK_rt (by rfl)]
    simp [backs, twinP, hs]
  · simp [b29, enterE, idx_encI _ ha.1 ha.2, idx_encI _ hb.1 hb.2, hs]
    rw [ev_lcS, whileLk_no rfl]
    simp
    rw [show [PyData.int 1, .int 0] = ([1, 0] : List Int).map PyData.int from rfl, lcL_mapE (enc := PyData.int) (g := fun r : Int => W.d (.bool (nearP ps (a, r) (b, r))))]
    · simp [allB]
      rw [finK_rt (by rfl)]
      simp [backs, twinP, hs]
    · intro r hr
      have e := k27 l hn (a, r) (b, r)
      simp
      simp only [encE_pair, e]
      simp [nearP_ne]
    · simp
@[simp] theorem in_intsL (a : Int) (as : List Int) : inW (.d (.int a)) (.lst (as.map fun i => W.d (.int i))) = some (decide (a ∈ as)) := by
  rw [← in_ints]
  show (match seqOrTup (.lst (as.map fun i => W.d (.int i))) with | some xs => if fair (.int a) && xs.all fair then some (xs.any fun z => PyData.eqv z (.int a)) else none | none => none) = _
  rw [show seqOrTup (.lst (as.map fun i => W.d (.int i))) = some (as.map PyData.int) from by
    show allD _ = _
    exact allD_mapf _ _]
  rfl
theorem mul_ok (i j : Int) (h : j = 1 ∨ j = -1) : binop .Mult (.d (.int i)) (.d (.int j)) = some (.d (.int (i * j))) := by
  show (binI .Mult i j).map _ = _
  rw [binI_mul _ _ (.inr ⟨by omega, by omega⟩)]
  rfl
@[simp] theorem tupK2_lst3 (T : Tb) (env : Env) (es : E) (x y z : D) : tupK2 T es (.lst [.d x, .d y, .d z]) env = asg T es [.d x, .d y, .d z] env := rfl
theorem k30 (l : Nat) {ps : List (En × En)} (hn : (ps.map (·.1)).Nodup) {d : Dr} (hs : ∀ x ∈ d.2, x = 1 ∨ x = -1) (a b c : Int) (ha : 0 ≤ a ∧ a < d.2.length) (hb : 0 ≤ b ∧ b < d.2.length) (hc : 0 ≤ c ∧ c < d.2.length) :
    ∃ bo : Bool, callAt F glob (l+2) 30 [(false, .d (encD d)), (true, dW ps), (false, .d (.tuple [.int a, .int b, .int c]))] = some (.ok (.d (.bool bo)), [.d (encD d), dW ps, .d (.tuple [.int a, .int b, .int c])]) := by
  refine ⟨(wl ps (b, 0) (c, 0)).any fun w => decide (w * Ac.sg d.2 b ∈ (wl ps (a, 0) (c, 1)).map fun w => w * Ac.sg d.2 a) && decide (w * Ac.sg d.2 b ∈ (wl ps (a, 1) (b, 1)).map fun w => w * Ac.sg d.2 a * Ac.sg d.2 b * Ac.sg d.2 c), ?_⟩
  have e1 := k27 l hn (a, 1) (b, 1)
  have e2 := k27 l hn (a, 0) (c, 1)
  have e3 := k27 l hn (b, 0) (c, 0)
  have sa := sg_one hs ha.1 ha.2
  have sb := sg_one hs hb.1 hb.2
  have sc := sg_one hs hc.1 hc.2
  rw [C30 _ _ rfl]
  simp [b30, enterE]
  rw [ev_lcS, whileLk_no rfl]
  simp
  rw [show [PyData.int a, .int b, .int c] = ([a, b, c] : List Int).map PyData.int from rfl, lcL_mapE (enc := PyData.int) (g := fun r : Int => W.d (.int (Ac.sg d.2 r)))]
  rotate_left
  · intro r hr
    have : 0 ≤ r ∧ r < d.2.length := by
      simp at hr
      rcases hr with rfl | rfl | rfl <;> assumption
    simp [idx_encI _ this.1 this.2]
  · simp
  simp
  simp only [encE_pair, e1, e2, e3]
  simp
  simp only [encE_pair, e1, e2, e3]
  simp
  simp only [encE_pair, e1, e2, e3]
  simp
  have wlen : ∀ x y, (wl ps x y).length ≤ 2 := fun x y => by unfold wl; split <;> split <;> simp
  rw [ev_lcS, whileLk_no rfl]
  simp
  rw [lcL_mapE (enc := PyData.int) (g := fun w : Int => W.d (.int (w * Ac.sg d.2 a)))]
  rotate_left
  · intro w hw
    simp [mul_ok _ _ sa]
  · have := wlen (a, 0) (c, 1)
    simp; omega
  simp
  rw [ev_lcS, whileLk_no rfl]
  simp
  rw [lcL_mapE (enc := PyData.int) (g := fun w : Int => W.d (.int (w * Ac.sg d.2 a * Ac.sg d.2 b * Ac.sg d.2 c)))]
  rotate_left
  · intro w hw
    simp [mul_ok _ _ sa, mul_ok _ _ sb, mul_ok _ _ sc]
  · have := wlen (a, 1) (b, 1)
    simp; omega
  simp
  rw [ev_lcS, whileLk_no rfl]
  simp
  have i1 : ∀ (v : Int) (f : Int → Int) (xs : List Int), inW (.d (.int v)) (.lst (xs.map fun w => W.d (.int (f w)))) = some (decide (v ∈ xs.map f)) := fun v f xs => by
    rw [← in_intsL, List.map_map]
    rfl
  rw [lcL_mapE (enc := PyData.int) (g := fun w : Int => W.d (.bool (decide (w * Ac.sg d.2 b ∈ (wl ps (a, 0) (c, 1)).map fun w => w * Ac.sg d.2 a) && decide (w * Ac.sg d.2 b ∈ (wl ps (a, 1) (b, 1)).map fun w => w * Ac.sg d.2 a * Ac.sg d.2 b * Ac.sg d.2 c))))]
  rotate_left
  · intro w hw
    by_cases q : ∃ a_1, a_1 ∈ wl ps (a, 0) (c, 1) ∧ a_1 * Ac.sg d.2 a = w * Ac.sg d.2 b
    · simp [mul_ok _ _ sb, i1, q]
    · simp [mul_ok _ _ sb, i1, q]
  · have := wlen (b, 0) (c, 0)
    simp; omega
  simp
  rw [finK_rt (by rfl)]
  simp [backs]
end Ev
end

section
set_option Elab.async false
set_option maxRecDepth 100000
set_option linter.all false
open PySem
namespace Ev
open Sh Ac
theorem lcL_filtA {env : Env} {own : List Nat} {as : D → M Unit} {c : M Bool} {el : M W} {κ : Type} (enc : κ → D) (p : κ → Bool) (g : κ → W) : ∀ (bs : List κ) (acc : List W), (∀ b ∈ bs, turnL own as c el (enc b) env = some (.ok (if p b = true then some (g b) else none), env)) → acc.length + bs.length ≤ big →
    lcL own as c el (bs.map enc) acc env = some (.ok (acc ++ (bs.filter p).map g), env)
  | [], acc, _, _ => by simp [lcL]
  | b :: bs, acc, h, hb => by
    simp only [List.length_cons] at hb
    rw [List.map_cons, lcL_cons, h b (by simp)]
    cases hp : p b with
    | true =>
      show (if acc.length < big then lcL own as c el (bs.map enc) (acc ++ [g b]) env else none) = _
      rw [if_pos (by omega), lcL_filtA enc p g bs (acc ++ [g b]) (fun x hx => h x (by simp [hx])) (by rw [List.length_append, List.length_singleton]; omega), List.filter_cons, if_pos hp]
      simp
    | false =>
      show lcL own as c el (bs.map enc) acc env = _
      rw [lcL_filtA enc p g bs acc (fun x hx => h x (by simp [hx])) (by omega), List.filter_cons, if_neg (by rw [hp]; simp)]
theorem lcL_filtE {env : Env} {own : List Nat} {as : D → M Unit} {c : M Bool} {el : M W} {κ : Type} (enc : κ → D) (p : κ → Bool) (g : κ → W) (bs : List κ) (h : ∀ b ∈ bs, turnL own as c el (enc b) env = some (.ok (if p b = true then some (g b) else none), env)) (hb : bs.length ≤ big) :
    lcL own as c el (bs.map enc) [] env = some (.ok ((bs.filter p).map g), env) := by
  rw [lcL_filtA enc p g bs [] h (by simpa using hb)]; simp
@[simp] theorem g_ONE : glob { cps := { toList := [79, 78, 69] } } = some (.str { cps := { toList := [111, 110, 101] } }) := by kernel_rfl
@[simp] theorem g_TWO : glob { cps := { toList := [84, 87, 79] } } = some (.str { cps := { toList := [116, 119, 111] } }) := by kernel_rfl
@[simp] theorem g_THREE : glob { cps := { toList := [84, 72, 82, 69, 69] } } = some (.str { cps := { toList := [116, 104, 114, 101, 101] } }) := by kernel_rfl
abbrev I3 := Int × Int × Int
def enc3 (t : I3) : D := .tuple [.int t.1, .int t.2.1, .int t.2.2]
def encM3 (t : I3) : D := .tuple [.str { cps := { toList := [116, 104, 114, 101, 101] } }, .int t.1, .int t.2.1, .int t.2.2]
theorem numL_length (n : Nat) : (numL n).length = n := by simp [numL]
theorem frzs_num (n : Nat) : frzs ((List.range n).map (W.d ∘ fun (i : Nat) => PyData.int (i : Int))) = some ((numL n).map PyData.int) := by
  rw [← List.map_map, numL_enc]
  exact frzs_map _
theorem in2 (a b c : Int) : inW (.d (.int c)) (.d (.tuple [.int a, .int b])) = some (decide (c = a ∨ c = b)) := by
  have := in_ints c [a, b]
  simpa using this
theorem k30f (l : Nat) {ps : List (En × En)} (hn : (ps.map (·.1)).Nodup) {d : Dr} (hs : ∀ x ∈ d.2, x = 1 ∨ x = -1) (a b : Int) (ha : 0 ≤ a ∧ a < d.2.length) (hb : 0 ≤ b ∧ b < d.2.length) :
    ∃ p : Int → Bool, ∀ c : Int, 0 ≤ c ∧ c < d.2.length → callAt F glob (l+2) 30 [(false, .d (encD d)), (true, dW ps), (false, .d (.tuple [.int a, .int b, .int c]))] = some (.ok (.d (.bool (p c))), [.d (encD d), dW ps, .d (.tuple [.int a, .int b, .int c])]) := by
  refine ⟨fun c => if h : 0 ≤ c ∧ c < d.2.length then (k30 l hn hs a b c ha hb h).choose else false, fun c h => ?_⟩
  dsimp only
  rw [dif_pos h]
  exact (k30 l hn hs a b c ha hb h).choose_spec
theorem meExt_f {κ : Type} (ws : List W) (gl : List κ) (f : κ → D) : meExt (.lst ws) [.lst (gl.map fun c => W.d (f c))] = if ws.length + gl.length ≤ big then some (.lst (ws ++ gl.map fun c => W.d (f c)), .d .none) else none := by
  show (match seqD (.lst (gl.map fun c => W.d (f c))) with | some xs => if ws.length + xs.length ≤ big then some (W.lst (ws ++ xs.map W.d), W.d PyData.none) else none | none => none) = _
  rw [show seqD (.lst (gl.map fun c => W.d (f c))) = some (gl.map f) from allD_mapf f gl]
  show (if ws.length + (gl.map f).length ≤ big then _ else none) = _
  rw [List.length_map, List.map_map]
  rfl
theorem k31 (l : Nat) {ps : List (En × En)} (hn : (ps.map (·.1)).Nodup) {d : Dr} (hs : ∀ x ∈ d.2, x = 1 ∨ x = -1) (hm : d.2.length ≤ 8) :
    ∃ ts : List I3, ts.length ≤ 512 ∧ callAt F glob (l+3) 31 [(false, .d (encD d)), (true, dW ps)] = some (.ok (.lst (ts.map fun t => W.d (encM3 t))), [.d (encD d), dW ps]) := by
  have hg : Gives (callAt F glob (l+3) 31 [(false, .d (encD d)), (true, dW ps)]) fun w ws => ∃ ts : List I3, ts.length ≤ 512 ∧ w = .lst (ts.map fun t => W.d (encM3 t)) ∧ ws = [.d (encD d), dW ps] := by
    rw [C31 _ _ rfl]
    simp [b31, enterE, c7, show ((d.2.length : Nat) : Int) ≤ 1000000 by omega, rngD_map]
    simp [frzs_num]
    refine forL_elim (P := fun o => Gives (finK _ _ _ (sqK o _)) _) PyData.int (fun rest env => ∃ (dn : List Int) (fd : List I3) (s4 s5 s6 : Slot), env = [.ok false (.d (encD d)), .ok true (dW ps), .ok false (.d (.list ((numL d.2.length).map PyData.int))), .ok false (.lst (fd.map fun t => W.d (enc3 t))), s4, s5, s6, .no, .no] ∧ Free s4 ∧ Free s5 ∧ Free s6 ∧ numL d.2.length = dn ++ rest ∧ fd.length + 64 * rest.length ≤ 512) ?_ ?_ ?_
    · exact ⟨[], [], .no, .no, .no, rfl, .no, .no, .no, rfl, by rw [numL_length]; simp; omega⟩
    · rintro a rest env ⟨dn, fd, s4, s5, s6, rfl, f4, f5, f6, hd, hfd⟩
      have ha : 0 ≤ a ∧ a < d.2.length := mem_numL.mp (by rw [hd]; simp)
      show Goes _ _
      simp [setK2_free f4]
      refine forL_elim (P := fun o => Goes (ctK (sqK o _)) _) PyData.int (fun rest' env => ∃ (dn' : List Int) (fd : List I3) (s5 s6 : Slot), env = [.ok false (.d (encD d)), .ok true (dW ps), .ok false (.d (.list ((numL d.2.length).map PyData.int))), .ok false (.lst (fd.map fun t => W.d (enc3 t))), .ok false (.d (.int a)), s5, s6, .no, .no] ∧ Free s5 ∧ Free s6 ∧ numL d.2.length = dn' ++ rest' ∧ fd.length + 8 * rest'.length + 64 * rest.length ≤ 512) ?_ ?_ ?_
      · exact ⟨[], fd, s5, s6, rfl, f5, f6, rfl, by rw [numL_length]; simp at hfd; omega⟩
      · rintro b rest' env ⟨dn', fd, s5, s6, rfl, f5, f6, hd', hfd'⟩
        have hb : 0 ≤ b ∧ b < d.2.length := mem_numL.mp (by rw [hd']; simp)
        have e27 := k27 (l + 1) hn (a, 1) (b, 1)
        simp at hfd'
        show Goes _ _
        by_cases hab : a = b
        · simp [setK2_free f5, hab]
          exact goes_nx ⟨dn' ++ [b], fd, .ok false (.d (.int b)), s6, rfl, .ok _, f6, by rw [hd']; simp, by omega⟩
        · simp [setK2_free f5, hab]
          simp only [encE_pair, e27]
          simp [nearP_ne]
          cases hne : nearP ps (a, 1) (b, 1) with
          | false =>
            simp
            exact goes_nx ⟨dn' ++ [b], fd, .ok false (.d (.int b)), s6, rfl, .ok _, f6, by rw [hd']; simp, by omega⟩
          | true =>
            obtain ⟨p, hp⟩ := k30f l hn hs a b ha hb
            simp
            rw [ev_lcS, whileLk_no rfl]
            simp
            rw [lcL_filtE (enc := PyData.int) (p := fun c => !decide (c = a ∨ c = b)) (g := fun c => W.d (.int c))]
            rotate_left
            · intro c hc
              by_cases h : c = a ∨ c = b
              · simp [cnW, E.isNil, in2, h]
              · simp [cnW, E.isNil, in2, h]
            · rw [numL_length]; exact Nat.le_trans hm (by decide)
            have hfl1 : ((numL d.2.length).filter fun c => !decide (c = a ∨ c = b)).length ≤ 8 := by
              refine Nat.le_trans (List.length_filter_le _ _) ?_
              rw [numL_length]; exact hm
            have hfl2 : ∀ c ∈ (numL d.2.length).filter fun c => !decide (c = a ∨ c = b), c ∈ numL d.2.length := fun c hc => (List.mem_filter.mp hc).1
            generalize ((numL d.2.length).filter fun c => !decide (c = a ∨ c = b)) = fl at hfl1 hfl2
            simp [setK2_free f6]
            rw [ev_lcS, whileLk_no rfl]
            simp
            rw [lcL_filtE (enc := PyData.int) (p := p) (g := fun c => W.d (enc3 (a, b, c)))]
            rotate_left
            · intro c hc
              have hc' := hp c (mem_numL.mp (hfl2 c hc))
              cases hpc : p c <;> simp [cnW, E.isNil, hc', hpc, enc3]
            · exact Nat.le_trans hfl1 (by decide)
            have hgl : (fl.filter p).length ≤ 8 := Nat.le_trans (List.length_filter_le _ _) hfl1
            generalize fl.filter p = gl at hgl
            simp [meExt_f, show fd.length + gl.length ≤ 1000000 by omega]
            refine goes_nx ⟨dn' ++ [b], fd ++ gl.map (fun c => (a, b, c)), .ok false (.d (.int b)), .ok false (.d (.list (fl.map PyData.int))), ?_, .ok _, .ok _, by rw [hd']; simp, by simp; omega⟩
            · simp [Function.comp_def]
      · rintro env ⟨dn', fd, s5, s6, rfl, f5, f6, hd', hfd'⟩
        simp at hfd'
        exact goes_nx ⟨dn ++ [a], fd, _, s5, s6, rfl, .ok _, f5, f6, by rw [hd]; simp, by omega⟩
    · rintro env ⟨dn, fd, s4, s5, s6, rfl, f4, f5, f6, hd, hfd⟩
      simp at hfd
      simp
      rw [ev_lcS, whileLk_no rfl]
      simp
      rw [lcL_mapE (enc := enc3) (g := fun t => W.d (encM3 t))]
      · simp
        exact gives_rt (by rfl) ⟨fd, hfd, rfl, rfl⟩
      · intro t ht
        simp [enc3, encM3]
      · exact Nat.le_trans hfd (by decide)
  obtain ⟨w, ws, e, ts, h1, rfl, rfl⟩ := hg
  exact ⟨ts, h1, e⟩
end Ev
end

section
set_option Elab.async false
set_option maxRecDepth 100000
set_option linter.all false
open PySem
namespace Ev
open Sh Ac
open PySem.W (alike alikeAll dataLt dataLe)
theorem lay_all : ∀ {xs : List D}, (∀ x ∈ xs, x.canLay0 = true) → PyData.canLayAll0 xs = true
  | [], _ => rfl
  | x :: xs, h => by
    rw [PyData.canLayAll0, h x (by simp), lay_all fun y hy => h y (by simp [hy])]
    rfl
theorem depth_all {n : Nat} : ∀ {xs : List D}, (∀ x ∈ xs, x.depth ≤ n) → PyData.depthAll xs ≤ n
  | [], _ => by rw [PyData.depthAll]; omega
  | x :: xs, h => by
    rw [PyData.depthAll]
    have h1 := h x (by simp)
    have h2 := depth_all (xs := xs) fun y hy => h y (by simp [hy])
    omega
theorem bi_sortL {n : Nat} (hn : n ≤ 60) {xs : List D} (al : ∀ x ∈ xs, ∀ y ∈ xs, alike x y = true) (cl : ∀ x ∈ xs, cln n x = true) (ne : ∀ x ∈ xs, tupNE x = true) (hl : xs.length ≤ big) : ∃ rs : List D, rs.Perm xs ∧ biW .sorted [.lst (xs.map .d)] = some (.lst (rs.map .d)) := by
  refine ⟨xs.mergeSort (dataLe false id), List.mergeSort_perm _ _, ?_⟩
  show (match seqD (.lst (xs.map .d)) with
    | some xs => if alikes xs && PyData.canLayAll0 xs && decide (PyData.depthAll xs ≤ 60) && sortOk xs && decide (xs.length ≤ big) then some (W.lst ((xs.mergeSort (dataLe false id)).map W.d)) else none
    | none => none) = _
  rw [show seqD (.lst (xs.map .d)) = some xs from allD_map' xs]
  simp only
  rw [if_pos]
  simp only [Bool.and_eq_true, decide_eq_true_eq]
  refine ⟨⟨⟨⟨?_, ?_⟩, ?_⟩, ?_⟩, hl⟩
  · unfold alikes
    rw [List.all_eq_true]
    intro x hx
    rw [List.all_eq_true]
    exact fun y hy => al x hx y hy
  · exact lay_all fun x hx => (cln_ok (cl x hx)).1
  · exact Nat.le_trans (depth_all fun x hx => (cln_ok (cl x hx)).2) hn
  · unfold sortOk
    rw [Bool.or_eq_true]
    exact .inl (List.all_eq_true.mpr ne)
/-- a move: its kind, its arrows -/
def mvD (s : Str) (is : List Int) : D := .tuple (.str s :: is.map .int)
abbrev sOne : Str := { cps := { toList := [111, 110, 101] } }
abbrev sTwo : Str := { cps := { toList := [116, 119, 111] } }
abbrev sThree : Str := { cps := { toList := [116, 104, 114, 101, 101] } }
theorem alike_mv (s s' : Str) (is is' : List Int) : alike (mvD s is) (mvD s' is') = true := by
  show alikeAll (.str s :: is.map .int) (.str s' :: is'.map .int) = true
  rw [alikeAll, PySem.W.alike_ints]
  rfl
theorem cln_mv {s : Str} (h : PyData.canLay0 (.str s) = true) (is : List Int) : cln 1 (mvD s is) = true := by
  show (PyData.str s :: is.map .int).all (cln 0) = true
  rw [List.all_cons]
  show (PyData.canLay0 (.str s) && _) = true
  rw [h, List.all_map, Bool.true_and, List.all_eq_true]
  exact fun x _ => rfl
theorem mv_three (t : I3) : encM3 t = mvD sThree [t.1, t.2.1, t.2.2] := rfl
/-- the moves, in any order -/
def mvs (ring : Bool) (d : Dr) (ts : List I3) : List D := (mv1 ring d).map (fun a => mvD sOne [a]) ++ (mv2 ring d).map (fun p => mvD sTwo [p.1, p.2]) ++ ts.map encM3
theorem mvs_of {ring : Bool} {d : Dr} {ts : List I3} {x : D} (h : x ∈ mvs ring d ts) : ∃ s is, x = mvD s is ∧ (s = sOne ∨ s = sTwo ∨ s = sThree) := by
  unfold mvs at h
  rw [List.mem_append, List.mem_append] at h
  rcases h with (h | h) | h
  · obtain ⟨a, _, rfl⟩ := List.mem_map.mp h; exact ⟨_, _, rfl, .inl rfl⟩
  · obtain ⟨a, _, rfl⟩ := List.mem_map.mp h; exact ⟨_, _, rfl, .inr (.inl rfl)⟩
  · obtain ⟨a, _, rfl⟩ := List.mem_map.mp h; exact ⟨_, _, mv_three a, .inr (.inr rfl)⟩
theorem lay_kinds {s : Str} (h : s = sOne ∨ s = sTwo ∨ s = sThree) : PyData.canLay0 (.str s) = true := by
  rcases h with rfl | rfl | rfl <;> decide +kernel
theorem mvs_sort {ring : Bool} {d : Dr} {ts : List I3} (hl : (mvs ring d ts).length ≤ big) : ∃ rs : List D, rs.Perm (mvs ring d ts) ∧ biW .sorted [.lst ((mvs ring d ts).map .d)] = some (.lst (rs.map .d)) := by
  refine bi_sortL (n := 1) (by omega) (fun x hx y hy => ?_) (fun x hx => ?_) (fun x hx => ?_) hl
  · obtain ⟨s, is, rfl, _⟩ := mvs_of hx
    obtain ⟨s', is', rfl, _⟩ := mvs_of hy
    exact alike_mv _ _ _ _
  · obtain ⟨s, is, rfl, h⟩ := mvs_of hx
    exact cln_mv (lay_kinds h) _
  · obtain ⟨s, is, rfl, h⟩ := mvs_of hx
    rfl
/-! ### kinds -/
def hdS : D → Str
  | .tuple (.str s :: _) => s
  | _ => sOne
theorem kinds_count {ring : Bool} {d : Dr} {ts : List I3} {rs : List D} (h : rs.Perm (mvs ring d ts)) : (rs.filter fun x => decide (hdS x = sOne)).length = (mv1 ring d).length ∧ (rs.filter fun x => decide (hdS x = sTwo)).length = (mv2 ring d).length := by
  have h12 : sOne ≠ sTwo := by decide
  have h13 : sThree ≠ sOne := by decide
  have h23 : sThree ≠ sTwo := by decide
  have f1 : ∀ (l : List Int) (k : Str), ((l.map fun a => mvD sOne [a]).filter fun x => decide (hdS x = k)).length = if k = sOne then l.length else 0 := by
    intro l k
    induction l with
    | nil => simp
    | cons a l ih =>
      rw [List.map_cons, List.filter_cons]
      show (if decide (sOne = k) = true then _ else _ : List D).length = _
      by_cases hk : k = sOne
      · subst hk; simp at ih ⊢; exact ih
      · rw [if_neg (by simpa using fun q => hk q.symm), ih, if_neg hk, if_neg hk]
  have f2 : ∀ (l : List (Int × Int)) (k : Str), ((l.map fun p => mvD sTwo [p.1, p.2]).filter fun x => decide (hdS x = k)).length = if k = sTwo then l.length else 0 := by
    intro l k
    induction l with
    | nil => simp
    | cons a l ih =>
      rw [List.map_cons, List.filter_cons]
      show (if decide (sTwo = k) = true then _ else _ : List D).length = _
      by_cases hk : k = sTwo
      · subst hk; simp at ih ⊢; exact ih
      · rw [if_neg (by simpa using fun q => hk q.symm), ih, if_neg hk, if_neg hk]
  have f3 : ∀ (l : List I3) (k : Str), k ≠ sThree → ((l.map encM3).filter fun x => decide (hdS x = k)).length = 0 := by
    intro l k hk
    induction l with
    | nil => simp
    | cons a l ih =>
      rw [List.map_cons, List.filter_cons]
      show (if decide (sThree = k) = true then _ else _ : List D).length = _
      rw [if_neg (by simpa using fun q => hk q.symm), ih]
  constructor
  · rw [(h.filter _).length_eq]
    unfold mvs
    rw [List.filter_append, List.filter_append, List.length_append, List.length_append, f1, f2, f3 _ _ (Ne.symm h13), if_pos rfl, if_neg h12]
    omega
  · rw [(h.filter _).length_eq]
    unfold mvs
    rw [List.filter_append, List.filter_append, List.length_append, List.length_append, f1, f2, f3 _ _ (Ne.symm h23), if_pos rfl, if_neg (Ne.symm h12)]
    omega
end Ev
end

section
set_option Elab.async false
set_option maxRecDepth 100000
set_option linter.all false
open PySem
namespace Ev
open Sh Ac
theorem nearP_eq (ring : Bool) (d : Dr) (x y : En) : nearP (bh ring d.1) x y = near ring d.1 x y := rfl
theorem twinP_eq (ring : Bool) (d : Dr) (a b : Int) : twinP (bh ring d.1) d a b = twin ring d a b := by
  unfold twinP twin
  rw [nearP_eq, nearP_eq, Bool.and_comm (near ring d.1 (a, 1) (b, 1))]
theorem allD_num' (n : Nat) : (List.range n).map (W.d ∘ fun (i : Nat) => PyData.int (i : Int)) = (numL n).map fun i => W.d (.int i) := by
  unfold numL
  rw [List.map_map]
  rfl
@[simp] theorem slc_dlist (xs : List D) (lo hi : Option Int) : slc (.d (.list xs)) lo hi = some (.lst ((cut xs lo hi).map .d)) := rfl
theorem bin_addL {xs ys : List D} (h : xs.length + ys.length ≤ 1000000) : binop .Add (.lst (xs.map .d)) (.lst (ys.map .d)) = some (.lst ((xs ++ ys).map .d)) := by
  show (match Operator.Add, seqD (.lst (xs.map .d)), seqD (.lst (ys.map .d)) with
    | .Add, some xs, some ys => addL xs ys
    | _, _, _ => none) = _
  rw [show seqD (.lst (xs.map .d)) = some xs from allD_map' xs, show seqD (.lst (ys.map .d)) = some ys from allD_map' ys]
  show (if xs.length + ys.length ≤ big then some (W.lst ((xs ++ ys).map .d)) else none) = _
  rw [if_pos h]
def tw (ring : Bool) (d : Dr) (a : Int) : List (Int × Int) := (((numL d.2.length).drop (a + 1).toNat).filter (twin ring d a)).map fun b => (a, b)
theorem tw_len (ring : Bool) {d : Dr} (hm : d.2.length ≤ 8) (a : Int) : (tw ring d a).length ≤ 8 := by
  unfold tw
  rw [List.length_map]
  refine Nat.le_trans (List.length_filter_le _ _) ?_
  rw [List.length_drop, numL_length]
  omega
theorem mv1_len (ring : Bool) {d : Dr} (hm : d.2.length ≤ 8) : (mv1 ring d).length ≤ 8 := by
  unfold mv1
  refine Nat.le_trans (List.length_filter_le _ _) ?_
  rw [numL_length]
  omega
theorem k32 (l : Nat) (ring : Bool) (kk : Int) {k : Nat} {d : Dr} (h : Valid k d) (hk : k ≤ 3) : ∃ (ts : List I3) (rs : List D), ts.length ≤ 512 ∧ rs.Perm (mvs ring d ts) ∧ callAt F glob (l+4) 32 [(false, .d (encG ring kk)), (false, .d (encD d))] = some (.ok (.lst (rs.map .d)), [.d (encG ring kk), .d (encD d)]) := by
  have hm := h.most
  have hnd := bh_nodup (ring := ring) h
  have e26 := k26 (l + 2) ring kk h hk
  obtain ⟨ts, hts, e31⟩ := k31 l hnd h.sgn hm
  refine ⟨ts, ?_⟩
  have hg : Gives (callAt F glob (l+4) 32 [(false, .d (encG ring kk)), (false, .d (encD d))]) fun w ws => ∃ rs : List D, rs.Perm (mvs ring d ts) ∧ w = .lst (rs.map .d) ∧ ws = [.d (encG ring kk), .d (encD d)] := by
    rw [C32 _ _ rfl]
    simp [b32, enterE, e26, c7, show ((d.2.length : Nat) : Int) ≤ 1000000 by omega, rngD_map]
    rw [allD_num']
    rw [ev_lcS, whileLk_no rfl]
    simp
    rw [lcL_filtE (enc := PyData.int) (p := lone ring d) (g := fun a => W.d (mvD sOne [a]))]
    rotate_left
    · intro a ha
      have e28 := k28 (l + 1) hnd a
      rw [nearP_eq] at e28
      have e28' : callAt F glob (l + 3) 28 [(true, dW (bh ring d.1)), (false, .d (.int a))] = some (.ok (.d (.bool (lone ring d a))), [dW (bh ring d.1), .d (.int a)]) := e28
      cases hlo : lone ring d a <;> simp [cnW, E.isNil, e28', hlo, mvD]
    · rw [numL_length]; exact Nat.le_trans hm (by decide)
    simp
    refine forL_elim (P := fun o => Gives (finK _ _ _ (sqK o _)) _) PyData.int (fun rest env => ∃ (dn : List Int) (s5 : Slot), env = [.ok false (.d (encG ring kk)), .ok false (.d (encD d)), .ok false (dW (bh ring d.1)), .ok false (.d (.list ((numL d.2.length).map PyData.int))), .ok false (.lst ((mv1 ring d).map (fun a => W.d (mvD sOne [a])) ++ (dn.flatMap (tw ring d)).map fun p => W.d (mvD sTwo [p.1, p.2]))), s5, .no, .no, .no] ∧ Free s5 ∧ numL d.2.length = dn ++ rest ∧ (dn.map fun a => (tw ring d a).length).sum + 8 * rest.length ≤ 64) ?_ ?_ ?_
    · exact ⟨[], .no, by simp [mv1], .no, rfl, by rw [numL_length]; simp; omega⟩
    · rintro a rest env ⟨dn, s5, rfl, f5, hd, hsz⟩
      have ha : 0 ≤ a ∧ a < d.2.length := mem_numL.mp (by rw [hd]; simp)
      have h1 := mv1_len ring hm
      have h2 := tw_len ring hm a
      simp only [List.length_cons] at hsz
      show Goes _ _
      simp [setK2_free f5]
      rw [ev_lcS, whileLk_no rfl]
      simp
      rw [cut_from _ (by omega), ← List.map_drop]
      rw [lcL_filtE (enc := PyData.int) (p := twin ring d a) (g := fun b => W.d (mvD sTwo [a, b]))]
      rotate_left
      · intro b hb
        have hb' := mem_numL.mp (List.mem_of_mem_drop hb)
        have e29 := k29 (l + 1) hnd d a b ha hb'
        rw [twinP_eq] at e29
        have e29' : callAt F glob (l + 3) 29 [(false, .d (encD d)), (true, dW (bh ring d.1)), (false, .d (.int a)), (false, .d (.int b))] = some (.ok (.d (.bool (twin ring d a b))), [.d (encD d), dW (bh ring d.1), .d (.int a), .d (.int b)]) := e29
        cases hlo : twin ring d a b <;> simp [cnW, E.isNil, e29', hlo, mvD]
      · rw [List.length_drop, numL_length]; exact Nat.le_trans (by omega) (show (8 : Nat) ≤ big by decide)
      have h3 : (((numL d.2.length).drop (a + 1).toNat).filter (twin ring d a)).length ≤ 8 := by
        unfold tw at h2
        rw [List.length_map] at h2
        exact h2
      have h4 : ∀ (ws : List W), (((numL d.2.length).drop (a + 1).toNat).filter (twin ring d a)).map (fun b => W.d (mvD sTwo [a, b])) = (tw ring d a).map (fun p => W.d (mvD sTwo [p.1, p.2])) := fun _ => by
        unfold tw
        rw [List.map_map]
        rfl
      rw [h4 []]
      simp [meExt_f, show (mv1 ring d).length + (dn.map fun a => (tw ring d a).length).sum + (tw ring d a).length ≤ 1000000 by omega]
      exact goes_nx ⟨dn ++ [a], .ok false (.d (.int a)), by simp, .ok _, by rw [hd]; simp, by simp; omega⟩
    · rintro env ⟨dn, s5, rfl, f5, hd, hsz⟩
      rw [List.append_nil] at hd
      subst hd
      have h1 := mv1_len ring hm
      have hA : (mv1 ring d).map (fun a => W.d (mvD sOne [a])) ++ ((numL d.2.length).flatMap (tw ring d)).map (fun p => W.d (mvD sTwo [p.1, p.2])) = ((mv1 ring d).map (fun a => mvD sOne [a]) ++ (mv2 ring d).map (fun p => mvD sTwo [p.1, p.2])).map W.d := by
        rw [List.map_append, List.map_map, List.map_map]
        rfl
      have hB : ts.map (fun t => W.d (encM3 t)) = (ts.map encM3).map W.d := by rw [List.map_map]; rfl
      have hl2 : (mv2 ring d).length ≤ 64 := by
        show ((numL d.2.length).flatMap (tw ring d)).length ≤ 64
        rw [List.length_flatMap]
        simpa using hsz
      rw [hA]
      rw [hB] at e31
      have hadd := bin_addL (xs := (mv1 ring d).map (fun a => mvD sOne [a]) ++ (mv2 ring d).map (fun p => mvD sTwo [p.1, p.2])) (ys := ts.map encM3) (by simp; omega)
      obtain ⟨rs, hp, hs⟩ := mvs_sort (ring := ring) (d := d) (ts := ts) (by unfold mvs; simp; omega)
      generalize hX : ((mv1 ring d).map (fun a => mvD sOne [a]) ++ (mv2 ring d).map (fun p => mvD sTwo [p.1, p.2])) = xs at hadd ⊢
      have hm : xs ++ ts.map encM3 = mvs ring d ts := by rw [← hX]; rfl
      rw [hm] at hadd
      generalize hY : ts.map encM3 = ys at hadd e31
      simp [e31, hadd, hs]
      exact gives_rt (by rfl) ⟨rs, hp, rfl, rfl⟩
  obtain ⟨w, ws, e, rs, h1, rfl, rfl⟩ := hg
  exact ⟨rs, hts, h1, e⟩
end Ev
end

section
set_option Elab.async false
set_option maxRecDepth 100000
set_option linter.all false
open PySem
namespace Ev
open Sh Ac
variable {ring : Bool} {k : Nat} {d d2 : Dr}
theorem k33 (l : Nat) (h : Ok ring k d) : ∃ (ts : List I3) (rs : List D), ts.length ≤ 512 ∧ rs.Perm (mvs ring d ts) ∧ callAt F glob (l+7) 33 [(false, .d (encG ring k)), (false, .d (encD d))] = some (.ok (.d (.tuple rs)), [.d (encG ring k), .d (encD d)]) := by
  obtain ⟨ts, rs, ht, hp, e⟩ := k32 (l + 2) ring k h.v h.hi
  refine ⟨ts, rs, ht, hp, ?_⟩
  rw [C33 _ _ rfl]
  simp [b33, enterE, c14 l h, e]
  rw [finK_rt (by rfl)]
  rfl
theorem eq_kinds {s t : Str} (hs : s = sOne ∨ s = sTwo ∨ s = sThree) (ht : t = sOne ∨ t = sTwo ∨ t = sThree) : eqW (.d (.str s)) (.d (.str t)) = some (decide (s = t)) := by
  rcases hs with rfl | rfl | rfl <;> rcases ht with rfl | rfl | rfl <;> decide +kernel
def kindsD (ring : Bool) (d : Dr) (n : Nat) : D := .tuple [.int ((mv1 ring d).length : Nat), .int ((mv2 ring d).length : Nat), .int (n : Nat)]
theorem mvs_len (ring : Bool) {d : Dr} (hm : d.2.length ≤ 8) (ts : List I3) : (mvs ring d ts).length ≤ 8 + 64 + ts.length := by
  have h1 := mv1_len ring hm
  have h2 : (mv2 ring d).length ≤ 64 := by
    show ((numL d.2.length).flatMap (tw ring d)).length ≤ 64
    have : ∀ l : List Int, (l.flatMap (tw ring d)).length ≤ 8 * l.length := by
      intro l
      induction l with
      | nil => simp
      | cons a l ih =>
        rw [List.flatMap_cons, List.length_append, List.length_cons]
        have := tw_len ring hm a
        omega
    have := this (numL d.2.length)
    rw [numL_length] at this
    omega
  unfold mvs
  simp
  omega
theorem lcL_filtI {env : Env} {own : List Nat} {as : D → M Unit} {c : M Bool} {el : M W} (p : D → Bool) (g : D → W) (bs : List D) (h : ∀ b ∈ bs, turnL own as c el b env = some (.ok (if p b = true then some (g b) else none), env)) (hb : bs.length ≤ big) :
    lcL own as c el bs [] env = some (.ok ((bs.filter p).map g), env) := by
  have := lcL_filtE (env := env) (own := own) (as := as) (c := c) (el := el) id p g bs h hb
  rwa [List.map_id] at this
theorem k47 (l : Nat) {ts : List I3} {rs : List D} (hp : rs.Perm (mvs ring d ts)) (hl : rs.length ≤ 1000) : ∃ n : Nat, callAt F glob (l+1) 47 [(false, .d (.tuple rs))] = some (.ok (.d (kindsD ring d n)), [.d (.tuple rs)]) := by
  refine ⟨(rs.filter fun x => decide (hdS x = sThree)).length, ?_⟩
  obtain ⟨q1, q2⟩ := kinds_count hp
  rw [C47 _ _ rfl]
  simp [b47, enterE]
  rw [ev_lcS, whileLk_no rfl]
  simp
  rw [show [PyData.str sOne, .str sTwo, .str sThree] = ([sOne, sTwo, sThree] : List Str).map PyData.str from rfl, lcL_mapE (enc := PyData.str) (g := fun s : Str => W.d (.int ((rs.filter fun x => decide (hdS x = s)).length : Nat)))]
  · simp [q1, q2]
    rw [finK_rt (by rfl)]
    rfl
  · intro s hs
    have hs' : s = sOne ∨ s = sTwo ∨ s = sThree := by simpa using hs
    simp
    rw [ev_lcS, whileLk_no rfl]
    simp
    rw [lcL_filtI (p := fun x => decide (hdS x = s)) (g := fun x => W.d x)]
    · simp
    · intro x hx
      obtain ⟨t, is, rfl, ht⟩ := mvs_of (hp.mem_iff.mp hx)
      have e := eq_kinds ht hs'
      by_cases q : t = s
      · subst q
        have e' : eqW (.d (.str t)) (.d (.str t)) = some true := by simpa using e
        simp [cnW, E.isNil, mvD, e', hdS]
      · simp [cnW, E.isNil, mvD, e, q, hdS]
    · exact Nat.le_trans hl (by decide)
  · simp
end Ev
end

section
set_option Elab.async false
set_option maxRecDepth 100000
set_option linter.all false
open PySem
namespace Ev
open Sh Ac
section
variable {T : Tb} {env : Env}
def cvK (T : Tb) (es : E) (env : Env) : Option Slot → Option (Res (List R) × Env)
  | some (.ok _ (.d x)) => match fnOf x with
    | some f => bnd (ev T es) (fun rs => bnd (callR T f rs) fun r => ret [r]) env
    | none => none
  | _ => none
@[simp] theorem ev_callv (i : Nat) (es : E) : ev T (.callv i es) env = cvK T es env env[i]? := by
  rw [ev]
  dsimp only
  cases env[i]? with
  | none => rfl
  | some s =>
    cases s with
    | no => rfl
    | lck => rfl
    | ok p w => cases w <;> rfl
theorem fnOf_n (f : Nat) : fnOf (.dict [(.str { cps := { toList := [102, 110] } }, .int (f : Int))]) = some f := by
  show (if ({ cps := { toList := [102, 110] } } : Str) = PySem.Str.ofString "fn" then some (f : Int).toNat else none) = some f
  rw [if_pos (by decide +kernel)]
  rfl
@[simp] theorem cvK_fn (p : Bool) (f : Nat) (es : E) : cvK T es env (some (.ok p (.d (.dict [(.str { cps := { toList := [102, 110] } }, .int (f : Int))])))) = bndK (ev T es env) fun rs => bnd (callR T f rs) fun r => ret [r] := by
  show (match fnOf (.dict [(.str { cps := { toList := [102, 110] } }, .int (f : Int))]) with
    | some f => bnd (ev T es) (fun rs => bnd (callR T f rs) fun r => ret [r]) env
    | none => none) = _
  rw [fnOf_n]
  rfl
end
variable {ring : Bool} {k : Nat} {d d2 : Dr}
theorem k22 (l : Nat) (h : Ok ring k d) (h2 : Ok ring k d2) (s : Same ring d2 d) : callAt F glob (l+7) 22 [(false, .d (encG ring k)), (false, .d (encD d)), (false, .d (encD d2))] = some (.ok (.d (.bool true)), [.d (encG ring k), .d (encD d), .d (encD d2)]) := by
  obtain ⟨v, hl, e⟩ := c11 (l + 3) ring k h.v h.hi
  obtain ⟨v2, hl2, e2⟩ := c11 (l + 3) ring k h2.v h2.hi
  have hv := hl2.uniq hl s
  subst hv
  rw [C22 _ _ rfl]
  simp [b22, enterE, c14 l h, c15 (l + 1) h2, e, e2, eq_encD]
  rw [finK_rt (by rfl)]
  rfl
theorem mul3 (x : D) : binop .Mult (.d (.tuple [x])) (.d (.int 3)) = some (.d (.tuple [x, x, x])) := by
  show (if [x] ≠ [] ∧ (2 : Int) ≤ 3 ∧ (3 : Int) ≤ 1000 ∧ [x].length ≤ 1000 then some (W.d (.tuple (List.replicate (3 : Int).toNat [x]).flatten)) else none) = _
  rw [if_pos ⟨by simp, by omega, by omega, by simp⟩]
  rfl
/-- one of the three ways to turn, as the program and the law call it -/
structure Way (l : Nat) (ring : Bool) (k : Nat) (f g : Nat) (t : Dr → Dr) : Prop where
  call : ∀ d, Ok ring k d → callAt F glob (l+7) f [(false, .d (encG ring k)), (false, .d (encD d))] = some (.ok (.d (encD (t d))), [.d (encG ring k), .d (encD d)])
  own : ∀ d, Ok ring k d → callAt F glob (l+7) g [(false, .d (encD d))] = some (.ok (.d (encD (t d))), [.d (encD d)])
  ok : ∀ d, Ok ring k d → Ok ring k (t d)
  same : ∀ d d2, Same ring d d2 → Same ring (t d) (t d2)
theorem way_bk (l : Nat) : Way l ring k 23 43 bk := ⟨fun d h => k23 l h, fun d h => k43 (l + 6) d (by have := h.v.len; have := h.hi; omega), fun d h => h.bk, fun d d2 h => h.bk⟩
theorem way_mi (l : Nat) : Way l ring k 24 44 mi := ⟨fun d h => k24 l h, fun d h => k44 (l + 6) d h.v.most, fun d h => h.mi, fun d d2 h => h.mi⟩
theorem way_ov (l : Nat) : Way l ring k 25 46 ov := ⟨fun d h => k25 l h, fun d h => k46 (l + 5) h.v h.hi, fun d h => h.ov, fun d d2 h => h.ov⟩
def fnV (f : Nat) : D := .dict [(.str { cps := { toList := [102, 110] } }, .int (f : Int))]
/-- kinds[:2] -/
theorem kinds2 (l : Nat) (h : Ok ring k d) : ∃ (rs : List D) (n : Nat), callAt F glob (l+7) 33 [(false, .d (encG ring k)), (false, .d (encD d))] = some (.ok (.d (.tuple rs)), [.d (encG ring k), .d (encD d)]) ∧ callAt F glob (l+7) 47 [(false, .d (.tuple rs))] = some (.ok (.d (kindsD ring d n)), [.d (.tuple rs)]) := by
  obtain ⟨ts, rs, ht, hp, e⟩ := k33 l h
  have hl : rs.length ≤ 1000 := by
    rw [hp.length_eq]
    have := mvs_len ring h.v.most ts
    omega
  obtain ⟨n, e2⟩ := k47 (l + 6) hp hl
  exact ⟨rs, n, e, e2⟩
theorem cut2_kinds (d : Dr) (n : Nat) : slc (.d (kindsD ring d n)) none (some 2) = some (.d (.tuple [.int ((mv1 ring d).length : Nat), .int ((mv2 ring d).length : Nat)])) := by
  show some (W.d (.tuple (cut _ none (some 2)))) = _
  rw [cut_to _ (by omega)]
  rfl
theorem eq_k2 (a b : Int) : eqW (.d (.tuple [.int a, .int b])) (.d (.tuple [.int a, .int b])) = some true := eqW_self (n := 1) (cln_ints 0 [a, b]) (by omega)
theorem lt1000 {n : Nat} {m : Nat} (h : n ≤ m) (hm : m ≤ 1000) : n ≤ 1000 := Nat.le_trans h hm
def xA : Dr := ([[(0, 0), (1, 1), (0, 1), (1, 0)]], [1, 1])
def xB : Dr := ([[(0, 1)], [(0, 0), (1, 1), (1, 0)]], [1, -1])
theorem k48 (l : Nat) (a b : Int) : Gives (callAt F glob (l+8) 48 [(false, sat a b)]) fun w _ => w = .d (.bool true) := by
  rw [C48 _ _ rfl]
  simp [b48, enterE, rngD_map]
  refine forL_elim (P := fun o => Gives (finK _ _ _ (sqK o _)) _) (fun (i : Nat) => PyData.int (i : Int)) (fun rest env => ∃ (a b : Int) (s1 s2 s3 s4 s5 s6 s7 s8 s9 s10 s11 : Slot), env = [.ok false (sat a b), s1, s2, s3, s4, s5, s6, s7, s8, s9, s10, s11, .no, .no, .no, .no] ∧ Free s1 ∧ Free s2 ∧ Free s3 ∧ Free s4 ∧ Free s5 ∧ Free s6 ∧ Free s7 ∧ Free s8 ∧ Free s9 ∧ Free s10 ∧ Free s11) ?_ ?_ ?_
  · exact ⟨a, b, _, _, _, _, _, _, _, _, _, _, _, rfl, .no, .no, .no, .no, .no, .no, .no, .no, .no, .no, .no⟩
  · rintro i rest env ⟨a, b, s1, s2, s3, s4, s5, s6, s7, s8, s9, s10, s11, rfl, f1, f2, f3, f4, f5, f6, f7, f8, f9, f10, f11⟩
    obtain ⟨_, _, e27, ring, k, a1, b1, h1, h2, rfl, rfl⟩ := c27 (l + 4) a b (fun w ws => ∃ (ring : Bool) (k : Nat) (a' b' : Int), 1 ≤ k ∧ k ≤ 3 ∧ w = .d (encG ring k) ∧ ws = [sat a' b']) fun ring k a' b' h1 h2 => ⟨ring, k, a', b', h1, h2, rfl, rfl⟩
    obtain ⟨x, hx, a2, b2, e22⟩ := c22T (l + 5) a1 b1 [.int 0, .int 1, .int 2, .int 3, .int 5, .int 6] (by simp) (by simp)
    obtain ⟨n, hn, rfl⟩ : ∃ n : Nat, n ≤ 8 ∧ x = .int (n : Int) := by
      simp at hx
      rcases hx with rfl | rfl | rfl | rfl | rfl | rfl
      · exact ⟨0, by omega, rfl⟩
      · exact ⟨1, by omega, rfl⟩
      · exact ⟨2, by omega, rfl⟩
      · exact ⟨3, by omega, rfl⟩
      · exact ⟨5, by omega, rfl⟩
      · exact ⟨6, by omega, rfl⟩
    obtain ⟨_, _, e28, d, a3, b3, hok, hlen, rfl, rfl⟩ := c28 (l + 4) a2 b2 ring k h1 h2 n hn (fun w ws => ∃ (d : Dr) (a' b' : Int), Ok ring k d ∧ d.2.length = n ∧ w = .d (encD d) ∧ ws = [sat a' b', .d (encG ring k), .d (.int n)]) fun d a' b' h1 h2 => ⟨d, a', b', h1, h2, rfl, rfl⟩
    have hB := way_bk (ring := ring) (k := k) l
    have hM := way_mi (ring := ring) (k := k) l
    have hO := way_ov (ring := ring) (k := k) l
    have okB := hok.bk
    have okM := hok.mi
    have okO := hok.ov
    have three : ∀ {x y z : D}, md 4 x = true → md 4 y = true → md 4 z = true → callAt F glob (l + 1 + 5 + 1) 37 [(false, .d (.tuple [x, y, z])), (false, .d (.tuple [x, y, z]))] = some (.ok (.d (.bool true)), [.d (.tuple [x, y, z]), .d (.tuple [x, y, z])]) := fun {x y z} hx hy hz => by
      refine c23 5 (l + 1) (.tuple [x, y, z]) (md_tup (by simp) fun u hu => ?_)
      simp at hu
      rcases hu with rfl | rfl | rfl <;> assumption
    have m1 := three (md_encD okB) (md_encD okM) (md_encD okO)
    have m2 := three (md_encD hok) (md_encD hok) (md_encD hok)
    have m3 := three (md_encD okB.mi) (md_encD okB.ov) (md_encD okM.ov)
    have q1 := bk_bk d
    have q2 := mi_mi d
    have q3 := ov_ov d
    have cB2 := hB.call _ okB
    have cM2 := hM.call _ okM
    have cO2 := hO.call _ okO
    rw [bk_bk] at cB2
    rw [mi_mi] at cM2
    rw [ov_ov] at cO2
    have cBM := hB.call _ okM
    have cBO := hB.call _ okO
    have cMO := hM.call _ okO
    rw [bk_mi] at cBM
    rw [bk_ov] at cBO
    rw [mi_ov] at cMO
    have c20 : ∀ t ∈ [bk d, mi d, ov d], callAt F glob (l+7) 20 [(false, .d (encG ring k)), (false, .d (encD t))] = some (.ok (.d (.bool true)), [.d (encG ring k), .d (encD t)]) := by
      intro t ht
      simp at ht
      rcases ht with rfl | rfl | rfl
      · exact c16 (l + 2) okB
      · exact c16 (l + 2) okM
      · exact c16 (l + 2) okO
    show Goes _ _
    simp [setK2_free f1, setK2_free f2, setK2_free f3, setK2_free f4, setK2_free f5, e27, e22, e28, hB.call d hok, hM.call d hok, hO.call d hok, hB.own d hok, hM.own d hok, hO.own d hok, m1, cB2, cM2, cO2, m2, mul3]
    rw [ev_lcS, whileLk_no rfl]
    simp
    rw [show [encD (bk d), encD (mi d), encD (ov d)] = [bk d, mi d, ov d].map encD from rfl, lcL_mapE (enc := encD) (g := fun _ : Dr => W.d (.bool true))]
    rotate_left
    · intro t ht
      simp [c20 t ht]
    · simp
    have nin : inW (.d (.bool false)) (.lst [.d (.bool true), .d (.bool true), .d (.bool true)]) = some false := by decide +kernel
    simp [nin, setK2_free f6, hM.call _ okB, hO.call _ okB, hO.call _ okM, cBM, cBO, cMO, m3]
    obtain ⟨bb, hcond⟩ : ∃ bb : Bool, ∀ T : Tb, ((if (d.2.length : Int) < 6 then ret [R.d (PyData.bool (decide ((d.2.length : Int) < 6)))] else ev T (E.cmp CmpOp.Eq ((E.var 2).idx (E.cst (PyData.int 0))) (E.cst (PyData.str { cps := { toList := [108, 105, 110, 101] } })))) : M (List R)) [.ok false (sat a3 b3), .ok false (.d (.int i)), .ok false (.d (encG ring k)), .ok false (.d (encD d)), .ok false (.d (.tuple [encD (bk d), encD (mi d), encD (ov d)])), .ok false (.d (.tuple [encD (bk d), encD (mi d), encD (ov d)])), .ok false (.d (.tuple [encD (mi (bk d)), encD (ov (bk d)), encD (ov (mi d))])), s7, s8, s9, s10, s11, .no, .no, .no, .no] = some (.ok [.d (.bool bb)], [.ok false (sat a3 b3), .ok false (.d (.int i)), .ok false (.d (encG ring k)), .ok false (.d (encD d)), .ok false (.d (.tuple [encD (bk d), encD (mi d), encD (ov d)])), .ok false (.d (.tuple [encD (bk d), encD (mi d), encD (ov d)])), .ok false (.d (.tuple [encD (mi (bk d)), encD (ov (bk d)), encD (ov (mi d))])), s7, s8, s9, s10, s11, .no, .no, .no, .no]) := by
      by_cases h6 : (d.2.length : Int) < 6
      · exact ⟨true, fun T => by simp [h6]⟩
      · exact ⟨!ring, fun T => by simp [h6]⟩
    rw [hcond]
    cases bb with
    | false =>
      simp
      exact goes_nx ⟨_, _, _, _, _, _, _, _, _, _, _, _, _, rfl, .ok _, .ok _, .ok _, .ok _, .ok _, .ok _, f7, f8, f9, f10, f11⟩
    | true =>
      obtain ⟨v, hv, e21⟩ := c17 l hok
      obtain ⟨okv, lenv, samev⟩ := hok.cand hv
      simp [setK2_free f7, e21]
      rw [show [PyData.tuple [PyData.dict [(PyData.str { cps := { toList := [102, 110] } }, PyData.int 23)], PyData.dict [(PyData.str { cps := { toList := [102, 110] } }, PyData.int 43)]], PyData.tuple [PyData.dict [(PyData.str { cps := { toList := [102, 110] } }, PyData.int 24)], PyData.dict [(PyData.str { cps := { toList := [102, 110] } }, PyData.int 44)]], PyData.tuple [PyData.dict [(PyData.str { cps := { toList := [102, 110] } }, PyData.int 25)], PyData.dict [(PyData.str { cps := { toList := [102, 110] } }, PyData.int 46)]]] = ([(23, 43), (24, 44), (25, 46)] : List (Nat × Nat)).map (fun p => PyData.tuple [fnV p.1, fnV p.2]) from rfl]
      refine forL_elim (P := fun o => Goes (ctK (sqK (sqK o _) _)) _) (fun p : Nat × Nat => PyData.tuple [fnV p.1, fnV p.2]) (fun rest env => ∃ (dn : List (Nat × Nat)) (s8 s9 s10 : Slot), env = [.ok false (sat a3 b3), .ok false (.d (.int i)), .ok false (.d (encG ring k)), .ok false (.d (encD d)), .ok false (.d (.tuple [encD (bk d), encD (mi d), encD (ov d)])), .ok false (.d (.tuple [encD (bk d), encD (mi d), encD (ov d)])), .ok false (.d (.tuple [encD (mi (bk d)), encD (ov (bk d)), encD (ov (mi d))])), .ok false (.d (encD v)), s8, s9, s10, s11, .no, .no, .no, .no] ∧ Free s8 ∧ Free s9 ∧ Free s10 ∧ [(23, 43), (24, 44), (25, 46)] = dn ++ rest) ?_ ?_ ?_
      · exact ⟨[], s8, s9, s10, rfl, f8, f9, f10, rfl⟩
      · rintro ⟨f, g⟩ rest env ⟨dn, s8, s9, s10, rfl, f8, f9, f10, hd⟩
        obtain ⟨t, Wt⟩ : ∃ t, Way l ring k f g t := by
          have hm : (f, g) ∈ [(23, 43), (24, 44), (25, 46)] := by rw [hd]; simp
          simp at hm
          rcases hm with ⟨rfl, rfl⟩ | ⟨rfl, rfl⟩ | ⟨rfl, rfl⟩
          · exact ⟨_, hB⟩
          · exact ⟨_, hM⟩
          · exact ⟨_, hO⟩
        have okT := Wt.ok v okv
        have okTd := Wt.ok d hok
        have sameT := Wt.same d v samev
        obtain ⟨vT, hvT, e21T⟩ := c17 l okT
        obtain ⟨u, hu, e40⟩ := c26 (l + 5) okTd
        have huv := hu.uniq hvT sameT
        subst huv
        have e22s := k22 l okT okTd sameT
        have e23 := c23 5 (l + 1) (.tuple [encD u, .bool true]) (md_tup (by simp) (by
          have := md_encD (okT.cand hvT).1
          intro x hx
          simp at hx
          rcases hx with rfl | rfl
          · exact this
          · rfl))
        refine ⟨_, ?_, dn ++ [(f, g)], .ok false (.d (fnV f)), .ok false (.d (fnV g)), .ok false (.d (encD (t v))), rfl, .ok _, .ok _, .ok _, by rw [hd]; simp⟩
        simp [setK2_free f8, setK2_free f9, setK2_free f10, fnV, Wt.call v okv, Wt.call d hok, Wt.own d hok, e21T, e40, e22s, e23]
      · rintro env ⟨dn, s8, s9, s10, rfl, f8, f9, f10, hd⟩
        have kd : ∀ t, Ok ring k t → mv1 ring t = mv1 ring d → mv2 ring t = mv2 ring d → ∃ (rs : List D) (x : D), callAt F glob (l+7) 33 [(false, .d (encG ring k)), (false, .d (encD t))] = some (.ok (.d (.tuple rs)), [.d (encG ring k), .d (encD t)]) ∧ callAt F glob (l+7) 47 [(false, .d (.tuple rs))] = some (.ok (.d x), [.d (.tuple rs)]) ∧ slc (.d x) none (some 2) = some (.d (.tuple [.int ((mv1 ring d).length : Nat), .int ((mv2 ring d).length : Nat)])) := by
          intro t ht h1 h2
          obtain ⟨rs, n, e1, e2⟩ := kinds2 l ht
          refine ⟨rs, _, e1, e2, ?_⟩
          rw [cut2_kinds, h1, h2]
        obtain ⟨rs0, x0, e33, e47, eS⟩ := kd d hok rfl rfl
        obtain ⟨rsB, xB, e33B, e47B, eSB⟩ := kd (bk d) okB (mv1_bk ring d) (mv2_bk ring d)
        obtain ⟨rsM, xM, e33M, e47M, eSM⟩ := kd (mi d) okM (mv1_mi ring d) (mv2_mi ring d)
        obtain ⟨rsO, xO, e33O, e47O, eSO⟩ := kd (ov d) okO (mv1_ov ring d) (mv2_ov ring d)
        obtain ⟨rsX, xX, e33X, e47X, eSX⟩ := kd (ov (bk d)) okB.ov ((mv1_ov ring (bk d)).trans (mv1_bk ring d)) ((mv2_ov ring (bk d)).trans (mv2_bk ring d))
        simp [setK2_free f11, e33, e47]
        rw [ev_lcS, whileLk_no rfl]
        simp
        rw [show [encD (bk d), encD (mi d), encD (ov d)] = [bk d, mi d, ov d].map encD from rfl, lcL_filtE (enc := encD) (p := fun _ : Dr => false) (g := fun _ : Dr => W.d (.int 1))]
        rotate_left
        · intro t ht
          simp at ht
          rcases ht with rfl | rfl | rfl
          · simp [cnW, E.isNil, e33B, e47B, eSB, eS, eq_k2]
          · simp [cnW, E.isNil, e33M, e47M, eSM, eS, eq_k2]
          · simp [cnW, E.isNil, e33O, e47O, eSO, eS, eq_k2]
        · simp
        have nil0 : eqW (.lst []) (.lst []) = some true := by decide +kernel
        simp [nil0, hB.call d hok, hO.call _ okB, e33X, e47X, eSX, eS, eq_k2]
        exact goes_nx ⟨_, _, _, _, _, _, _, _, _, _, _, _, _, rfl, .ok _, .ok _, .ok _, .ok _, .ok _, .ok _, .ok _, f8, f9, f10, .ok _⟩
  · rintro env ⟨a, b, s1, s2, s3, s4, s5, s6, s7, s8, s9, s10, s11, rfl, f1, f2, f3, f4, f5, f6, f7, f8, f9, f10, f11⟩
    have oA : Ok false 1 xA := ⟨⟨rfl, by decide, by decide, by decide⟩, by decide, by decide⟩
    have oB : Ok false 2 xB := ⟨⟨rfl, by decide, by decide, by decide⟩, by decide, by decide⟩
    have eA := k23 l oA
    have eB := k25 l oA
    have eC := k24 l oA
    have eD := k23 l oB
    have e23 := c23 5 (l + 1) (.tuple [encD (bk xA), encD (ov xA), encD (mi xA), encD (bk xB)]) (by decide +kernel)
    simp [encG, encD, encSts, encS, encE, encI, xA, xB, bk, mi, ov, flp, flE] at eA eB eC eD e23
    simp [setK2_free f4, setK2_free f5, eA, eB, eC, eD, e23]
    exact gives_rt (by rfl) rfl
theorem k49 (l : Nat) (ns : List Int) (hn : ns.length ≤ 63) : ∃ ws, callAt F glob (l+9) 49 [(false, .scr (ns.map .int))] = some (.ok (.d (.bool true)), ws) := by
  obtain ⟨m, hm, em⟩ : ∃ m : Nat, m ≤ 3 ∧ (if 2 < (if (3 : Int) < ns.length then (3 : Int) else ns.length) then (if (3 : Int) < ns.length then (3 : Int) else ns.length) else 2) = (m : Int) := by
    by_cases h : (3 : Int) < ns.length
    · exact ⟨3, by omega, by rw [if_pos h]; rfl⟩
    · by_cases h2 : (2 : Int) < ns.length
      · exact ⟨3, by omega, by rw [if_neg h, if_pos h2]; omega⟩
      · exact ⟨2, by omega, by rw [if_neg h, if_neg h2]; rfl⟩
  have key : Gives (callAt F glob (l+9) 49 [(false, .scr (ns.map .int))]) fun w _ => w = .d (.bool true) := by
    rw [C49 _ _ rfl]
    simp [b49, enterE]
    rw [ev_lcS, whileLk_no rfl]
    simp
    simp only [em]
    simp [show (m : Int) ≤ 1000000 by omega, rngD_map]
    rw [lcL_mapE (g := fun _ : Nat => W.d (.bool true))]
    · have e := notin_all (bs := (List.range m).map fun _ => true) (by simp)
      simp only [List.map_map, Function.comp_def] at e
      simp [e]
      exact gives_rt (by rfl) rfl
    · intro i hi
      obtain ⟨_, _, e20, a, b, rfl, rfl⟩ := c20 (l + 7) ns i (by omega) (by omega)
      obtain ⟨w, ws, e31, rfl⟩ := k48 l a b
      cases ws <;> simp [e20, e31]
    · simp; omega
  obtain ⟨w, ws, e, rfl⟩ := key
  exact ⟨ws, e⟩
end Ev
end

section
set_option Elab.async false
set_option linter.all false
set_option maxRecDepth 100000
/-! the run of the top -/
namespace Ev
abbrev rowR : PySem.W.OpenRow := PySem.W.OpenLaw.row PySem.Challenge.rw_arrowcounts_k06_whole_turned_drawings
def nms0 : List PySem.Str := ["is_whole", "is_from_to", "is_sign", "is_pair", "LINE", "RING", "SORTS", "MOST_STRANDS", "MOST_ARROWS", "OVER", "UNDER", "is_ground_by", "is_end", "is_drawing_by", "arrows_in", "in_order", "begun_anew", "all_beginnings", "plain_by", "opposite_signs", "backwards_by", "mirrored_by", "changed_by", "turned_over_by", "ArrowError", "NotAGround", "NotADrawing", "check_ground", "check_drawing", "check_other"]
def nms1 : List PySem.Str := ["is_drawing", "plain", "are_same", "backwards", "mirrored", "turned_over", "ONE", "TWO", "THREE", "ends_behind", "ways_ahead", "is_lone", "are_twins", "are_three", "threes_of", "moves_by", "moves", "_law_satchel", "_law_fetch", "_law_choice", "_law_match", "_law_ordered", "_law_begun", "_law_plain", "_law_ground", "_law_drawing", "_law_backwards", "_law_mirrored", "_law_changed", "_law_over"]
def nms2 : List PySem.Str := ["_law_kinds", "_law_right"]
def nms : List PySem.Str := nms0 ++ nms1 ++ nms2
theorem topRun (w : PySem.World) : HandSHeadRun.RunEq rowR (PySem.W.view rowR.prog [70]) (hookOf 5 defs bltins consts) (obOf 5 defs bltins consts) 9000 nms w := by
  intro os
  kernel_rfl
end Ev
end

section
set_option Elab.async false
set_option linter.all false
set_option maxRecDepth 100000
open PySem PySem.W PySem.Calls PyProof.Rows
set_option maxHeartbeats 0 in
theorem PySem.Challenge.cw_arrowcounts_k06_whole_turned_drawings_holds : PySem.Challenge.rw_arrowcounts_k06_whole_turned_drawings.Holds := by
  w_on; o_law
  refine HandSHeadRun.head_any (r := OpenLaw.row PySem.Challenge.rw_arrowcounts_k06_whole_turned_drawings) (q := view (OpenLaw.row PySem.Challenge.rw_arrowcounts_k06_whole_turned_drawings).prog [70]) (H := Ev.hookOf 5 Ev.defs Ev.bltins Ev.consts) (ob := Ev.obOf 5 Ev.defs Ev.bltins Ev.consts) (M := 9000) (loose := Ev.nms)
    (d := HandSHeadRun.topDef (OpenLaw.row PySem.Challenge.rw_arrowcounts_k06_whole_turned_drawings).prog 70) (kwd := []) (fun s => Ev.obOf_eq s)
    (by kernel_rfl) (fun s => by kernel_rfl) Ev.topRun (by kernel_rfl) (by kernel_rfl) (by kernel_rfl) (by rfl) (by first | assumption | decide +kernel) (by decide +kernel) ⟨rfl, rfl, rfl, rfl, rfl, by decide +kernel⟩ ?hw ?hc
  case hw => w_witness2
  case hc =>
    exact Ev.law_end (l := PySem.Challenge.rw_arrowcounts_k06_whole_turned_drawings) (n := 63) (L := 9) (m := 40) (j := 49) (x := "script") (dl := (Ev.defs[49]?).getD ⟨"", default, [], default, []⟩) rfl (by decide) (by kernel_rfl) ⟨rfl, by decide, by decide⟩ Ev.oks (by kernel_rfl) (by kernel_rfl) (by kernel_rfl) fun ns hn => Ev.k49 0 ns hn
end
