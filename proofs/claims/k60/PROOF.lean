import PyProof.Rows.All
import Wide.All
import OpenK.AllK
import Wide.FinOn
import PySem.Str
import PyProof.EqLayable
import PyProof.Fits
import HandS.ForMost
import HandS.ForExc
import HandS.IsInst
import HandS.OwnEq
import HandS.CallSlots
import HandS.TryMany
import HandS.Iter
import HandS.WordsExc
import HandS.ExcInit
import HandS.Comp
import HandS.TupAny
import HandS.Style
import HandS.Strs
import HandS.Conv
import HandS.Wide
import HandS.SortOrd
import HandS.SortInts
import HandS.WideBits
import HandS.Dict
import HandS.Zip
import HandS.DictComp
import HandS.SetFor
import HandS.More
import HandS.Deep
import HandS.Text
import HandS.Small
import PySem.Challenge.RW_anytaste_k60_papers_of_orders_judged
import HandS.EndBits
set_option linter.all false
/-! MSem: a small semantics over trees: values without a heap, slots with the depth to which what they hold is their own. -/
namespace Mini
open PySem
abbrev Key := Sum Int Str
/-- what kind of thing holds other things: a tuple, a list, a dict by its keys (numbers, texts; tuples of numbers: then it holds its keys, too, ahead of its values), an instance by its class and its fields' names -/
inductive Hd where
  | tup | lst | dK (ks : List Key) | dT (ks : List (List Int)) | ins (c : Nat) (ns : List Str)
  deriving DecidableEq, Inhabited
inductive D where
  | non | bl (b : Bool) | int (i : Int) | str (x : Str)
  | box (h : Hd) (ds : List D)
  | scr (ns : List Int)
  deriving Inhabited
abbrev D.tup (ds : List D) : D := .box .tup ds
abbrev D.lst (ds : List D) : D := .box .lst ds
abbrev D.dK (ks : List Key) (ds : List D) : D := .box (.dK ks) ds
abbrev D.dT (ks : List (List Int)) (ds : List D) : D := .box (.dT ks) ds
abbrev D.ins (c : Nat) (ns : List Str) (ds : List D) : D := .box (.ins c ns) ds
abbrev Slot := Option (Nat × D)
abbrev Env := List Slot
inductive Res (α : Type) where
  | ok (a : α) (e : Env)
  | exc (c : Nat) (ns : List Str) (fs : List D) (e : Env)
  | stuck
abbrev M (α : Type) := Env → Res α
def ret {α : Type} (a : α) : M α := fun e => .ok a e
def bnd {α β : Type} (m : M α) (f : α → M β) : M β := fun e => match m e with
  | .ok a e' => f a e'
  | .exc c ns fs e' => .exc c ns fs e'
  | .stuck => .stuck
def stk {α : Type} : M α := fun _ => .stuck
def opt {α : Type} : Option α → M α
  | some a => ret a
  | none => stk
abbrev Vl := Nat × D
inductive Item where
  | val (d : D) | bor (i : Nat)
inductive Fl where
  | nx | rt (v : Vl) | bk | ct
inductive FRes where
  | ok (v : Vl) (mu : Option Vl)
  | exc (c : Nat) (ns : List Str) (fs : List D) (mu : Option Vl)
  | stuck
abbrev FSem := List Vl → FRes

/-! ### what lies in slots -/
def getS (e : Env) (i : Nat) : Slot := e.getD i none
def vC (d : D) : M Vl := ret (0, d)
/-- a name as a value: from here on it is nobody's own -/
def vVar (i : Nat) : M Vl := fun e => match getS e i with
  | some (_, d) => .ok (0, d) (e.set i (some (0, d)))
  | none => .stuck
/-- a name that is given away whole -/
def vMove (i : Nat) : M Vl := fun e => match getS e i with
  | some v => .ok v (e.set i none)
  | none => .stuck
def oVar (i : Nat) : M Item := fun e => match getS e i with
  | some _ => .ok (.bor i) e
  | none => .stuck
def oV (m : M Vl) : M Item := bnd m fun v => ret (.val v.2)
def res : Item → M D
  | .val d => ret d
  | .bor i => fun e => match getS e i with
    | some (n, d) => .ok d (e.set i (some (min n 1, d)))
    | none => .stuck
def op1 (f : D → Option Vl) (a : M Item) : M Vl := bnd a fun x => bnd (res x) fun d => opt (f d)
def op2 (f : D → D → Option Vl) (a b : M Item) : M Vl := bnd a fun x => bnd b fun y => bnd (res x) fun d => bnd (res y) fun d' => opt (f d d')
def mapM' {α β : Type} (f : α → M β) : List α → M (List β)
  | [] => ret []
  | a :: as => bnd (f a) fun b => bnd (mapM' f as) fun bs => ret (b :: bs)
def seqM {β : Type} : List (M β) → M (List β)
  | [] => ret []
  | a :: as => bnd a fun b => bnd (seqM as) fun bs => ret (b :: bs)
def opN (f : List D → Option Vl) (as : List (M Item)) : M Vl := bnd (seqM as) fun xs => bnd (mapM' res xs) fun ds => opt (f ds)

/-! ### tests -/
def tB (m : M Vl) : M Bool := bnd m fun v => match v.2 with
  | .bl b => ret b
  | _ => stk
def truth : D → Option Bool
  | .non => some false
  | .bl b => some b
  | .int i => some (i != 0)
  | .str x => some (x.length != 0)
  | .box .tup ds => some (!ds.isEmpty)
  | .box .lst ds => some (!ds.isEmpty)
  | .box (.dK ks) _ => some (!ks.isEmpty)
  | .box (.dT _) _ => none
  | _ => none
def tT (m : M Item) : M Bool := bnd m fun x => bnd (res x) fun d => opt (truth d)
def tAnd (a b : M Bool) : M Bool := bnd a fun x => if x then b else ret false
def tOr (a b : M Bool) : M Bool := bnd a fun x => if x then ret true else b
def tNot (a : M Bool) : M Bool := bnd a fun x => ret !x
def vBool (t : M Bool) : M Vl := bnd t fun b => ret (0, .bl b)
def vIf (t : M Bool) (a b : M Vl) : M Vl := bnd t fun x => if x then a else b
/-- a or b, by truth -/
def vOrT (a b : M Vl) : M Vl := bnd a fun v => bnd (opt (truth v.2)) fun k => if k then ret (0, v.2) else b
def vAndT (a b : M Vl) : M Vl := bnd a fun v => bnd (opt (truth v.2)) fun k => if k then b else ret (0, v.2)

/-! ### statements -/
def setS (i : Nat) (v : Vl) : M Unit := fun e => if i < e.length then .ok () (e.set i (some v)) else .stuck
def sNext : M Fl := ret .nx
def sSeq (a b : M Fl) : M Fl := bnd a fun f => match f with
  | .nx => b
  | f => ret f
def sExpr (m : M Vl) : M Fl := bnd m fun _ => ret .nx
def sSet (i : Nat) (m : M Vl) : M Fl := bnd m fun v => bnd (setS i v) fun _ => ret .nx
def sRet (m : M Vl) : M Fl := bnd m fun v => ret (.rt v)
def sIf (t : M Bool) (a b : M Fl) : M Fl := bnd t fun x => if x then a else b
def sBreak : M Fl := ret .bk
def sCont : M Fl := ret .ct
/-- targets: a name; names of a tuple's items -/
abbrev Tg := D → Env → Option Env
def gVar (i : Nat) : Tg := fun d e => if i < e.length then some (e.set i (some (0, d))) else none
def gAll : List Tg → List D → Env → Option Env
  | [], [], e => some e
  | g :: gs, d :: ds, e => (g d e).bind fun e' => gAll gs ds e'
  | _, _, _ => none
def gTupD (gs : List Tg) : Tg := fun d => match d with
  | .box .tup ds => gAll gs ds
  | _ => fun _ => none
def gLstD (gs : List Tg) : Tg := fun d => match d with
  | .box .lst ds => gAll gs ds
  | _ => fun _ => none
def tgM (g : Tg) (d : D) : M Unit := fun e => match g d e with
  | some e' => .ok () e'
  | none => .stuck
/-- target = e, the target not a name alone -/
def sAsg (g : Tg) (m : M Vl) : M Fl := bnd m fun v => bnd (tgM g v.2) fun _ => ret .nx
def forL (g : Tg) (body : M Fl) : List D → M Fl
  | [] => ret .nx
  | d :: ds => bnd (tgM g d) fun _ => bnd body fun f => match f with
    | .nx => forL g body ds
    | .ct => forL g body ds
    | .bk => ret .nx
    | .rt v => ret (.rt v)
def sFor (it : M (List D)) (g : Tg) (body : M Fl) : M Fl := bnd it fun ds => forL g body ds
def whileL (t : M Bool) (body : M Fl) : Nat → M Fl
  | 0 => stk
  | n + 1 => bnd t fun b => if b then bnd body fun f => match f with
      | .nx => whileL t body n
      | .ct => whileL t body n
      | .bk => ret .nx
      | .rt v => ret (.rt v)
    else ret .nx
/-- what a loop walks -/
def itL (m : M Vl) : M (List D) := bnd m fun v => match v.2 with
  | .box .lst ds => ret ds
  | .scr ns => ret (ns.map .int)
  | _ => stk
def itV (m : M Vl) : M (List D) := bnd m fun v => match v.2 with
  | .box .lst ds => ret ds
  | .box .tup ds => ret ds
  | .scr ns => ret (ns.map .int)
  | _ => stk
def itT (m : M Vl) : M (List D) := bnd m fun v => match v.2 with
  | .box .tup ds => ret ds
  | _ => stk
def rangeL (lo hi : Int) : List D := (List.range (hi - lo).toNat).map fun i => .int (lo + (i : Nat))
def bigI (i : Int) : Bool := decide (-4611686018427387904 ≤ i) && decide (i < 4611686018427387904)
def itRange1 (a : M Item) : M (List D) := bnd (seqM [a]) fun xs => match xs with
  | [x] => bnd (res x) fun d => match d with
    | .int j => if bigI j && decide (j ≤ 16777216) then ret (rangeL 0 j) else stk
    | _ => stk
  | _ => stk
def itRange2 (a b : M Item) : M (List D) := bnd (seqM [a, b]) fun xs => match xs with
  | [x, y] => bnd (res x) fun d => bnd (res y) fun d' => match d, d' with
    | .int i, .int j => if bigI i && bigI j && decide (j - i ≤ 16777216) then ret (rangeL i j) else stk
    | _, _ => stk
  | _ => stk
def zipD : List D → List D → List D
  | a :: as, b :: bs => .tup [a, b] :: zipD as bs
  | _, _ => []
def itZip (a b : M (List D)) : M (List D) := bnd a fun xs => bnd b fun ys => ret (zipD xs ys)
def enumD : Nat → List D → List D
  | _, [] => []
  | n, d :: ds => .tup [.int n, d] :: enumD (n + 1) ds
def itEnum (a : M (List D)) : M (List D) := bnd a fun xs => ret (enumD 0 xs)

/-! ### comprehensions -/
def hide : List Nat → Env → Env
  | [], e => e
  | i :: is, e => (hide is e).set i none
def back (e0 : Env) : List Nat → Env → Env
  | [], e => e
  | i :: is, e => (back e0 is e).set i (getS e0 i)
def calmS (e : Env) (i : Nat) : Bool := match getS e i with
  | some (0, _) => true
  | none => true
  | _ => false
def compL (own : List Nat) (g : Tg) (t : M Bool) (elt : M Vl) : List D → M (List Vl)
  | [] => ret []
  | d :: ds => fun e => bnd (tgM g d) (fun _ => bnd t fun b => if b then bnd elt fun v => bnd (compL own g t elt ds) fun vs => ret (v :: vs) else compL own g t elt ds) (hide own e)
def minOwn : List Vl → Nat
  | [] => 8
  | v :: vs => min v.1 (minOwn vs)
def mkLst (vs : List Vl) : Vl := (minOwn vs + 1, .lst (vs.map (·.2)))
def vComp (own : List Nat) (it : M (List D)) (g : Tg) (t : M Bool) (elt : M Vl) : M Vl := bnd it fun ds e1 =>
  if own.all (calmS e1) then
    match compL own g t elt ds e1 with
    | .ok vs e2 => .ok (mkLst vs) (back e1 own e2)
    | _ => .stuck
  else .stuck
/-- two clauses: own1 the second one's names -/
def compL2 (own : List Nat) (g : Tg) (t : M Bool) (it1 : M (List D)) (own1 : List Nat) (g1 : Tg) (t1 : M Bool) (elt : M Vl) : List D → M (List Vl)
  | [] => ret []
  | d :: ds => fun e => bnd (tgM g d) (fun _ => bnd t fun b => if b then bnd it1 fun ds1 => bnd (compL own1 g1 t1 elt ds1) fun vs => bnd (compL2 own g t it1 own1 g1 t1 elt ds) fun ws => ret (vs ++ ws) else compL2 own g t it1 own1 g1 t1 elt ds) (hide own e)
def vComp2 (own : List Nat) (it : M (List D)) (g : Tg) (t : M Bool) (it1 : M (List D)) (own1 : List Nat) (g1 : Tg) (t1 : M Bool) (elt : M Vl) : M Vl := bnd it fun ds e1 =>
  if own.all (calmS e1) then
    match compL2 own g t it1 own1 g1 t1 elt ds e1 with
    | .ok vs e2 => if vs.length ≤ 16777216 then .ok (mkLst vs) (back e1 own e2) else .stuck
    | _ => .stuck
  else .stuck

/-! ### calls -/
def valsOf : List Item → Option (List D)
  | [] => some []
  | .val d :: xs => (valsOf xs).map (d :: ·)
  | .bor _ :: _ => none
/-- f(..): nothing that is passed is changed -/
def vCall0 (f : FSem) (as : List (M Item)) : M Vl := bnd (seqM as) fun xs => bnd (opt (valsOf xs)) fun ds e => match f (ds.map fun d => (0, d)) with
  | .ok v _ => .ok v e
  | .exc c ns fs _ => .exc c ns fs e
  | .stuck => .stuck
/-- f(x, ..): x, the name in slot i, may be changed in place -/
def vCall1 (f : FSem) (as : List (M Item)) : M Vl := bnd (seqM as) fun xs => match xs with
  | .bor i :: xs => bnd (opt (valsOf xs)) fun ds e => match getS e i with
    | some s => match f (s :: ds.map fun d => (0, d)) with
      | .ok v (some s') => .ok v (e.set i (some s'))
      | .exc c ns fs (some s') => .exc c ns fs (e.set i (some s'))
      | _ => .stuck
    | none => .stuck
  | _ => stk
/-- C(..), an own class by its __init__ -/
def vNew (k : Nat) (f : FSem) (as : List (M Item)) : M Vl := bnd (seqM as) fun xs => bnd (opt (valsOf xs)) fun ds e => match f ((9, .ins k [] []) :: ds.map fun d => (0, d)) with
  | .ok (_, .non) (some s) => .ok s e
  | .exc c ns fs _ => .exc c ns fs e
  | _ => .stuck
/-- raise C(..): the fields by the class's __init__ -/
def sRaise (k : Nat) (ns : List Str) (as : List (M Item)) : M Fl := bnd (seqM as) fun xs => bnd (opt (valsOf xs)) fun ds e => if ns.length = ds.length then .exc k ns ds e else .stuck
def startE (n : Nat) (vs : List Vl) : Env := vs.map some ++ List.replicate (n - vs.length) none
def mutOf : Bool → Env → Option (Option Vl)
  | false, _ => some none
  | true, e => match getS e 0 with
    | some v => some (some v)
    | none => none
/-- a def: n slots, p parameters; mu: whether the first one is changed in place -/
def mkF (n p : Nat) (mu : Bool) (body : M Fl) : FSem := fun vs =>
  if vs.length = p then
    match body (startE n vs) with
    | .ok .nx e => match mutOf mu e with
      | some ms => .ok (0, .non) ms
      | none => .stuck
    | .ok (.rt v) e => match mutOf mu e with
      | some ms => .ok v ms
      | none => .stuck
    | .ok _ _ => .stuck
    | .exc c ns fs e => match mutOf mu e with
      | some ms => .exc c ns fs ms
      | none => .stuck
    | .stuck => .stuck
  else .stuck

/-! ### fields -/
def putFd (f : Str) (d : D) : List Str → List D → List Str × List D
  | g :: ns, x :: ds => if g = f then (g :: ns, d :: ds) else let r := putFd f d ns ds; (g :: r.1, x :: r.2)
  | _, _ => ([f], [d])
def getFd (f : Str) : List Str → List D → Option D
  | g :: ns, x :: ds => if f = g then some x else getFd f ns ds
  | _, _ => none
/-- o.f = e, o a name -/
def sFld (i : Nat) (f : Str) (m : M Vl) : M Fl := bnd (oV m) fun x => match x with
  | .val d => fun e => match getS e i with
    | some (n + 1, .box (.ins k ns) ds) => let r := putFd f d ns ds; if ns.length < 1000 then .ok .nx (e.set i (some (1, .ins k r.1 r.2))) else .stuck
    | _ => .stuck
  | _ => stk
def fAttr (f : Str) : D → Option Vl
  | .box (.ins _ ns) ds => (getFd f ns ds).map fun d => (0, d)
  | _ => none
/-! ### operators by trees -/
mutual
def toP : D → Option PyData
  | .non => some .none
  | .bl b => some (.bool b)
  | .int i => some (.int i)
  | .str x => some (.str x)
  | .box .tup ds => (toPs ds).map .tuple
  | .box .lst ds => (toPs ds).map .list
  | .box _ _ => none
  | .scr _ => none
def toPs : List D → Option (List PyData)
  | [] => some []
  | d :: ds => (toP d).bind fun p => (toPs ds).map (p :: ·)
end
def sLine : Nat := 16777216
def vInt (i : Int) : Option Vl := some (0, .int i)
def vBl (b : Bool) : Option Vl := some (0, .bl b)
def fAdd : D → D → Option Vl
  | .int i, .int j => vInt (i + j)
  | .str x, .str y => if x.length + y.length ≤ sLine then some (0, .str (x ++ y)) else none
  | .box .lst xs, .box .lst ys => if xs.length + ys.length ≤ sLine then some (1, .lst (xs ++ ys)) else none
  | .box .tup xs, .box .tup ys => if xs.length + ys.length ≤ sLine then some (0, .tup (xs ++ ys)) else none
  | _, _ => none
def fSub : D → D → Option Vl
  | .int i, .int j => vInt (i - j)
  | _, _ => none
def fMul : D → D → Option Vl
  | .int i, .int j => if decide (i.natAbs < 2 ^ 64) || (decide (j.natAbs < 2 ^ 64) || decide (i.natAbs.log2 + j.natAbs.log2 < 1000000)) then vInt (i * j) else none
  | _, _ => none
def fDiv : D → D → Option Vl
  | .int i, .int j => if 0 < j ∧ j.natAbs.log2 < 9000 then vInt (i / j) else none
  | _, _ => none
def fMod : D → D → Option Vl
  | .int i, .int j => if 0 < j then vInt (i % j) else none
  | _, _ => none
def fPow : D → D → Option Vl
  | .int i, .int j => if 0 ≤ j ∧ j ≤ 1000000 ∧ i.natAbs < 2 ^ 64 then vInt (i ^ j.toNat) else none
  | _, _ => none
def fNeg : D → Option Vl
  | .int i => vInt (-i)
  | _ => none
def fLt : D → D → Option Vl
  | .int i, .int j => vBl (decide (i < j))
  | _, _ => none
def fLe : D → D → Option Vl
  | .int i, .int j => vBl (decide (i ≤ j))
  | _, _ => none
def fGt : D → D → Option Vl
  | .int i, .int j => vBl (decide (j < i))
  | _, _ => none
def fGe : D → D → Option Vl
  | .int i, .int j => vBl (decide (j ≤ i))
  | _, _ => none
def eqD (d d' : D) : Option Bool := match toP d, toP d' with
  | some p, some q => if SeqAt.shaped p && SeqAt.shaped q then some (PyData.eqv p q) else none
  | _, _ => none
def fEq (d d' : D) : Option Vl := (eqD d d').map fun b => (0, .bl b)
def fNe (d d' : D) : Option Vl := (eqD d d').map fun b => (0, .bl (!b))
def isNon : D → Bool
  | .non => true
  | _ => false
def fIsN (d : D) : D → Option Vl
  | .non => vBl (isNon d)
  | _ => none
def fNotN (d : D) : D → Option Vl
  | .non => vBl (!isNon d)
  | _ => none
def flatD : D → Bool
  | .non => true
  | .bl _ => true
  | .int _ => true
  | .str _ => true
  | _ => false
/-- == of flat values -/
def eqF : D → D → Bool
  | .non, .non => true
  | .bl a, .bl b => a == b
  | .bl a, .int b => (if a then 1 else 0) == b
  | .int a, .bl b => a == (if b then 1 else 0)
  | .int a, .int b => a == b
  | .str a, .str b => a == b
  | _, _ => false
def inFl (d : D) (ds : List D) : Option Bool := if flatD d && ds.all flatD then some (ds.any fun y => eqF y d) else none
/-- x in a list or tuple of flat things -/
def fIn (d : D) : D → Option Vl
  | .box .lst ds => (inFl d ds).map fun b => (0, .bl b)
  | .box .tup ds => (inFl d ds).map fun b => (0, .bl b)
  | _ => none
def fNotIn (d : D) : D → Option Vl
  | .box .lst ds => (inFl d ds).map fun b => (0, .bl (!b))
  | .box .tup ds => (inFl d ds).map fun b => (0, .bl (!b))
  | _ => none
def ixD {α : Type} (xs : List α) (i : Int) : Option α := if 0 ≤ i then xs[i.toNat]? else if -(xs.length : Int) ≤ i then xs[(i + xs.length).toNat]? else none
/-- a list's, a tuple's, a text's item -/
def fIx : D → D → Option Vl
  | .box .lst ds, .int i => (ixD ds i).map fun d => (0, d)
  | .box .tup ds, .int i => (ixD ds i).map fun d => (0, d)
  | .str x, .int i => if x.length ≤ sLine then (ixD x.cps.toList i).map fun c => (0, .str ⟨#[c]⟩) else none
  | _, _ => none
def sIxD (n d : Nat) : Option Int → Nat
  | none => d
  | some v => if v < 0 then (v + (n : Int)).toNat else min v.toNat n
def cutD {α : Type} (ds : List α) (lo hi : Option Int) : List α := (ds.drop (sIxD ds.length 0 lo)).take (sIxD ds.length ds.length hi - sIxD ds.length 0 lo)
def fCut (lo hi : Option Int) : D → Option Vl
  | .box .lst ds => some (1, .lst (cutD ds lo hi))
  | .box .tup ds => some (0, .tup (cutD ds lo hi))
  | _ => none
def intO : D → Option Int
  | .int i => some i
  | _ => none
def oPart : Option (M Item) → M (Option Int)
  | none => ret none
  | some m => bnd m fun x => bnd (res x) fun d => bnd (opt (intO d)) fun i => ret (some i)
/-- a[lo:hi] -/
def vCut (a : M Item) (lo hi : Option (M Item)) : M Vl := bnd a fun x => bnd (oPart lo) fun l => bnd (oPart hi) fun h => bnd (res x) fun d => opt (fCut l h d)
def fRev : D → Option Vl
  | .box .lst ds => some (1, .lst ds.reverse)
  | .box .tup ds => some (0, .tup ds.reverse)
  | _ => none

/-! ### built-ins by trees -/
def fLen : List D → Option Vl
  | [.box .lst ds] => vInt ds.length
  | [.box .tup ds] => vInt ds.length
  | [.box (.dK ks) _] => vInt ks.length
  | [.str x] => if x.length ≤ sLine then vInt x.length else none
  | _ => none
def blsOf : List D → Option (List Bool)
  | [] => some []
  | .bl b :: ds => (blsOf ds).map (b :: ·)
  | _ :: _ => none
def fAll : List D → Option Vl
  | [.box .lst ds] => (blsOf ds).map fun bs => (0, .bl (bs.all id))
  | _ => none
def fAny : List D → Option Vl
  | [.box .lst ds] => (blsOf ds).map fun bs => (0, .bl (bs.any id))
  | _ => none
def fInt : List D → Option Vl
  | [.int i] => vInt i
  | [.bl b] => vInt (if b then 1 else 0)
  | _ => none
def fAbs : List D → Option Vl
  | [.int i] => vInt (if i < 0 then -i else i)
  | _ => none
def fList : List D → Option Vl
  | [.box .lst ds] => some (1, .lst ds)
  | [.box .tup ds] => some (1, .lst ds)
  | [.scr ns] => some (1, .lst (ns.map .int))
  | _ => none
def fTuple : List D → Option Vl
  | [.box .lst ds] => some (0, .tup ds)
  | [.box .tup ds] => some (0, .tup ds)
  | _ => none
def intsOf : List D → Option (List Int)
  | [] => some []
  | .int i :: ds => (intsOf ds).map (i :: ·)
  | _ :: _ => none
def fSum : List D → Option Vl
  | [.box .lst ds] => (intsOf ds).map fun ns => (0, .int ns.sum)
  | _ => none
def sortI (ns : List Int) : List Int := ns.mergeSort (fun a b => decide (a ≤ b))
/-- sorted, of numbers -/
def fSorted : List D → Option Vl
  | [.box .lst ds] => (intsOf ds).map fun ns => (1, .lst ((sortI ns).map .int))
  | [.box .tup ds] => (intsOf ds).map fun ns => (1, .lst ((sortI ns).map .int))
  | _ => none
/-! ### isinstance -/
inductive Ty where
  | int | bool | str | list | tuple | dict | own (k : Nat)
  deriving DecidableEq
def isTy : Ty → D → Option Bool
  | .int, .int _ => some true
  | .int, .bl _ => some true
  | .bool, .bl _ => some true
  | .str, .str _ => some true
  | .list, .box .lst _ => some true
  | .tuple, .box .tup _ => some true
  | .dict, .box (.dK _) _ => some true
  | .own k, .box (.ins k' _) _ => some (k == k')
  | _, .scr _ => none
  | _, .box (.dT _) _ => none
  | _, _ => some false
def tyAny : List Ty → D → Option Bool
  | [], _ => some false
  | t :: ts, d => (isTy t d).bind fun b => if b then some true else tyAny ts d
def vIsI (ts : List Ty) (a : M Item) : M Vl := op1 (fun d => (tyAny ts d).map fun b => (0, .bl b)) a

/-! ### lists and dicts that change -/
/-- xs.append(e), xs a name -/
def vAppend (i : Nat) (m : M Vl) : M Vl := bnd (oV m) fun x => match x with
  | .val d => fun e => match getS e i with
    | some (n + 1, .box .lst ds) => if ds.length < sLine then .ok (0, .non) (e.set i (some (1, .lst (ds ++ [d])))) else .stuck
    | _ => .stuck
  | _ => stk
def keyD : D → Option Key
  | .int i => some (.inl i)
  | .str x => some (.inr x)
  | _ => none
def findK {α : Type} [DecidableEq α] : List α → List D → α → Option D
  | k :: ks, d :: ds, x => if k = x then some d else findK ks ds x
  | _, _, _ => none
def putK {α : Type} [DecidableEq α] (ks : List α) (ds : List D) (x : α) (y : D) : List α × List D :=
  if (ks.any fun k => decide (k = x)) = true then (ks, List.zipWith (fun k d => if k = x then y else d) ks ds) else (ks ++ [x], ds ++ [y])
/-- d[k] -/
def fGet : D → D → Option Vl
  | .box (.dK ks) ds, k => (keyD k).bind fun k => (findK ks ds k).map fun d => (0, d)
  | _, _ => none
/-- d[k] = e, d a name -/
def sPut (i : Nat) (k : M Item) (m : M Vl) : M Fl := bnd (oV m) fun x => bnd k fun y => bnd (res y) fun kd => match x with
  | .val d => fun e => match getS e i, keyD kd with
    | some (n + 1, .box (.dK ks) ds), some k => if ks.length < sLine then .ok .nx (e.set i (some (1, .dK (putK ks ds k d).1 (putK ks ds k d).2))) else .stuck
    | _, _ => .stuck
  | _ => stk

end Mini

set_option Elab.async false
set_option linter.all false
set_option maxRecDepth 100000
/-! MRep: a tree stands at a value: in what never changes (F), and to a depth as one's own. -/
namespace Mini
open PySem L2
/-- the own classes: where they stand, how many they are -/
structure CT where
  a : Nat → Addr
  n : Nat
/-- what the written part says of an own class whose instances are made -/
structure GoodC (K : PySem.W.Frag) (C : CT) (k : Nat) : Prop where
  lt : k < C.n
  cls : Cls K (C.a k)
  ha : PySem.W.findIn K (.ref (C.a k)) "__class__" = some (some (.builtin "object.__class__"))
  hn : PySem.W.specialIn K (.builtin "object.__class__") "__get__" = some (some (.builtin "getset_descriptor.__get__"))
  htk : PySem.W.takesIn K (.builtin "object.__class__") = some true
  hm : PySem.W.mroIn K (C.a k) (.type "object") = some true
/-- a tuple that is read: as it was laid, or of the written part; it has no dict -/
def TupS (K : PySem.W.Frag) (F : Hp) (a : Addr) (vs : List V) : Prop :=
  (∃ o : Obj, F a = some (.frz o (.tup vs)) ∧ o.dict = none) ∨ ∃ (o : Obj) (its : Array Value) (n : Nat), K.lookup a = some o ∧ o.cls = .type "tuple" ∧ o.dict = none ∧ o.data = .seq its n ∧ its.size ≤ sizeLine ∧ Vals vs its.toList
theorem TupS.sq {K : PySem.W.Frag} {F : Hp} {a : Addr} {vs : List V} : TupS K F a vs → SqT K F a vs
  | .inl ⟨o, h, _⟩ => .inl (.inr ⟨o, h⟩)
  | .inr ⟨o, its, n, h1, h2, _, h3, h4, h5⟩ => .inr ⟨o, its, n, h1, h2, h3, h4, h5⟩
/-- a dict's entries by tuples of numbers: the numbers, where the tuple stands, the value -/
abbrev XsT := List (List Int × Addr × Value)
def entT (x : List Int × Addr × Value) : DictEntry := ⟨reduceHash (Builtin.Tuple.tupleHashOf (x.1.map hashInt)), .ref x.2.1, x.2.2⟩
def phiT (a : Addr) (xs : XsT) : Heap → Prop := fun h => ∃ o es ep, h.get? a = some o ∧ o.ExactDict ∧ o.data = .dict es ep ∧ es.toList = xs.map entT
/-- what stands at a -/
def Stand (K : PySem.W.Frag) (C : CT) (F : Hp) (a : Addr) (vs : List V) : Hd → Prop
  | .tup => TupS K F a vs
  | .lst => F a = some (.lst vs)
  | .dK ks => F a = some (.dK (ks.zip vs)) ∧ ks.length = vs.length
  | .dT ks => ∃ xs : XsT, F a = some (.ext (phiT a xs)) ∧ (a == sysModules) = false ∧ xs.length ≤ sizeLine ∧ ks.Nodup ∧ xs.map (·.1) = ks ∧ ∃ ws, Vals ws (xs.map (·.2.2)) ∧ vs = xs.map (fun x => .ref x.2.1) ++ ws
  | .ins c ns => ((∃ dx, F a = some (.ins (C.a c) dx (ns.zip vs))) ∧ GoodC K C c) ∧ ns.length = vs.length
section
variable (K : PySem.W.Frag) (C : CT) (F H : Hp)
mutual
def Rep : D → V → Prop
  | .non, v => v = .non
  | .bl b, v => v = .bl b
  | .int i, v => v = .int i
  | .str x, v => v = .str x
  | .box h ds, v => ∃ a vs, v = .ref a ∧ Stand K C F a vs h ∧ ds.length ≤ sizeLine ∧ Reps ds vs
  | .scr ns, v => ∃ a, v = .ref a ∧ SqL K F a (ns.map V.int) ∧ ns.length ≤ sizeLine
def Reps : List D → List V → Prop
  | [], vs => vs = []
  | d :: ds, vs => ∃ v ws, vs = v :: ws ∧ Rep d v ∧ Reps ds ws
end
mutual
/-- to the depth n what stands there is its own: fp tells where -/
def Own : D → Nat → V → List Addr → Prop
  | .box h ds, n, v, fp => if n = 0 ∨ h = .tup then Rep K C F (.box h ds) v ∧ fp = [] else
      ∃ a vs fp', v = .ref a ∧ F a = none ∧ Stand K C H a vs h ∧ ds.length ≤ sizeLine ∧ Owns ds (n - 1) vs fp' ∧ fp = a :: fp'
  | .non, _, v, fp => v = .non ∧ fp = []
  | .bl b, _, v, fp => v = .bl b ∧ fp = []
  | .int i, _, v, fp => v = .int i ∧ fp = []
  | .str x, _, v, fp => v = .str x ∧ fp = []
  | .scr ns, _, v, fp => Rep K C F (.scr ns) v ∧ fp = []
def Owns : List D → Nat → List V → List Addr → Prop
  | [], _, vs, fp => vs = [] ∧ fp = []
  | d :: ds, n, vs, fp => ∃ v ws p q, vs = v :: ws ∧ Own d n v p ∧ Owns ds n ws q ∧ fp = p ++ q
end
end
section
variable {K : PySem.W.Frag} {C : CT} {F F' H H' G : Hp}
theorem SqT.mono {a : Addr} {xs : List V} (e : Same F F') (h : SqT K F a xs) : SqT K F' a xs := by
  rcases h with (h | ⟨o, h⟩) | h
  · exact .inl (.inl (e _ _ h))
  · exact .inl (.inr ⟨o, e _ _ h⟩)
  · exact .inr h
theorem TupS.mono {a : Addr} {xs : List V} (e : Same F F') (h : TupS K F a xs) : TupS K F' a xs := by
  rcases h with ⟨o, h, k⟩ | h
  · exact .inl ⟨o, e _ _ h, k⟩
  · exact .inr h
theorem Stand.mono {a : Addr} {vs : List V} (e : Same F F') : ∀ {h : Hd}, Stand K C F a vs h → Stand K C F' a vs h
  | .tup, s => TupS.mono e s
  | .lst, s => e _ _ s
  | .dK _, s => ⟨e _ _ s.1, s.2⟩
  | .dT _, s => s.imp fun _ q => ⟨e _ _ q.1, q.2⟩
  | .ins _ _, s => ⟨⟨s.1.1.imp fun _ q => e _ _ q, s.1.2⟩, s.2⟩
/-- what is no tuple stands as one object -/
theorem Stand.some {a : Addr} {vs : List V} : ∀ {h : Hd}, h ≠ .tup → Stand K C F a vs h → ∃ o, F a = Option.some o ∧ ∀ F', F' a = F a → Stand K C F' a vs h
  | .tup, n, _ => absurd rfl n
  | .lst, _, s => ⟨_, s, fun F' e => e.trans s⟩
  | .dK _, _, s => ⟨_, s.1, fun F' e => ⟨e.trans s.1, s.2⟩⟩
  | .dT _, _, ⟨xs, s⟩ => ⟨_, s.1, fun F' e => ⟨xs, e.trans s.1, s.2⟩⟩
  | .ins _ _, _, ⟨⟨⟨dx, s⟩, g⟩, l⟩ => ⟨_, s, fun F' e => ⟨⟨⟨dx, e.trans s⟩, g⟩, l⟩⟩
mutual
theorem Rep.mono (e : Same F F') : ∀ {d : D} {v : V}, Rep K C F d v → Rep K C F' d v
  | .non, _, h => h
  | .bl _, _, h => h
  | .int _, _, h => h
  | .str _, _, h => h
  | .box _ _, _, ⟨a, vs, h1, h2, h3, h4⟩ => ⟨a, vs, h1, h2.mono e, h3, Reps.mono e h4⟩
  | .scr _, _, ⟨a, h1, h2, h3⟩ => ⟨a, h1, Same.seq e h2, h3⟩
theorem Reps.mono (e : Same F F') : ∀ {ds : List D} {vs : List V}, Reps K C F ds vs → Reps K C F' ds vs
  | [], _, h => h
  | _ :: _, _, ⟨v, ws, h1, h2, h3⟩ => ⟨v, ws, h1, Rep.mono e h2, Reps.mono e h3⟩
end
theorem Reps.length : ∀ {ds : List D} {vs : List V}, Reps K C F ds vs → ds.length = vs.length
  | [], _, h => by
    have h : _ = [] := h
    subst h; rfl
  | _ :: ds, _, ⟨v, ws, h1, h2, h3⟩ => by
    subst h1
    simp [Reps.length h3]
mutual
/-- what is one's own stands in every heap that has it -/
theorem Own.rep (e : Same F G) : ∀ {d : D} {n : Nat} {v : V} {fp : List Addr}, Own K C F H d n v fp → (∀ a ∈ fp, G a = H a) → Rep K C G d v
  | .non, _, _, _, h, _ => h.1
  | .bl _, _, _, _, h, _ => h.1
  | .int _, _, _, _, h, _ => h.1
  | .str _, _, _, _, h, _ => h.1
  | .scr _, _, _, _, h, _ => h.1.mono e
  | .box h ds, n, v, fp, o, k => by
    unfold Own at o
    split at o
    · exact o.1.mono e
    · rename_i hn
      obtain ⟨a, vs, fp', rfl, h1, h2, h3, h4, rfl⟩ := o
      obtain ⟨_, _, q⟩ := h2.some (fun z => hn (.inr z))
      exact ⟨a, vs, rfl, q G (k a List.mem_cons_self), h3, Owns.reps e h4 fun b hb => k b (List.mem_cons_of_mem _ hb)⟩
theorem Owns.reps (e : Same F G) : ∀ {ds : List D} {n : Nat} {vs : List V} {fp : List Addr}, Owns K C F H ds n vs fp → (∀ a ∈ fp, G a = H a) → Reps K C G ds vs
  | [], _, _, _, h, _ => h.1
  | d :: ds, n, vs, fp, ⟨v, ws, p, q, h1, h2, h3, h4⟩, k => by
    subst h4
    exact ⟨v, ws, h1, Own.rep e h2 fun b hb => k b (List.mem_append_left _ hb), Owns.reps e h3 fun b hb => k b (List.mem_append_right _ hb)⟩
end
mutual
theorem Own.frame (e : Same F F') : ∀ {d : D} {n : Nat} {v : V} {fp : List Addr}, Own K C F H d n v fp → (∀ a ∈ fp, H' a = H a ∧ F' a = none) → Own K C F' H' d n v fp
  | .non, _, _, _, h, _ => h
  | .bl _, _, _, _, h, _ => h
  | .int _, _, _, _, h, _ => h
  | .str _, _, _, _, h, _ => h
  | .scr _, _, _, _, h, _ => ⟨h.1.mono e, h.2⟩
  | .box h ds, n, v, fp, o, k => by
    unfold Own at o ⊢
    split at o
    · rename_i hn
      rw [if_pos hn]
      exact ⟨o.1.mono e, o.2⟩
    · rename_i hn
      rw [if_neg hn]
      obtain ⟨a, vs, fp', h0, h1, h2, h3, h4, rfl⟩ := o
      obtain ⟨_, _, q⟩ := h2.some (fun z => hn (.inr z))
      exact ⟨a, vs, fp', h0, (k a List.mem_cons_self).2, q H' (k a List.mem_cons_self).1, h3, Owns.frame e h4 fun b hb => k b (List.mem_cons_of_mem _ hb), rfl⟩
theorem Owns.frame (e : Same F F') : ∀ {ds : List D} {n : Nat} {vs : List V} {fp : List Addr}, Owns K C F H ds n vs fp → (∀ a ∈ fp, H' a = H a ∧ F' a = none) → Owns K C F' H' ds n vs fp
  | [], _, _, _, h, _ => h
  | d :: ds, n, vs, fp, ⟨v, ws, p, q, h1, h2, h3, h4⟩, k => by
    subst h4
    exact ⟨v, ws, p, q, h1, Own.frame e h2 fun b hb => k b (List.mem_append_left _ hb), Owns.frame e h3 fun b hb => k b (List.mem_append_right _ hb), rfl⟩
end
mutual
theorem Own.fp : ∀ {d : D} {n : Nat} {v : V} {fp : List Addr}, Own K C F H d n v fp → ∀ a ∈ fp, F a = none ∧ H a ≠ none
  | .non, _, _, _, h, _, m => by rw [h.2] at m; cases m
  | .bl _, _, _, _, h, _, m => by rw [h.2] at m; cases m
  | .int _, _, _, _, h, _, m => by rw [h.2] at m; cases m
  | .str _, _, _, _, h, _, m => by rw [h.2] at m; cases m
  | .scr _, _, _, _, h, _, m => by rw [h.2] at m; cases m
  | .box h ds, n, v, fp, o, b, m => by
    unfold Own at o
    split at o
    · rw [o.2] at m; cases m
    · rename_i hn
      obtain ⟨a, vs, fp', h0, h1, h2, h3, h4, rfl⟩ := o
      obtain ⟨o, q1, q⟩ := h2.some (fun z => hn (.inr z))
      rcases List.mem_cons.mp m with rfl | m
      · exact ⟨h1, by rw [q1]; exact fun z => nomatch z⟩
      · exact Owns.fp h4 b m
theorem Owns.fp : ∀ {ds : List D} {n : Nat} {vs : List V} {fp : List Addr}, Owns K C F H ds n vs fp → ∀ a ∈ fp, F a = none ∧ H a ≠ none
  | [], _, _, _, h, _, m => by rw [h.2] at m; cases m
  | d :: ds, n, vs, fp, ⟨v, ws, p, q, h1, h2, h3, h4⟩, b, m => by
    subst h4
    rcases List.mem_append.mp m with m | m
    · exact Own.fp h2 b m
    · exact Owns.fp h3 b m
end
theorem Owns.length : ∀ {ds : List D} {n : Nat} {vs : List V} {fp : List Addr}, Owns K C F H ds n vs fp → ds.length = vs.length
  | [], _, _, _, h => by
    rw [h.1]; rfl
  | _ :: ds, _, _, _, ⟨v, ws, p, q, h1, h2, h3, h4⟩ => by
    subst h1
    simp [Owns.length h3]
/-- frozen -/
theorem Own.zero {d : D} {v : V} (h : Rep K C F d v) : Own K C F H d 0 v [] := by
  cases d with
  | box h' ds => unfold Own; rw [if_pos (.inl rfl)]; exact ⟨h, rfl⟩
  | non => exact ⟨h, rfl⟩
  | bl _ => exact ⟨h, rfl⟩
  | int _ => exact ⟨h, rfl⟩
  | str _ => exact ⟨h, rfl⟩
  | scr _ => exact ⟨h, rfl⟩
theorem Own.of_zero {d : D} {v : V} {fp : List Addr} (h : Own K C F H d 0 v fp) : Rep K C F d v ∧ fp = [] := by
  cases d with
  | box h' ds => unfold Own at h; rw [if_pos (.inl rfl)] at h; exact h
  | non => exact h
  | bl _ => exact h
  | int _ => exact h
  | str _ => exact h
  | scr _ => exact h
theorem Owns.zero : ∀ {ds : List D} {vs : List V}, Reps K C F ds vs → Owns K C F H ds 0 vs []
  | [], _, h => ⟨h, rfl⟩
  | _ :: _, _, ⟨v, ws, h1, h2, h3⟩ => ⟨v, ws, [], [], h1, Own.zero h2, Owns.zero h3, rfl⟩
theorem Owns.of_zero : ∀ {ds : List D} {vs : List V} {fp : List Addr}, Owns K C F H ds 0 vs fp → Reps K C F ds vs ∧ fp = []
  | [], _, _, h => h
  | _ :: _, _, _, ⟨v, ws, p, q, h1, h2, h3, h4⟩ => by
    obtain ⟨r, rfl⟩ := h2.of_zero
    obtain ⟨r2, rfl⟩ := Owns.of_zero h3
    exact ⟨⟨v, ws, h1, r, r2⟩, h4⟩
mutual
/-- to a lesser depth: what is given up is among what never changes -/
theorem Own.lower : ∀ {d : D} {n m : Nat} {v : V} {fp : List Addr}, Own K C F H d n v fp → m ≤ n → fp.Nodup →
    ∃ fp', fp'.Sublist fp ∧ ∀ G, Same F G → (∀ a ∈ fp, a ∉ fp' → G a = H a) → (∀ a ∈ fp', G a = none) → Own K C G H d m v fp'
  | .non, _, _, _, fp, h, _, _ => ⟨fp, List.Sublist.refl _, fun _ _ _ _ => h⟩
  | .bl _, _, _, _, fp, h, _, _ => ⟨fp, List.Sublist.refl _, fun _ _ _ _ => h⟩
  | .int _, _, _, _, fp, h, _, _ => ⟨fp, List.Sublist.refl _, fun _ _ _ _ => h⟩
  | .str _, _, _, _, fp, h, _, _ => ⟨fp, List.Sublist.refl _, fun _ _ _ _ => h⟩
  | .scr _, _, _, _, fp, h, _, _ => ⟨fp, List.Sublist.refl _, fun _ e _ _ => ⟨h.1.mono e, h.2⟩⟩
  | .box h ds, n, m, v, fp, o, hm, nd => by
    by_cases hm0 : m = 0
    · subst hm0
      exact ⟨[], List.nil_sublist _, fun G e k _ => Own.zero (Own.rep e o fun a ha => k a ha (by simp))⟩
    · unfold Own at o
      split at o
      · rename_i hn
        have ht : h = .tup := by
          rcases hn with z | z
          · omega
          · exact z
        obtain ⟨r, rfl⟩ := o
        refine ⟨[], List.nil_sublist _, fun G e _ _ => ?_⟩
        unfold Own
        rw [if_pos (.inr ht)]
        exact ⟨r.mono e, rfl⟩
      · rename_i hn
        obtain ⟨a, vs, fp', h0, h1, h2, h3, h4, rfl⟩ := o
        obtain ⟨na, nd'⟩ := List.nodup_cons.mp nd
        obtain ⟨fq, sq, k⟩ := Owns.lower h4 (show m - 1 ≤ n - 1 by omega) nd'
        refine ⟨a :: fq, sq.cons_cons a, fun G e g1 g2 => ?_⟩
        unfold Own
        rw [if_neg (fun z => z.elim (fun z => hm0 z) fun z => hn (.inr z))]
        exact ⟨a, vs, fq, h0, g2 a List.mem_cons_self, h2, h3, k G e (fun b hb hq => g1 b (List.mem_cons_of_mem _ hb) (fun z => by
          rcases List.mem_cons.mp z with z | z
          · exact na (z ▸ hb)
          · exact hq z)) (fun b hb => g2 b (List.mem_cons_of_mem _ hb)), rfl⟩
theorem Owns.lower : ∀ {ds : List D} {n m : Nat} {vs : List V} {fp : List Addr}, Owns K C F H ds n vs fp → m ≤ n → fp.Nodup →
    ∃ fp', fp'.Sublist fp ∧ ∀ G, Same F G → (∀ a ∈ fp, a ∉ fp' → G a = H a) → (∀ a ∈ fp', G a = none) → Owns K C G H ds m vs fp'
  | [], _, _, _, fp, h, _, _ => ⟨fp, List.Sublist.refl _, fun _ _ _ _ => h⟩
  | d :: ds, n, m, vs, fp, ⟨v, ws, p, q, h1, h2, h3, h4⟩, hm, nd => by
    subst h4
    obtain ⟨n1, n2, n3⟩ := List.nodup_append.mp nd
    obtain ⟨fp1, s1, k1⟩ := Own.lower h2 hm n1
    obtain ⟨fp2, s2, k2⟩ := Owns.lower h3 hm n2
    refine ⟨fp1 ++ fp2, s1.append s2, fun G e g1 g2 => ⟨v, ws, fp1, fp2, h1, k1 G e (fun b hb hn => g1 b (List.mem_append_left _ hb) fun z => ?_) (fun b hb => g2 b (List.mem_append_left _ hb)), k2 G e (fun b hb hn => g1 b (List.mem_append_right _ hb) fun z => ?_) (fun b hb => g2 b (List.mem_append_right _ hb)), rfl⟩⟩
    · rcases List.mem_append.mp z with z | z
      · exact hn z
      · exact n3 b hb b (s2.subset z) rfl
    · rcases List.mem_append.mp z with z | z
      · exact n3 b (s1.subset z) b hb rfl
      · exact hn z
end
/-- what is given up is added to what never changes -/
def fzl (F H : Hp) (fp : List Addr) : Hp := fun a => if a ∈ fp then H a else F a
theorem fzl_same {fp : List Addr} (h : ∀ a ∈ fp, F a = none) : Same F (fzl F H fp) := fun a o e => by
  unfold fzl
  by_cases m : a ∈ fp
  · rw [h a m] at e; cases e
  · rw [if_neg m]; exact e
theorem fzl_sub {fp : List Addr} (s : Same F H) : Same (fzl F H fp) H := fun a o e => by
  unfold fzl at e
  by_cases m : a ∈ fp
  · rw [if_pos m] at e; exact e
  · rw [if_neg m] at e; exact s a o e
theorem fzl_in {fp : List Addr} {a : Addr} (m : a ∈ fp) : fzl F H fp a = H a := if_pos m
theorem fzl_out {fp : List Addr} {a : Addr} (m : a ∉ fp) : fzl F H fp a = F a := if_neg m
end
end Mini

set_option Elab.async false
set_option linter.all false
set_option maxRecDepth 100000
/-! MOk: what the small semantics says holds of the program: judgements, names, operators, tests, statements, loops. -/
namespace Mini
open PySem L2
/-- the laws' fixed part: the written part, the classes' addresses -/
structure Ctx where
  K : PySem.W.Frag
  C : CT
abbrev Pins := List (Nat × V)
/-- slots and heap are as the small semantics says; P: what others hold, untouched; pn: slots that keep their value -/
def Rel (c : Ctx) (pn : Pins) (F : Hp) (e : Env) (σ : St) (H : Hp) (P : Addr → Prop) : Prop :=
  ∃ φ : Nat → List Addr, e.length = σ.length ∧ Same F H ∧ (∀ i n d, getS e i = some (n, d) → ∃ v, σ[i]? = some (some v) ∧ Own c.K c.C F H d n v (φ i)) ∧ (∀ i, getS e i = none → φ i = []) ∧
    (∀ i, (φ i).Nodup) ∧ (∀ i j a, i ≠ j → a ∈ φ i → a ∉ φ j) ∧ (∀ a, P a → H a ≠ none ∧ F a = none ∧ ∀ i, a ∉ φ i) ∧ ∀ p ∈ pn, σ[p.1]? = some (some p.2)
/-- .. and v is a new value to the depth n, apart from all of them -/
def RelV (c : Ctx) (pn : Pins) (F : Hp) (e : Env) (σ : St) (H : Hp) (P : Addr → Prop) (v : V) (n : Nat) (d : D) : Prop :=
  ∃ fx, Own c.K c.C F H d n v fx ∧ fx.Nodup ∧ (∀ a ∈ fx, ¬ P a) ∧ Rel c pn F e σ H (fun a => P a ∨ a ∈ fx)
/-- an exception's fields -/
def XRep (c : Ctx) (F H : Hp) (dd : Option Addr) (ns : List Str) (ds : List D) : Prop :=
  ∃ vs, Reps c.K c.C F ds vs ∧ ns.length = vs.length ∧ ((dd = none ∧ ns = []) ∨ ∃ a fs, dd = some a ∧ H a = some (.xd fs) ∧ ∀ f, fs.lookup f = (ns.zip vs).lookup f)
/-- from one state to a later one -/
structure Later (F H F' H' : Hp) (P : Addr → Prop) : Prop where
  F : Same F F'
  P : ∀ a, P a → H' a = H a
theorem Later.rfl {F H : Hp} {P : Addr → Prop} : Later F H F H P := ⟨Same.refl _, fun _ _ => Eq.refl _⟩
theorem Later.trans {F H F1 H1 F2 H2 : Hp} {P : Addr → Prop} (a : Later F H F1 H1 P) (b : Later F1 H1 F2 H2 P) : Later F H F2 H2 P :=
  ⟨a.F.trans b.F, fun x h => (b.P x h).trans (a.P x h)⟩
def IRel (c : Ctx) (F : Hp) (σ : St) : Item → V → Prop
  | .val d, v => Rep c.K c.C F d v
  | .bor i, v => σ[i]? = some (some v)
def IRels (c : Ctx) (F : Hp) (σ : St) : List Item → List V → Prop
  | [], vs => vs = []
  | x :: xs, vs => ∃ v ws, vs = v :: ws ∧ IRel c F σ x v ∧ IRels c F σ xs ws
theorem IRel.mono {c : Ctx} {F F' : Hp} {σ : St} (e : Same F F') : ∀ {x : Item} {v : V}, IRel c F σ x v → IRel c F' σ x v
  | .val _, _, h => Rep.mono e h
  | .bor _, _, h => h
theorem IRels.mono {c : Ctx} {F F' : Hp} {σ : St} (e : Same F F') : ∀ {xs : List Item} {vs : List V}, IRels c F σ xs vs → IRels c F' σ xs vs
  | [], _, h => h
  | _ :: _, _, ⟨v, ws, h1, h2, h3⟩ => ⟨v, ws, h1, h2.mono e, h3.mono e⟩

/-- an exception of the small semantics leaves -/
def Exc (c : Ctx) (pn : Pins) (W : WX) (F H : Hp) (P : Addr → Prop) (σ : St) (k : Nat) (ns : List Str) (ds : List D) (e' : Env) : Prop :=
  ∀ dd σ' F' H', Later F H F' H' P → Rel c pn F' e' σ' H' P → XRep c F' H' dd ns ds → W (.ref (c.C.a k)) dd σ' H'
/-- what must hold behind -/
def PoV (c : Ctx) (pn : Pins) (W : WX) (σ : St) (P : Addr → Prop) (F H : Hp) (Q : VK) : Res Vl → Prop
  | .ok (n, d) e' => ∀ v F' H', Later F H F' H' P → RelV c pn F' e' σ H' P v n d → Q v H'
  | .exc k ns ds e' => Exc c pn W F H P σ k ns ds e'
  | .stuck => False
def PoR {α β : Type} (c : Ctx) (pn : Pins) (W : WX) (σ : St) (R : Hp → α → β → Prop) (P : Addr → Prop) (F H : Hp) (Q : β → Hp → Prop) : Res α → Prop
  | .ok x e' => ∀ v F' H', Later F H F' H' P → Rel c pn F' e' σ H' P → R F' x v → Q v H'
  | .exc k ns ds e' => Exc c pn W F H P σ k ns ds e'
  | .stuck => False
def PoS (c : Ctx) (pn : Pins) (W : WX) (σ : St) (P : Addr → Prop) (F H : Hp) (D : Ends) : Res Fl → Prop
  | .ok .nx e' => ∀ σ' F' H', Later F H F' H' P → Rel c pn F' e' σ' H' P → D.nx σ' H'
  | .ok .bk e' => ∀ σ' F' H', Later F H F' H' P → Rel c pn F' e' σ' H' P → D.bk σ' H'
  | .ok .ct e' => ∀ σ' F' H', Later F H F' H' P → Rel c pn F' e' σ' H' P → D.ct σ' H'
  | .ok (.rt (n, d)) e' => ∀ v σ' F' H', Later F H F' H' P → RelV c pn F' e' σ' H' P v n d → D.rt v H'
  | .exc k ns ds e' => Exc c pn W F H P σ k ns ds e'
  | .stuck => False
/-- the readings -/
def rdV (c : Ctx) (pn : Pins) (W : WX) (m : M Vl) : TE := fun σ H Q => ∃ F e P, Rel c pn F e σ H P ∧ PoV c pn W σ P F H Q (m e)
def rdO (c : Ctx) (pn : Pins) (W : WX) (m : M Item) : TE := fun σ H Q => ∃ F e P, Rel c pn F e σ H P ∧ PoR c pn W σ (fun F x v => IRel c F σ x v) P F H Q (m e)
def rdT (c : Ctx) (pn : Pins) (W : WX) (m : M Bool) : TT := fun σ H Q => ∃ F e P, Rel c pn F e σ H P ∧ PoR c pn W σ (fun _ x v => v = x) P F H Q (m e)
def rdA (c : Ctx) (pn : Pins) (W : WX) (m : M (List Item)) : TA := fun σ H Q => ∃ F e P, Rel c pn F e σ H P ∧ PoR c pn W σ (fun F x v => IRels c F σ x v) P F H Q (m e)
def rdS (c : Ctx) (pn : Pins) (W : WX) (m : M Fl) : TS := fun D σ H => ∃ F e P, Rel c pn F e σ H P ∧ PoS c pn W σ P F H D (m e)
structure OkV (X : Cx) (c : Ctx) (pn : Pins) (W : WX) (e : Expr) (m : M Vl) : Prop where
  ok : PE X e (rdV c pn W m)
structure OkO (X : Cx) (c : Ctx) (pn : Pins) (W : WX) (e : Expr) (m : M Item) : Prop where
  ok : PE X e (rdO c pn W m)
structure OkT (X : Cx) (c : Ctx) (pn : Pins) (W : WX) (e : Expr) (m : M Bool) : Prop where
  ok : PT X e (rdT c pn W m)
structure OkA (X : Cx) (c : Ctx) (pn : Pins) (W : WX) (es : List Expr) (m : M (List Item)) : Prop where
  ok : PA X es (rdA c pn W m)
structure OkS (X : Cx) (c : Ctx) (pn : Pins) (W : WX) (st : Stmt) (m : M Fl) : Prop where
  ok : PS X st (rdS c pn W m)
structure OkSs (X : Cx) (c : Ctx) (pn : Pins) (W : WX) (sts : List Stmt) (m : M Fl) : Prop where
  ok : PSs X sts (rdS c pn W m)
theorem PE.imp {X : Cx} {e : Expr} {t t' : TE} (h : PE X e t) (k : ∀ σ H Q, t' σ H Q → t σ H Q) : PE X e t' := ⟨fun pins s σ H Q I q => h.run pins s σ H Q I (k σ H Q q)⟩
theorem PT.imp {X : Cx} {e : Expr} {t t' : TT} (h : PT X e t) (k : ∀ σ H Q, t' σ H Q → t σ H Q) : PT X e t' := ⟨fun pins s σ H Q I q => h.run pins s σ H Q I (k σ H Q q)⟩
theorem PA.imp {X : Cx} {e : List Expr} {t t' : TA} (h : PA X e t) (k : ∀ σ H Q, t' σ H Q → t σ H Q) : PA X e t' := ⟨fun pos pins s σ H Q I q => h.run pos pins s σ H Q I (k σ H Q q)⟩
theorem PS.imp {X : Cx} {e : Stmt} {t t' : TS} (h : PS X e t) (k : ∀ D σ H, t' D σ H → t D σ H) : PS X e t' := ⟨fun pins s σ H D I q => h.run pins s σ H D I (k D σ H q)⟩
theorem PSs.imp {X : Cx} {e : List Stmt} {t t' : TS} (h : PSs X e t) (k : ∀ D σ H, t' D σ H → t D σ H) : PSs X e t' := ⟨fun pins s σ H D I q => h.run pins s σ H D I (k D σ H q)⟩

section
variable {X : Cx} {c : Ctx} {pn : Pins} {W : WX}
/-! ### the relation's ways -/
theorem Rel.same {F H : Hp} {e : Env} {σ : St} {P : Addr → Prop} (R : Rel c pn F e σ H P) : Same F H := R.choose_spec.2.1
theorem Rel.weak {F H : Hp} {e : Env} {σ : St} {P P' : Addr → Prop} (R : Rel c pn F e σ H P) (h : ∀ a, P' a → P a) : Rel c pn F e σ H P' := by
  obtain ⟨φ, r1, r2, r3, r4, r5, r6, r7, r8⟩ := R
  exact ⟨φ, r1, r2, r3, r4, r5, r6, fun a p => r7 a (h a p), r8⟩
theorem Rel.rep {F H : Hp} {e : Env} {σ : St} {P : Addr → Prop} {i n : Nat} {d : D} (R : Rel c pn F e σ H P) (h : getS e i = some (n, d)) : ∃ v, σ[i]? = some (some v) ∧ Rep c.K c.C H d v := by
  obtain ⟨φ, r1, r2, r3, r4, r5, r6, r7, r8⟩ := R
  obtain ⟨v, h1, h2⟩ := r3 i n d h
  exact ⟨v, h1, h2.rep r2 fun _ _ => rfl⟩
theorem RelV.zero {F H : Hp} {e : Env} {σ : St} {P : Addr → Prop} {v : V} {d : D} (R : Rel c pn F e σ H P) (h : Rep c.K c.C F d v) : RelV c pn F e σ H P v 0 d :=
  ⟨[], Own.zero h, List.nodup_nil, fun _ z => by simp at z, R.weak fun a z => z.elim id fun z => by simp at z⟩
theorem getS_set {e : Env} {i j : Nat} {s : Slot} : getS (e.set i s) j = if i = j ∧ i < e.length then s else getS e j := by
  unfold getS
  rw [List.getD_eq_getElem?_getD, List.getD_eq_getElem?_getD, List.getElem?_set]
  by_cases h : i = j
  · subst h
    by_cases hl : i < e.length
    · simp [hl]
    · simp [hl]
  · simp [h]
theorem getS_lt {e : Env} {i : Nat} {v : Vl} (h : getS e i = some v) : i < e.length := by
  unfold getS at h
  rw [List.getD_eq_getElem?_getD] at h
  cases q : e[i]? with
  | none => rw [q] at h; cases h
  | some x => exact (List.getElem?_eq_some_iff.mp q).1
/-- a value is given up to what never changes -/
theorem RelV.fz {F H : Hp} {e : Env} {σ : St} {P : Addr → Prop} {v : V} {n : Nat} {d : D} (R : RelV c pn F e σ H P v n d) :
    ∃ F', Later F H F' H P ∧ Rep c.K c.C F' d v ∧ Rel c pn F' e σ H P := by
  obtain ⟨fx, o, nd, np, φ, r1, r2, r3, r4, r5, r6, r7, r8⟩ := R
  have hn : ∀ a ∈ fx, F a = none := fun a ha => (o.fp a ha).1
  refine ⟨fzl F H fx, ⟨fzl_same hn, fun _ _ => rfl⟩, o.rep (fzl_same hn) fun a ha => fzl_in ha, φ, r1, fzl_sub r2, fun i n d h => ?_, r4, r5, r6, fun a p => ?_, r8⟩
  · obtain ⟨v, h1, h2⟩ := r3 i n d h
    refine ⟨v, h1, h2.frame (fzl_same hn) fun a ha => ⟨rfl, ?_⟩⟩
    rw [fzl_out fun z => (r7 a (.inr z)).2.2 i ha]
    exact (h2.fp a ha).1
  · obtain ⟨q1, q2, q3⟩ := r7 a (.inl p)
    exact ⟨q1, by rw [fzl_out fun z => np a z p]; exact q2, q3⟩
/-- a slot is given up to the depth m -/
theorem Rel.lower {F H : Hp} {e : Env} {σ : St} {P : Addr → Prop} {i n m : Nat} {d : D} (R : Rel c pn F e σ H P) (h : getS e i = some (n, d)) (hm : m ≤ n) :
    ∃ v F' fp, σ[i]? = some (some v) ∧ Later F H F' H P ∧ Own c.K c.C F' H d m v fp ∧ Rel c pn F' (e.set i (some (m, d))) σ H P := by
  obtain ⟨φ, r1, r2, r3, r4, r5, r6, r7, r8⟩ := R
  obtain ⟨v, h1, h2⟩ := r3 i n d h
  obtain ⟨fp, sub, k⟩ := h2.lower hm (r5 i)
  have hn : ∀ a ∈ (φ i).filter (fun a => decide (a ∉ fp)), F a = none := fun a ha => (h2.fp a (List.mem_filter.mp ha).1).1
  have no : ∀ a, a ∉ φ i → a ∉ (φ i).filter (fun a => decide (a ∉ fp)) := fun a ha z => ha (List.mem_filter.mp z).1
  have O : Own c.K c.C (fzl F H ((φ i).filter (fun a => decide (a ∉ fp)))) H d m v fp := k _ (fzl_same hn) (fun a ha hq => fzl_in (List.mem_filter.mpr ⟨ha, decide_eq_true hq⟩)) fun a ha => by
    rw [fzl_out fun z => (of_decide_eq_true (List.mem_filter.mp z).2) ha]
    exact (h2.fp a (sub.subset ha)).1
  refine ⟨v, fzl F H ((φ i).filter (fun a => decide (a ∉ fp))), fp, h1, ⟨fzl_same hn, fun _ _ => rfl⟩, O, fun j => if j = i then fp else φ j, by simpa using r1, fzl_sub r2, fun j m d' h' => ?_, fun j h' => ?_, fun j => ?_, fun j k a hjk ha hk => ?_, fun a p => ?_, r8⟩
  · rw [getS_set] at h'
    by_cases hj : i = j ∧ i < e.length
    · rw [if_pos hj] at h'
      obtain ⟨rfl, _⟩ := hj
      cases h'
      refine ⟨v, h1, ?_⟩
      dsimp only
      rw [if_pos rfl]
      exact O
    · rw [if_neg hj] at h'
      have hji : j ≠ i := fun z => by
        subst z
        exact hj ⟨rfl, getS_lt h⟩
      obtain ⟨v', h1', h2'⟩ := r3 j m d' h'
      refine ⟨v', h1', ?_⟩
      dsimp only
      rw [if_neg hji]
      refine h2'.frame (fzl_same hn) fun a ha => ⟨rfl, ?_⟩
      rw [fzl_out (no a fun z => r6 j i a hji ha z)]
      exact (h2'.fp a ha).1
  · show (if j = i then fp else φ j) = []
    rw [getS_set] at h'
    split
    · rename_i hj
      subst hj
      rw [if_pos ⟨rfl, getS_lt h⟩] at h'
      cases h'
    · rename_i hj
      rw [if_neg (fun z => hj z.1.symm)] at h'
      exact r4 j h'
  · show (if j = i then fp else φ j).Nodup
    split
    · exact (r5 i).sublist sub
    · exact r5 j
  · dsimp only at ha hk
    by_cases hj : j = i
    · rw [if_pos hj] at ha
      rw [if_neg (fun z => hjk (hj.trans z.symm))] at hk
      exact r6 i k a (fun z => hjk (hj.trans z)) (sub.subset ha) hk
    · rw [if_neg hj] at ha
      by_cases hk' : k = i
      · rw [if_pos hk'] at hk
        exact r6 j i a hj ha (sub.subset hk)
      · rw [if_neg hk'] at hk
        exact r6 j k a hjk ha hk
  · obtain ⟨q1, q2, q3⟩ := r7 a p
    refine ⟨q1, by rw [fzl_out (no a (q3 i))]; exact q2, fun j => ?_⟩
    dsimp only
    split
    · exact fun z => q3 i (sub.subset z)
    · exact q3 j
/-- what a rule may read: the thing itself stands in the heap, what it holds never changes -/
def Sh (c : Ctx) (F H : Hp) : D → V → Prop
  | .box h ds, v => ∃ a vs, v = .ref a ∧ Stand c.K c.C H a vs h ∧ ds.length ≤ sizeLine ∧ Reps c.K c.C F ds vs ∧ (h = .tup → TupS c.K F a vs)
  | d, v => Rep c.K c.C F d v
theorem Sh.of_rep {F H : Hp} (s : Same F H) : ∀ {d : D} {v : V}, Rep c.K c.C F d v → Sh c F H d v
  | .box _ _, _, ⟨a, vs, h1, h2, h3, h4⟩ => ⟨a, vs, h1, h2.mono s, h3, h4, fun e => by subst e; exact h2⟩
  | .non, _, h => h
  | .bl _, _, h => h
  | .int _, _, h => h
  | .str _, _, h => h
  | .scr _, _, h => h
theorem Sh.of_own {F H : Hp} (s : Same F H) {n : Nat} (hn : n ≤ 1) : ∀ {d : D} {v : V} {fp : List Addr}, Own c.K c.C F H d n v fp → Sh c F H d v
  | .non, _, _, h => h.1
  | .bl _, _, _, h => h.1
  | .int _, _, _, h => h.1
  | .str _, _, _, h => h.1
  | .scr _, _, _, h => h.1
  | .box hd ds, _, _, h => by
    unfold Own at h
    split at h
    · exact Sh.of_rep s h.1
    · rename_i hne
      obtain ⟨a, vs, fp', h0, h1, h2, h3, h4, h5⟩ := h
      have e : n - 1 = 0 := by omega
      rw [e] at h4
      exact ⟨a, vs, h0, h2, h3, h4.of_zero.1, fun z => absurd (.inr z) hne⟩
theorem Sh.rep {F H : Hp} (s : Same F H) : ∀ {d : D} {v : V}, Sh c F H d v → Rep c.K c.C H d v
  | .box _ _, _, ⟨a, vs, h1, h2, h3, h4, _⟩ => ⟨a, vs, h1, h2, h3, h4.mono s⟩
  | .non, _, h => h
  | .bl _, _, h => h
  | .int _, _, h => h
  | .str _, _, h => h
  | .scr _, _, ⟨a, h1, h2, h3⟩ => ⟨a, h1, Same.seq s h2, h3⟩
theorem Sh.mono {F F' H : Hp} (s : Same F F') : ∀ {d : D} {v : V}, Sh c F H d v → Sh c F' H d v
  | .box _ _, _, ⟨a, vs, h1, h2, h3, h4, h5⟩ => ⟨a, vs, h1, h2, h3, h4.mono s, fun e => TupS.mono s (h5 e)⟩
  | .non, _, h => h
  | .bl _, _, h => h
  | .int _, _, h => h
  | .str _, _, h => h
  | .scr _, _, ⟨a, h1, h2, h3⟩ => ⟨a, h1, Same.seq s h2, h3⟩
theorem getS_σ {F H : Hp} {e : Env} {σ : St} {P : Addr → Prop} {i : Nat} {v : V} {n : Nat} {d : D} (R : Rel c pn F e σ H P) (h : getS e i = some (n, d)) (hv : σ[i]? = some (some v)) :
    ∃ F', Later F H F' H P ∧ Sh c F' H d v ∧ Rel c pn F' (e.set i (some (min n 1, d))) σ H P := by
  obtain ⟨v', F', fp, h1, l, o, R'⟩ := R.lower h (Nat.min_le_left n 1)
  rw [hv] at h1
  cases h1
  exact ⟨F', l, Sh.of_own R'.same (Nat.min_le_right n 1) o, R'⟩
theorem PoV.later {W : WX} {σ : St} {P : Addr → Prop} {F H F1 H1 : Hp} {Q : VK} (l : Later F H F1 H1 P) : ∀ {r : Res Vl}, PoV c pn W σ P F H Q r → PoV c pn W σ P F1 H1 Q r
  | .ok (_, _) _, h => fun v F' H' l' => h v F' H' (l.trans l')
  | .exc _ _ _ _, h => fun dd σ' F' H' l' => h dd σ' F' H' (l.trans l')
  | .stuck, h => h
theorem PoR.later {α β : Type} {R : Hp → α → β → Prop} {W : WX} {σ : St} {P : Addr → Prop} {F H F1 H1 : Hp} {Q : β → Hp → Prop} (l : Later F H F1 H1 P) : ∀ {r : Res α}, PoR c pn W σ R P F H Q r → PoR c pn W σ R P F1 H1 Q r
  | .ok _ _, h => fun v F' H' l' => h v F' H' (l.trans l')
  | .exc _ _ _ _, h => fun dd σ' F' H' l' => h dd σ' F' H' (l.trans l')
  | .stuck, h => h
theorem PoS.later {W : WX} {σ : St} {P : Addr → Prop} {F H F1 H1 : Hp} {D : Ends} (l : Later F H F1 H1 P) : ∀ {r : Res Fl}, PoS c pn W σ P F H D r → PoS c pn W σ P F1 H1 D r
  | .ok .nx _, h => fun σ' F' H' l' => h σ' F' H' (l.trans l')
  | .ok .bk _, h => fun σ' F' H' l' => h σ' F' H' (l.trans l')
  | .ok .ct _, h => fun σ' F' H' l' => h σ' F' H' (l.trans l')
  | .ok (.rt (_, _)) _, h => fun v σ' F' H' l' => h v σ' F' H' (l.trans l')
  | .exc _ _ _ _, h => fun dd σ' F' H' l' => h dd σ' F' H' (l.trans l')
  | .stuck, h => h
/-- a slot takes a value -/
theorem RelV.store {F H : Hp} {e : Env} {σ : St} {P : Addr → Prop} {v : V} {n i : Nat} {d : D} (R : RelV c pn F e σ H P v n d) (hi : i < e.length) (hp : ∀ p ∈ pn, p.1 ≠ i) :
    Rel c pn F (e.set i (some (n, d))) (σ.set i (some v)) H P := by
  obtain ⟨fx, o, nd, np, φ, r1, r2, r3, r4, r5, r6, r7, r8⟩ := R
  have hiσ : i < σ.length := by rw [← r1]; exact hi
  refine ⟨fun j => if j = i then fx else φ j, by simpa using r1, r2, fun j m d' h' => ?_, fun j h' => ?_, fun j => ?_, fun j k a hjk ha hk => ?_, fun a p => ?_, fun p hpn => ?_⟩
  · rw [getS_set] at h'
    by_cases hj : i = j ∧ i < e.length
    · rw [if_pos hj] at h'
      obtain ⟨rfl, _⟩ := hj
      cases h'
      refine ⟨v, by rw [List.getElem?_set_self hiσ], ?_⟩
      dsimp only
      rw [if_pos rfl]
      exact o
    · rw [if_neg hj] at h'
      have hji : j ≠ i := fun z => by
        subst z
        exact hj ⟨rfl, hi⟩
      obtain ⟨v', h1', h2'⟩ := r3 j m d' h'
      refine ⟨v', by rw [List.getElem?_set_ne (Ne.symm hji)]; exact h1', ?_⟩
      dsimp only
      rw [if_neg hji]
      exact h2'
  · rw [getS_set] at h'
    show (if j = i then fx else φ j) = []
    by_cases hj : j = i
    · subst hj
      rw [if_pos ⟨rfl, hi⟩] at h'
      cases h'
    · rw [if_neg hj]
      rw [if_neg (fun z => hj z.1.symm)] at h'
      exact r4 j h'
  · dsimp only
    split
    · exact nd
    · exact r5 j
  · dsimp only at ha hk
    by_cases hj : j = i
    · rw [if_pos hj] at ha
      rw [if_neg (fun z => hjk (hj.trans z.symm))] at hk
      exact (r7 a (.inr ha)).2.2 k hk
    · rw [if_neg hj] at ha
      by_cases hk' : k = i
      · rw [if_pos hk'] at hk
        exact (r7 a (.inr hk)).2.2 j ha
      · rw [if_neg hk'] at hk
        exact r6 j k a hjk ha hk
  · obtain ⟨q1, q2, q3⟩ := r7 a (.inl p)
    refine ⟨q1, q2, fun j => ?_⟩
    dsimp only
    split
    · exact fun z => np a z p
    · exact q3 j
  · rw [List.getElem?_set_ne (Ne.symm (hp p hpn))]
    exact r8 p hpn
end
end Mini

set_option Elab.async false
set_option linter.all false
set_option maxRecDepth 100000
/-! MRules: names, operators, tests, small statements. -/
namespace Mini
open PySem L2
section
variable {X : Cx} {c : Ctx} {pn : Pins} {W : WX} {F H : Hp} {e : Env} {σ : St} {P : Addr → Prop}
theorem bnd_ok {α β : Type} {m : M α} {f : α → M β} {e e' : Env} {a : α} (h : m e = .ok a e') : bnd m f e = f a e' := by unfold bnd; rw [h]
theorem bnd_exc {α β : Type} {m : M α} {f : α → M β} {e e' : Env} {k : Nat} {ns : List Str} {ds : List D} (h : m e = .exc k ns ds e') : bnd m f e = .exc k ns ds e' := by unfold bnd; rw [h]
theorem bnd_stuck {α β : Type} {m : M α} {f : α → M β} {e : Env} (h : m e = .stuck) : bnd m f e = .stuck := by unfold bnd; rw [h]
theorem ret_ap {α : Type} {a : α} {e : Env} : ret a e = .ok a e := rfl
theorem stk_ap {α : Type} {e : Env} : (stk : M α) e = .stuck := rfl

/-- one part, then the rest -/
theorem chV {α β : Type} {R : Hp → α → β → Prop} {m : M α} {f : α → M Vl} {Q : VK} {Q1 : β → Hp → Prop} (h : PoV c pn W σ P F H Q (bnd m f e))
    (k : ∀ x e1 v F1 H1, Later F H F1 H1 P → Rel c pn F1 e1 σ H1 P → R F1 x v → PoV c pn W σ P F1 H1 Q (f x e1) → Q1 v H1) : PoR c pn W σ R P F H Q1 (m e) := by
  cases hm : m e with
  | ok x e1 => rw [bnd_ok hm] at h; exact fun v F1 H1 l R1 i => k x e1 v F1 H1 l R1 i (h.later l)
  | exc k' ns ds e1 => rw [bnd_exc hm] at h; exact h
  | stuck => rw [bnd_stuck hm] at h; exact h
theorem chR {α β γ δ : Type} {R : Hp → α → β → Prop} {R' : Hp → γ → δ → Prop} {m : M α} {f : α → M γ} {Q : δ → Hp → Prop} {Q1 : β → Hp → Prop} (h : PoR c pn W σ R' P F H Q (bnd m f e))
    (k : ∀ x e1 v F1 H1, Later F H F1 H1 P → Rel c pn F1 e1 σ H1 P → R F1 x v → PoR c pn W σ R' P F1 H1 Q (f x e1) → Q1 v H1) : PoR c pn W σ R P F H Q1 (m e) := by
  cases hm : m e with
  | ok x e1 => rw [bnd_ok hm] at h; exact fun v F1 H1 l R1 i => k x e1 v F1 H1 l R1 i (h.later l)
  | exc k' ns ds e1 => rw [bnd_exc hm] at h; exact h
  | stuck => rw [bnd_stuck hm] at h; exact h
theorem chS {α β : Type} {R : Hp → α → β → Prop} {m : M α} {f : α → M Fl} {D : Ends} {Q1 : β → Hp → Prop} (h : PoS c pn W σ P F H D (bnd m f e))
    (k : ∀ x e1 v F1 H1, Later F H F1 H1 P → Rel c pn F1 e1 σ H1 P → R F1 x v → PoS c pn W σ P F1 H1 D (f x e1) → Q1 v H1) : PoR c pn W σ R P F H Q1 (m e) := by
  cases hm : m e with
  | ok x e1 => rw [bnd_ok hm] at h; exact fun v F1 H1 l R1 i => k x e1 v F1 H1 l R1 i (h.later l)
  | exc k' ns ds e1 => rw [bnd_exc hm] at h; exact h
  | stuck => rw [bnd_stuck hm] at h; exact h
/-- .. the part a value -/
theorem cvS {m : M Vl} {f : Vl → M Fl} {D : Ends} {Q1 : VK} (h : PoS c pn W σ P F H D (bnd m f e))
    (k : ∀ n d e1 v F1 H1, Later F H F1 H1 P → RelV c pn F1 e1 σ H1 P v n d → PoS c pn W σ P F1 H1 D (f (n, d) e1) → Q1 v H1) : PoV c pn W σ P F H Q1 (m e) := by
  cases hm : m e with
  | ok x e1 => obtain ⟨n, d⟩ := x; rw [bnd_ok hm] at h; exact fun v F1 H1 l R1 => k n d e1 v F1 H1 l R1 (h.later l)
  | exc k' ns ds e1 => rw [bnd_exc hm] at h; exact h
  | stuck => rw [bnd_stuck hm] at h; exact h
theorem cvV {m : M Vl} {f : Vl → M Vl} {Q : VK} {Q1 : VK} (h : PoV c pn W σ P F H Q (bnd m f e))
    (k : ∀ n d e1 v F1 H1, Later F H F1 H1 P → RelV c pn F1 e1 σ H1 P v n d → PoV c pn W σ P F1 H1 Q (f (n, d) e1) → Q1 v H1) : PoV c pn W σ P F H Q1 (m e) := by
  cases hm : m e with
  | ok x e1 => obtain ⟨n, d⟩ := x; rw [bnd_ok hm] at h; exact fun v F1 H1 l R1 => k n d e1 v F1 H1 l R1 (h.later l)
  | exc k' ns ds e1 => rw [bnd_exc hm] at h; exact h
  | stuck => rw [bnd_stuck hm] at h; exact h
theorem cvR {γ δ : Type} {R' : Hp → γ → δ → Prop} {m : M Vl} {f : Vl → M γ} {Q : δ → Hp → Prop} {Q1 : VK} (h : PoR c pn W σ R' P F H Q (bnd m f e))
    (k : ∀ n d e1 v F1 H1, Later F H F1 H1 P → RelV c pn F1 e1 σ H1 P v n d → PoR c pn W σ R' P F1 H1 Q (f (n, d) e1) → Q1 v H1) : PoV c pn W σ P F H Q1 (m e) := by
  cases hm : m e with
  | ok x e1 => obtain ⟨n, d⟩ := x; rw [bnd_ok hm] at h; exact fun v F1 H1 l R1 => k n d e1 v F1 H1 l R1 (h.later l)
  | exc k' ns ds e1 => rw [bnd_exc hm] at h; exact h
  | stuck => rw [bnd_stuck hm] at h; exact h
/-- the end of a value: the state stays -/
theorem PoV.val {Q : VK} {d : D} {n : Nat} {v : V} {e' : Env} (h : PoV c pn W σ P F H Q (.ok (n, d) e')) (R : RelV c pn F e' σ H P v n d) : Q v H := h v F H .rfl R
theorem Rel.weaken {P' : Addr → Prop} (R : Rel c pn F e σ H P) (h : ∀ a, P' a → P a) : Rel c pn F e σ H P' := R.weak h
theorem RelV.rel {v : V} {n : Nat} {d : D} (R : RelV c pn F e σ H P v n d) : Rel c pn F e σ H P := by
  obtain ⟨_, _, _, _, r⟩ := R
  exact r.weak fun a p => .inl p
theorem RelV.rep {v : V} {n : Nat} {d : D} (R : RelV c pn F e σ H P v n d) : Rep c.K c.C H d v := by
  obtain ⟨_, o, _, _, r⟩ := R
  exact o.rep r.same fun _ _ => rfl
/-- an item is looked at -/
theorem res_ok {x : Item} {v : V} (R : Rel c pn F e σ H P) (i : IRel c F σ x v) : res x e = .stuck ∨ ∃ F' d e', res x e = .ok d e' ∧ Later F H F' H P ∧ Sh c F' H d v ∧ Rel c pn F' e' σ H P := by
  cases x with
  | val d => exact .inr ⟨F, d, e, rfl, .rfl, Sh.of_rep R.same i, R⟩
  | bor j =>
    cases q : getS e j with
    | none => exact .inl (by simp only [res, q])
    | some z =>
      obtain ⟨n, d⟩ := z
      obtain ⟨F', l, s, R'⟩ := getS_σ R q i
      exact .inr ⟨F', d, _, by simp only [res, q], l, s, R'⟩
theorem chResV {x : Item} {v : V} {f : D → M Vl} {Q : VK} (h : PoV c pn W σ P F H Q (bnd (res x) f e)) (R : Rel c pn F e σ H P) (i : IRel c F σ x v) :
    ∃ F' d e', Later F H F' H P ∧ Sh c F' H d v ∧ Rel c pn F' e' σ H P ∧ PoV c pn W σ P F' H Q (f d e') := by
  rcases res_ok R i with q | ⟨F', d, e', q, l, s, R'⟩
  · rw [bnd_stuck q] at h; exact h.elim
  · rw [bnd_ok q] at h; exact ⟨F', d, e', l, s, R', h.later l⟩
theorem chResR {γ δ : Type} {R' : Hp → γ → δ → Prop} {x : Item} {v : V} {f : D → M γ} {Q : δ → Hp → Prop} (h : PoR c pn W σ R' P F H Q (bnd (res x) f e)) (R : Rel c pn F e σ H P) (i : IRel c F σ x v) :
    ∃ F' d e', Later F H F' H P ∧ Sh c F' H d v ∧ Rel c pn F' e' σ H P ∧ PoR c pn W σ R' P F' H Q (f d e') := by
  rcases res_ok R i with q | ⟨F', d, e', q, l, s, R'⟩
  · rw [bnd_stuck q] at h; exact h.elim
  · rw [bnd_ok q] at h; exact ⟨F', d, e', l, s, R', h.later l⟩

/-! ### names, constants -/
theorem ok_const {ex : Expr} {d : D} {v : V} (h : PE X ex (tC v)) (r : ∀ F, Rep c.K c.C F d v) : OkV X c pn W ex (vC d) :=
  ⟨PE.imp h fun σ H Q ⟨F, e, P, R, q⟩ => PoV.val q (RelV.zero R (r F))⟩
theorem ok_int {i : Int} {j pos} : OkV X c pn W (.Constant (.int i) j pos) (vC (.int i)) := ok_const pe_int fun _ => rfl
theorem ok_bl {b : Bool} {j pos} : OkV X c pn W (.Constant (.bool b) j pos) (vC (.bl b)) := ok_const pe_bl fun _ => rfl
theorem ok_non {j pos} : OkV X c pn W (.Constant .none j pos) (vC .non) := ok_const pe_non fun _ => rfl
theorem ok_str {x : Str} {j pos} : OkV X c pn W (.Constant (.str x) j pos) (vC (.str x)) := ok_const pe_str fun _ => rfl
theorem ok_var (i : Nat) {x : Str} {pos : Pos} (hN : X.N[i]? = some x := by rfl) (hv : Vis X.env.scope x := by first | exact Or.inl rfl | exact Or.inr (Or.inl rfl) | exact Or.inr (Or.inr rfl)) (hd : (x == ("__debug__" : Str)) = false := by decide)
    (hcd : (x == ("__classdict__" : Str)) = false := by decide) : OkV X c pn W (.Name x pos) (vVar i) := by
  refine ⟨PE.imp (pe_var hN hv hd hcd) fun σ H Q ⟨F, e, P, R, q⟩ => ?_⟩
  unfold vVar at q
  cases g : getS e i with
  | none => rw [g] at q; exact q.elim
  | some z =>
    obtain ⟨n, d⟩ := z
    rw [g] at q
    obtain ⟨v, F', fp, h1, l, o, R'⟩ := R.lower g (Nat.zero_le n)
    exact ⟨v, h1, q v F' H l (RelV.zero R' o.of_zero.1)⟩
theorem oo_var (i : Nat) {x : Str} {pos : Pos} (hN : X.N[i]? = some x := by rfl) (hv : Vis X.env.scope x := by first | exact Or.inl rfl | exact Or.inr (Or.inl rfl) | exact Or.inr (Or.inr rfl)) (hd : (x == ("__debug__" : Str)) = false := by decide)
    (hcd : (x == ("__classdict__" : Str)) = false := by decide) : OkO X c pn W (.Name x pos) (oVar i) := by
  refine ⟨PE.imp (pe_var hN hv hd hcd) fun σ H Q ⟨F, e, P, R, q⟩ => ?_⟩
  unfold oVar at q
  cases g : getS e i with
  | none => rw [g] at q; exact q.elim
  | some z =>
    obtain ⟨n, d⟩ := z
    rw [g] at q
    obtain ⟨v, h1, _⟩ := R.rep g
    exact ⟨v, h1, q v F H .rfl R h1⟩
theorem oo_val {ex : Expr} {m : M Vl} (h : OkV X c pn W ex m) : OkO X c pn W ex (oV m) := by
  refine ⟨PE.imp h.ok fun σ H Q ⟨F, e, P, R, q⟩ => ⟨F, e, P, R, ?_⟩⟩
  refine cvR q fun n d e1 v F1 H1 l R1 q1 => ?_
  obtain ⟨F2, l2, r2, R2⟩ := R1.fz
  exact q1 v F2 H1 l2 R2 r2

/-! ### operators -/
/-- an operator's rule r serves the function f of trees -/
def Op2 (c : Ctx) (r : R2) (f : D → D → Option Vl) : Prop := ∀ (pn : Pins) (F : Hp) (e : Env) (σ : St) (H : Hp) (P : Addr → Prop) (d d' : D) (n : Nat) (z : D) (x y : V) (Q : VK), Rel c pn F e σ H P → Sh c F H d x → Sh c F H d' y → f d d' = some (n, z) →
  (∀ v F' H', Later F H F' H' P → RelV c pn F' e σ H' P v n z → Q v H') → r x y H Q
theorem op2_rd {r : R2} {f : D → D → Option Vl} {ma mb : M Item} (o : Op2 c r f) {σ : St} {H : Hp} {Q : VK} (h : rdV c pn W (op2 f ma mb) σ H Q) : tOp r (rdO c pn W ma) (rdO c pn W mb) σ H Q := by
  obtain ⟨F, e, P, R, q⟩ := h
  refine ⟨F, e, P, R, chV (R := fun F x v => IRel c F σ x v) q fun x e1 v F1 H1 l1 R1 i1 q1 => ?_⟩
  refine ⟨F1, e1, P, R1, chV (R := fun F x v => IRel c F σ x v) q1 fun y e2 w F2 H2 l2 R2 i2 q2 => ?_⟩
  obtain ⟨F3, d, e3, l3, s3, R3, q3⟩ := chResV q2 R2 (i1.mono l2.F)
  obtain ⟨F4, d', e4, l4, s4, R4, q4⟩ := chResV q3 R3 (i2.mono l3.F)
  cases hf : f d d' with
  | none => rw [hf] at q4; exact q4.elim
  | some z =>
    obtain ⟨n, z⟩ := z
    rw [hf] at q4
    exact o pn F4 e4 σ H2 P d d' n z v w Q R4 (s3.mono l4.F) s4 hf q4
theorem ok_bin {op : Operator} {r : R2} {f : D → D → Option Vl} {a b : Expr} {ma mb : M Item} {pos : Pos} (ho : OpR X (binaryOp op) r) (o : Op2 c r f) (ha : OkO X c pn W a ma) (hb : OkO X c pn W b mb) :
    OkV X c pn W (.BinOp a op b pos) (op2 f ma mb) := ⟨PE.imp (pe_op ho ha.ok hb.ok) fun _ _ _ h => op2_rd o h⟩
theorem ok_cmp {op : CmpOp} {r : R2} {f : D → D → Option Vl} {a b : Expr} {ma mb : M Item} {pos : Pos} (ho : OpR X (compareOp op) r) (o : Op2 c r f) (ha : OkO X c pn W a ma) (hb : OkO X c pn W b mb)
    (hm : behindInMarks op b = false := by first | exact nomark _ | rfl) : OkV X c pn W (.Compare a [op] [b] pos) (op2 f ma mb) := ⟨PE.imp (pe_cmpR ho ha.ok hb.ok hm) fun _ _ _ h => op2_rd o h⟩
def Op1 (c : Ctx) (r : V → Hp → VK → Prop) (f : D → Option Vl) : Prop := ∀ (pn : Pins) (F : Hp) (e : Env) (σ : St) (H : Hp) (P : Addr → Prop) (d : D) (n : Nat) (z : D) (x : V) (Q : VK), Rel c pn F e σ H P → Sh c F H d x → f d = some (n, z) →
  (∀ v F' H', Later F H F' H' P → RelV c pn F' e σ H' P v n z → Q v H') → r x H Q
theorem op1_rd {r : V → Hp → VK → Prop} {f : D → Option Vl} {ma : M Item} (o : Op1 c r f) {σ : St} {H : Hp} {Q : VK} (h : rdV c pn W (op1 f ma) σ H Q) : tUn r (rdO c pn W ma) σ H Q := by
  obtain ⟨F, e, P, R, q⟩ := h
  refine ⟨F, e, P, R, chV (R := fun F x v => IRel c F σ x v) q fun x e1 v F1 H1 l1 R1 i1 q1 => ?_⟩
  obtain ⟨F3, d, e3, l3, s3, R3, q3⟩ := chResV q1 R1 i1
  cases hf : f d with
  | none => rw [hf] at q3; exact q3.elim
  | some z =>
    obtain ⟨n, z⟩ := z
    rw [hf] at q3
    exact o pn F3 e3 σ H1 P d n z v Q R3 s3 hf q3
theorem ok_un {op : UnaryOp} {r : V → Hp → VK → Prop} {f : D → Option Vl} {a : Expr} {ma : M Item} {pos : Pos} (ho : UnR X (unaryOp op) r) (o : Op1 c r f) (ha : OkO X c pn W a ma) : OkV X c pn W (.UnaryOp op a pos) (op1 f ma) :=
  ⟨PE.imp (pe_un ho ha.ok) fun _ _ _ h => op1_rd o h⟩

/-! ### arguments, built-ins -/
theorem oa_nil : OkA X c pn W [] (seqM []) := ⟨PA.imp pa_nil fun σ H Q ⟨F, e, P, R, q⟩ => q [] F H .rfl R rfl⟩
theorem oa_cons {a : Expr} {es : List Expr} {m : M Item} {ms : List (M Item)} (ha : OkO X c pn W a m) (hr : OkA X c pn W es (seqM ms)) (hs : starEach (a :: es) X.env = (false, eval a X.env) :: starEach es X.env := by rfl) : OkA X c pn W (a :: es) (seqM (m :: ms)) := by
  refine ⟨PA.imp (pa_cons ha.ok hr.ok hs) fun σ H Q ⟨F, e, P, R, q⟩ => ⟨F, e, P, R, ?_⟩⟩
  refine chR (R := fun F x v => IRel c F σ x v) q fun x e1 v F1 H1 l1 R1 i1 q1 => ?_
  refine ⟨F1, e1, P, R1, chR (R := fun F x v => IRels c F σ x v) q1 fun xs e2 vs F2 H2 l2 R2 i2 q2 => ?_⟩
  exact q2 (v :: vs) F2 H2 .rfl R2 ⟨v, vs, rfl, i1.mono l2.F, i2⟩
def Shs (c : Ctx) (F H : Hp) : List D → List V → Prop
  | [], vs => vs = []
  | d :: ds, vs => ∃ v ws, vs = v :: ws ∧ Sh c F H d v ∧ Shs c F H ds ws
theorem Shs.mono {F F' H : Hp} (s : Same F F') : ∀ {ds : List D} {vs : List V}, Shs c F H ds vs → Shs c F' H ds vs
  | [], _, h => h
  | _ :: _, _, ⟨v, ws, h1, h2, h3⟩ => ⟨v, ws, h1, h2.mono s, h3.mono s⟩
theorem chRess {f : List D → M Vl} {Q : VK} : ∀ {xs : List Item} {vs : List V} {F : Hp} {e : Env} {g : List D → List D}, PoV c pn W σ P F H Q (bnd (mapM' res xs) (fun ds => f (g ds)) e) → Rel c pn F e σ H P → IRels c F σ xs vs →
    ∃ F' ds e', Later F H F' H P ∧ Shs c F' H ds vs ∧ Rel c pn F' e' σ H P ∧ PoV c pn W σ P F' H Q (f (g ds) e')
  | [], vs, F, e, g, h, R, i => by
    have i : vs = [] := i
    subst i
    exact ⟨F, [], e, .rfl, rfl, R, h⟩
  | x :: xs, vs, F, e, g, h, R, i => by
    obtain ⟨v, ws, rfl, i1, i2⟩ := i
    have h' : PoV c pn W σ P F H Q (bnd (res x) (fun d => bnd (mapM' res xs) (fun ds => f (g (d :: ds)))) e) := by
      have e1 : bnd (mapM' res (x :: xs)) (fun ds => f (g ds)) e = bnd (res x) (fun d => bnd (mapM' res xs) (fun ds => f (g (d :: ds)))) e := by
        show bnd (bnd (res x) fun b => bnd (mapM' res xs) fun bs => ret (b :: bs)) (fun ds => f (g ds)) e = _
        unfold bnd
        cases res x e with
        | ok d e1 =>
          dsimp only
          cases mapM' res xs e1 <;> rfl
        | exc _ _ _ _ => rfl
        | stuck => rfl
      rw [← e1]; exact h
    obtain ⟨F1, d, e1, l1, s1, R1, q1⟩ := chResV h' R i1
    obtain ⟨F2, ds, e2, l2, s2, R2, q2⟩ := chRess (g := fun ds => g (d :: ds)) q1 R1 (i2.mono l1.F)
    exact ⟨F2, d :: ds, e2, l1.trans l2, ⟨v, ws, rfl, s1.mono l2.F, s2⟩, R2, q2⟩
def OpN (c : Ctx) (r : List V → Hp → VK → Prop) (f : List D → Option Vl) : Prop := ∀ (pn : Pins) (F : Hp) (e : Env) (σ : St) (H : Hp) (P : Addr → Prop) (ds : List D) (n : Nat) (z : D) (xs : List V) (Q : VK), Rel c pn F e σ H P → Shs c F H ds xs → f ds = some (n, z) →
  (∀ v F' H', Later F H F' H' P → RelV c pn F' e σ H' P v n z → Q v H') → r xs H Q
theorem opN_rd {r : List V → Hp → VK → Prop} {f : List D → Option Vl} {ms : List (M Item)} (o : OpN c r f) {σ : St} {H : Hp} {Q : VK} (h : rdV c pn W (opN f ms) σ H Q) : tCB r (rdA c pn W (seqM ms)) σ H Q := by
  obtain ⟨F, e, P, R, q⟩ := h
  refine ⟨F, e, P, R, chV (R := fun F x v => IRels c F σ x v) q fun xs e1 vs F1 H1 l1 R1 i1 q1 => ?_⟩
  obtain ⟨F2, ds, e2, l2, s2, R2, q2⟩ := chRess (f := fun ds => opt (f ds)) (g := fun ds => ds) q1 R1 i1
  cases hf : f ds with
  | none => rw [hf] at q2; exact q2.elim
  | some z =>
    obtain ⟨n, z⟩ := z
    rw [hf] at q2
    exact o pn F2 e2 σ H1 P ds n z vs Q R2 s2 hf q2
/-- f(a, ..), f a built-in function; a built-in class -/
theorem ok_bi {id : String} {r : List V → Hp → VK → Prop} {f : List D → Option Vl} {x : Str} {a : Expr} {es : List Expr} {p pos : Pos} {ms : List (M Item)} (hc : CallR X (.builtin id) r) (o : OpN c r f) (hm : X.mg x = none) (hv : bootBuiltins x = some (.builtin id)) (ha : OkA X c pn W (a :: es) (seqM ms))
    (hg : Gl X x := by rfl) (hn : x ≠ "__name__" := by decide) (hdb : (x == ("__debug__" : Str)) = false := by decide)
    (he : starEach (a :: es) X.env = (false, eval a X.env) :: starEach es X.env := by rfl) (hpl : (backTo pos (starEach es X.env)).any (·.1) = false := by rfl) : OkV X c pn W (.Call (.Name x p) (a :: es) [] pos) (opN f ms) :=
  ⟨PE.imp (pe_callB hc hg hm hv ha.ok hn hdb he hpl) fun _ _ _ h => opN_rd o h⟩
theorem ok_bty {T : String} {r : List V → Hp → VK → Prop} {f : List D → Option Vl} {x : Str} {a : Expr} {es : List Expr} {p pos : Pos} {ms : List (M Item)} (hc : CallR X (.type T) r) (o : OpN c r f) (hm : X.mg x = none) (hv : bootBuiltins x = some (.type T)) (ha : OkA X c pn W (a :: es) (seqM ms))
    (hg : Gl X x := by rfl) (hn : x ≠ "__name__" := by decide) (hdb : (x == ("__debug__" : Str)) = false := by decide)
    (he : starEach (a :: es) X.env = (false, eval a X.env) :: starEach es X.env := by rfl) (hpl : (backTo pos (starEach es X.env)).any (·.1) = false := by rfl) : OkV X c pn W (.Call (.Name x p) (a :: es) [] pos) (opN f ms) :=
  ⟨PE.imp (pe_callTy hc hg hm hv ha.ok hn hdb he hpl) fun _ _ _ h => opN_rd o h⟩

/-! ### tests -/
theorem ot_val {ex : Expr} {m : M Vl} (h : OkV X c pn W ex m) (he : ∀ whole, isTrue ex X.env whole = (do let v ← whole; standAt ex.pos; holding [v] (truthy v)) := by intro _; rfl) : OkT X c pn W ex (tB m) := by
  refine ⟨PT.imp (pt_val h.ok he) fun σ H Q ⟨F, e, P, R, q⟩ => ⟨F, e, P, R, ?_⟩⟩
  refine cvR q fun n d e1 v F1 H1 l R1 q1 => ?_
  cases d with
  | bl b =>
    have r : v = V.bl b := R1.rep
    exact ⟨b, r, q1 b F1 H1 .rfl R1.rel rfl⟩
  | _ => exact q1.elim
theorem ot_true {b : Bool} {ex : Expr} {m : M Bool} (h : OkT X c pn W ex m) : OkT X c pn W ex m := h
theorem pw_of {ex : Expr} {t : TT} (h : PW X ex t) : PT X ex t := h.pt
/-- a chain of and, or -/
structure OkW (X : Cx) (c : Ctx) (pn : Pins) (W : WX) (e : Expr) (m : M Bool) : Prop where
  ok : PW X e (rdT c pn W m)
theorem PW.imp {X : Cx} {e : Expr} {t t' : TT} (h : PW X e t) (k : ∀ σ H Q, t' σ H Q → t σ H Q) : PW X e t' := ⟨fun wh pins s σ H Q I q => h.run wh pins s σ H Q I (k σ H Q q)⟩
theorem OkW.t {ex : Expr} {m : M Bool} (h : OkW X c pn W ex m) : OkT X c pn W ex m := ⟨h.ok.pt⟩
theorem ow_and1 {a : Expr} {pos : Pos} {m : M Bool} (h : OkT X c pn W a m) : OkW X c pn W (.BoolOp .And [a] pos) m := ⟨pw_and1 h.ok⟩
theorem ow_or1 {a : Expr} {pos : Pos} {m : M Bool} (h : OkT X c pn W a m) : OkW X c pn W (.BoolOp .Or [a] pos) m := ⟨pw_or1 h.ok⟩
theorem ow_and {a b : Expr} {rest : List Expr} {pos : Pos} {ma mb : M Bool} (ha : OkT X c pn W a ma) (hb : OkW X c pn W (.BoolOp .And (b :: rest) pos) mb) : OkW X c pn W (.BoolOp .And (a :: b :: rest) pos) (tAnd ma mb) := by
  refine ⟨PW.imp (pw_and ha.ok hb.ok) fun σ H Q ⟨F, e, P, R, q⟩ => ⟨F, e, P, R, ?_⟩⟩
  refine chR (R := fun _ x v => v = x) q fun x e1 v F1 H1 l R1 i q1 => ?_
  subst i
  cases v with
  | true => exact ⟨F1, e1, P, R1, q1⟩
  | false => exact q1 false F1 H1 .rfl R1 rfl
theorem ow_or {a b : Expr} {rest : List Expr} {pos : Pos} {ma mb : M Bool} (ha : OkT X c pn W a ma) (hb : OkW X c pn W (.BoolOp .Or (b :: rest) pos) mb) : OkW X c pn W (.BoolOp .Or (a :: b :: rest) pos) (tOr ma mb) := by
  refine ⟨PW.imp (pw_or ha.ok hb.ok) fun σ H Q ⟨F, e, P, R, q⟩ => ⟨F, e, P, R, ?_⟩⟩
  refine chR (R := fun _ x v => v = x) q fun x e1 v F1 H1 l R1 i q1 => ?_
  subst i
  cases v with
  | true => exact q1 true F1 H1 .rfl R1 rfl
  | false => exact ⟨F1, e1, P, R1, q1⟩
theorem ot_not {a : Expr} {pos : Pos} {m : M Bool} (h : OkT X c pn W a m) : OkT X c pn W (.UnaryOp .Not a pos) (tNot m) := by
  refine ⟨PT.imp (pt_not h.ok) fun σ H Q ⟨F, e, P, R, q⟩ => ⟨F, e, P, R, ?_⟩⟩
  refine chR (R := fun _ x v => v = x) q fun x e1 v F1 H1 l R1 i q1 => ?_
  subst i
  exact q1 (!v) F1 H1 .rfl R1 rfl
/-- and, or, not as values: all parts True or False -/
theorem ov_not {a : Expr} {pos : Pos} {m : M Vl} (h : OkV X c pn W a m) : OkV X c pn W (.UnaryOp .Not a pos) (vBool (tNot (tB m))) := by
  refine ⟨PE.imp (pe_not h.ok) fun σ H Q ⟨F, e, P, R, q⟩ => ⟨F, e, P, R, ?_⟩⟩
  have q' : PoV c pn W σ P F H Q (bnd m (fun v => bnd (bnd (match v.2 with | .bl b => ret b | _ => stk) (fun x => ret !x)) (fun b => ret (0, .bl b))) e) := by
    have e1 : vBool (tNot (tB m)) e = bnd m (fun v => bnd (bnd (match v.2 with | .bl b => ret b | _ => stk) (fun x => ret !x)) (fun b => ret (0, .bl b))) e := by
      unfold vBool tNot tB bnd
      cases m e <;> rfl
    rw [← e1]; exact q
  refine cvV q' fun n d e1 v F1 H1 l R1 q1 => ?_
  cases d with
  | bl b =>
    have r : v = V.bl b := R1.rep
    exact ⟨b, r, PoV.val q1 (RelV.zero R1.rel rfl)⟩
  | _ => exact q1.elim
theorem ov_one {op : BoolOp} {a : Expr} {pos : Pos} {m : M Vl} (h : OkV X c pn W a m) : OkV X c pn W (.BoolOp op [a] pos) m := ⟨pe_one h.ok⟩
def vAnd (a b : M Vl) : M Vl := bnd a fun v => match v.2 with
  | .bl true => b
  | .bl false => ret (0, .bl false)
  | _ => stk
def vOr (a b : M Vl) : M Vl := bnd a fun v => match v.2 with
  | .bl true => ret (0, .bl true)
  | .bl false => b
  | _ => stk
theorem ov_and {a b : Expr} {rest : List Expr} {pos : Pos} {ma mb : M Vl} (ha : OkV X c pn W a ma) (hb : OkV X c pn W (.BoolOp .And (b :: rest) pos) mb) : OkV X c pn W (.BoolOp .And (a :: b :: rest) pos) (vAnd ma mb) := by
  refine ⟨PE.imp (pe_and ha.ok hb.ok) fun σ H Q ⟨F, e, P, R, q⟩ => ⟨F, e, P, R, ?_⟩⟩
  refine cvV q fun n d e1 v F1 H1 l R1 q1 => ?_
  cases d with
  | bl b =>
    have r : v = V.bl b := R1.rep
    refine ⟨b, r, ?_⟩
    cases b with
    | true => exact ⟨F1, e1, P, R1.rel, q1⟩
    | false => exact PoV.val q1 (RelV.zero R1.rel rfl)
  | _ => exact q1.elim
theorem ov_or {a b : Expr} {rest : List Expr} {pos : Pos} {ma mb : M Vl} (ha : OkV X c pn W a ma) (hb : OkV X c pn W (.BoolOp .Or (b :: rest) pos) mb) : OkV X c pn W (.BoolOp .Or (a :: b :: rest) pos) (vOr ma mb) := by
  refine ⟨PE.imp (pe_or ha.ok hb.ok) fun σ H Q ⟨F, e, P, R, q⟩ => ⟨F, e, P, R, ?_⟩⟩
  refine cvV q fun n d e1 v F1 H1 l R1 q1 => ?_
  cases d with
  | bl b =>
    have r : v = V.bl b := R1.rep
    refine ⟨b, r, ?_⟩
    cases b with
    | true => exact PoV.val q1 (RelV.zero R1.rel rfl)
    | false => exact ⟨F1, e1, P, R1.rel, q1⟩
  | _ => exact q1.elim
theorem ov_if {t a b : Expr} {pos : Pos} {mt : M Bool} {ma mb : M Vl} (ht : OkT X c pn W t mt) (ha : OkV X c pn W a ma) (hb : OkV X c pn W b mb) : OkV X c pn W (.IfExp t a b pos) (vIf mt ma mb) := by
  refine ⟨PE.imp (pe_ifExp ht.ok ha.ok hb.ok) fun σ H Q ⟨F, e, P, R, q⟩ => ⟨F, e, P, R, ?_⟩⟩
  refine chV (R := fun _ x v => v = x) q fun x e1 v F1 H1 l R1 i q1 => ?_
  subst i
  cases v with
  | true => exact ⟨F1, e1, P, R1, q1⟩
  | false => exact ⟨F1, e1, P, R1, q1⟩

/-! ### statements -/
theorem ss_nil : OkSs X c pn W [] sNext := ⟨PSs.imp pss_nil fun D σ H ⟨F, e, P, R, q⟩ => q σ F H .rfl R⟩
theorem ss_one {st : Stmt} {m : M Fl} (h : OkS X c pn W st m) : OkSs X c pn W [st] m := ⟨pss_one h.ok⟩
theorem ss_cons {st : Stmt} {sts : List Stmt} {m n : M Fl} (h : OkS X c pn W st m) (hs : OkSs X c pn W sts n) : OkSs X c pn W (st :: sts) (sSeq m n) := by
  refine ⟨PSs.imp (pss_cons h.ok hs.ok) fun D σ H ⟨F, e, P, R, q⟩ => ⟨F, e, P, R, ?_⟩⟩
  unfold sSeq at q
  cases hm : m e with
  | ok f e1 =>
    rw [bnd_ok hm] at q
    cases f with
    | nx => exact fun σ1 F1 H1 l R1 => ⟨F1, e1, P, R1, PoS.later' l q⟩
    | rt v => obtain ⟨n, d⟩ := v; exact q
    | bk => exact q
    | ct => exact q
  | exc k ns ds e1 => rw [bnd_exc hm] at q; exact q
  | stuck => rw [bnd_stuck hm] at q; exact q
  where PoS.later' {W : WX} {σ σ1 : St} {P : Addr → Prop} {F H F1 H1 : Hp} {D : Ends} (l : Later F H F1 H1 P) : ∀ {r : Res Fl}, PoS c pn W σ P F H D r → PoS c pn W σ1 P F1 H1 D r
    | .ok .nx _, h => fun σ' F' H' l' => h σ' F' H' (l.trans l')
    | .ok .bk _, h => fun σ' F' H' l' => h σ' F' H' (l.trans l')
    | .ok .ct _, h => fun σ' F' H' l' => h σ' F' H' (l.trans l')
    | .ok (.rt (_, _)) _, h => fun v σ' F' H' l' => h v σ' F' H' (l.trans l')
    | .exc _ _ _ _, h => fun dd σ' F' H' l' => h dd σ' F' H' (l.trans l')
    | .stuck, h => h
theorem os_pass {pos : Pos} : OkS X c pn W (.Pass pos) sNext := ⟨PS.imp ps_pass fun D σ H ⟨F, e, P, R, q⟩ => q σ F H .rfl R⟩
theorem os_break {pos : Pos} : OkS X c pn W (.Break pos) sBreak := ⟨PS.imp ps_break fun D σ H ⟨F, e, P, R, q⟩ => q σ F H .rfl R⟩
theorem os_continue {pos : Pos} : OkS X c pn W (.Continue pos) sCont := ⟨PS.imp ps_continue fun D σ H ⟨F, e, P, R, q⟩ => q σ F H .rfl R⟩
theorem os_expr {ex : Expr} {pos : Pos} {m : M Vl} (h : OkV X c pn W ex m) (hs : swapsWith ex none pos.line X.env = pure false := by rfl) : OkS X c pn W (.Expr ex pos) (sExpr m) := by
  refine ⟨PS.imp (ps_expr h.ok hs) fun D σ H ⟨F, e, P, R, q⟩ => ⟨F, e, P, R, ?_⟩⟩
  exact cvS q fun n d e1 v F1 H1 l R1 q1 => q1 σ F1 H1 .rfl R1.rel
theorem os_ret {ex : Expr} {pos : Pos} {m : M Vl} (h : OkV X c pn W ex m) : OkS X c pn W (.Return (some ex) pos) (sRet m) := by
  refine ⟨PS.imp (ps_ret h.ok) fun D σ H ⟨F, e, P, R, q⟩ => ⟨F, e, P, R, ?_⟩⟩
  exact cvS q fun n d e1 v F1 H1 l R1 q1 => q1 v σ F1 H1 .rfl R1
theorem os_retN {pos : Pos} : OkS X c pn W (.Return none pos) (sRet (vC .non)) :=
  ⟨PS.imp ps_retN fun D σ H ⟨F, e, P, R, q⟩ => q .non σ F H .rfl (RelV.zero R rfl)⟩
theorem os_if {t : Expr} {a b : List Stmt} {pos : Pos} {mt : M Bool} {ma mb : M Fl} (ht : OkT X c pn W t mt) (ha : OkSs X c pn W a ma) (hb : OkSs X c pn W b mb) : OkS X c pn W (.If t a b pos) (sIf mt ma mb) := by
  refine ⟨PS.imp (ps_if ht.ok ha.ok hb.ok) fun D σ H ⟨F, e, P, R, q⟩ => ⟨F, e, P, R, ?_⟩⟩
  refine chS (R := fun _ x v => v = x) q fun x e1 v F1 H1 l R1 i q1 => ?_
  subst i
  cases v with
  | true => exact ⟨F1, e1, P, R1, q1⟩
  | false => exact ⟨F1, e1, P, R1, q1⟩
theorem os_set {i : Nat} {x : Str} {ex : Expr} {m : M Vl} {pos pos' : Pos} (hN : X.N.Nodup) (hp : ∀ p ∈ pn, p.1 ≠ i) (h : OkV X c pn W ex m) (hi : X.N[i]? = some x := by rfl) (hx : Loc X.env.scope x := by first | exact Or.inl rfl | exact Or.inr rfl)
    (hs : swapsWith ex (some (.Name x pos')) pos.line X.env = pure false := by rfl) (hf : X.fn x = true ∨ X.env.scope.names.lookup x = some .local := by first | exact .inl rfl | exact .inr rfl | assumption) : OkS X c pn W (.Assign [.Name x pos'] ex pos) (sSet i m) := by
  refine ⟨PS.imp (ps_set (i := i) hN hi hx h.ok hs hf) fun D σ H ⟨F, e, P, R, q⟩ => ⟨F, e, P, R, ?_⟩⟩
  refine cvS q fun n d e1 v F1 H1 l R1 q1 => ?_
  by_cases hl : i < e1.length
  · have e2 : setS i (n, d) e1 = Res.ok () (e1.set i (some (n, d))) := by simp only [setS, if_pos hl]
    rw [bnd_ok e2] at q1
    exact q1 _ F1 H1 .rfl (R1.store hl hp)
  · have e2 : setS i (n, d) e1 = Res.stuck := by simp only [setS, if_neg hl]
    rw [bnd_stuck e2] at q1
    exact q1.elim
end
end Mini

set_option Elab.async false
set_option linter.all false
set_option maxRecDepth 100000
/-! MLoop: targets, what is walked, for, while, comprehensions. -/
namespace Mini
open PySem L2
section
variable {X : Cx} {c : Ctx} {pn : Pins} {W : WX} {F H : Hp} {e : Env} {σ : St} {P : Addr → Prop}
/-! ### targets: T tells the slots that are set -/
def PoG (c : Ctx) (pn : Pins) (T : List Nat) (σ : St) (P : Addr → Prop) (F H : Hp) (Q : St → Hp → Prop) : Option Env → Prop
  | some e' => ∀ σ' F' H', Later F H F' H' P → Rel c pn F' e' σ' H' P → σ'.length = σ.length → (∀ j, j ∉ T → σ'[j]? = σ[j]?) → Q σ' H'
  | none => False
/-- what a target takes; z: it may be a pair that a walk lays, whose parts alone are kept -/
def RepI (z : Bool) (c : Ctx) (F : Hp) (d : D) (v : V) : Prop := Rep c.K c.C F d v ∨ (z = true ∧ ∃ ds a vs, d = .tup ds ∧ v = .ref a ∧ SqT c.K F a vs ∧ Reps c.K c.C F ds vs)
theorem RepI.tup {z : Bool} {c : Ctx} {F : Hp} {ds : List D} {v : V} : RepI z c F (.tup ds) v → ∃ a vs, v = .ref a ∧ SqT c.K F a vs ∧ Reps c.K c.C F ds vs
  | .inl ⟨a, vs, h1, h2, _, h4⟩ => ⟨a, vs, h1, TupS.sq h2, h4⟩
  | .inr ⟨_, ds', a, vs, e, h1, h2, h3⟩ => by cases e; exact ⟨a, vs, h1, h2, h3⟩
theorem RepI.no {c : Ctx} {F : Hp} {d : D} {v : V} : RepI false c F d v → Rep c.K c.C F d v
  | .inl h => h
  | .inr ⟨h, _⟩ => nomatch h
def rdG (c : Ctx) (pn : Pins) (z : Bool) (T : List Nat) (g : Tg) : TG := fun v σ H Q => ∃ F e P d, Rel c pn F e σ H P ∧ RepI z c F d v ∧ PoG c pn T σ P F H Q (g d e)
structure OkG (X : Cx) (c : Ctx) (pn : Pins) (z : Bool) (T : List Nat) (tg : Expr) (g : Tg) : Prop where
  ok : PG X tg (rdG c pn z T g)
theorem PG.imp {tg : Expr} {t t' : TG} (h : PG X tg t) (k : ∀ v σ H Q, t' v σ H Q → t v σ H Q) : PG X tg t' := ⟨fun pins s σ H v u Q I r q => h.run pins s σ H v u Q I r (k v σ H Q q)⟩
theorem PGs.imp {tg : List Expr} {t t' : TGs} (h : PGs X tg t) (k : ∀ v σ H Q, t' v σ H Q → t v σ H Q) : PGs X tg t' := ⟨fun pins s σ H v u Q I r q => h.run pins s σ H v u Q I r (k v σ H Q q)⟩
theorem og_var {i : Nat} {x : Str} {pos : Pos} (hN : X.N.Nodup) (hp : ∀ p ∈ pn, p.1 ≠ i) (hi : X.N[i]? = some x := by rfl) (hx : Loc X.env.scope x := by first | exact Or.inl rfl | exact Or.inr rfl)
    (hf : X.fn x = true ∨ X.env.scope.names.lookup x = some .local := by first | exact .inl rfl | exact .inr rfl | assumption) : OkG X c pn false [i] (.Name x pos) (gVar i) := by
  refine ⟨PG.imp (pg_name hN hi hx hf) fun v σ H Q ⟨F, e, P, d, R, r, q⟩ => ?_⟩
  unfold gVar at q
  by_cases hl : i < e.length
  · rw [if_pos hl] at q
    exact q _ F H .rfl ((RelV.zero R r.no).store hl hp) (by simp) fun j hj => by
      rw [List.getElem?_set_ne]
      exact fun z => hj (by simp [z])
  · rw [if_neg hl] at q
    exact q.elim
def rdGs (c : Ctx) (pn : Pins) (T : List Nat) (gs : List Tg) : TGs := fun vs σ H Q => ∃ F e P ds, Rel c pn F e σ H P ∧ Reps c.K c.C F ds vs ∧ PoG c pn T σ P F H Q (gAll gs ds e)
structure OkGs (X : Cx) (c : Ctx) (pn : Pins) (T : List Nat) (tg : List Expr) (gs : List Tg) : Prop where
  ok : PGs X tg (rdGs c pn T gs)
theorem ogs_nil : OkGs X c pn [] [] [] := by
  refine ⟨PGs.imp pgs_nil fun vs σ H Q ⟨F, e, P, ds, R, r, q⟩ => ?_⟩
  cases ds with
  | nil =>
    have r : vs = [] := r
    exact ⟨r, q σ F H .rfl R rfl fun _ _ => rfl⟩
  | cons d ds => exact q.elim
theorem PoG.later {T : List Nat} {σ : St} {P : Addr → Prop} {F H F1 H1 : Hp} {Q : St → Hp → Prop} (l : Later F H F1 H1 P) : ∀ {r : Option Env}, PoG c pn T σ P F H Q r → PoG c pn T σ P F1 H1 Q r
  | some _, h => fun σ' F' H' l' => h σ' F' H' (l.trans l')
  | none, h => h
theorem ogs_cons {a : Expr} {es : List Expr} {g : Tg} {gs : List Tg} {T T' : List Nat} (h : OkG X c pn false T a g) (hs : OkGs X c pn T' es gs) (hst : (assignEach (a :: es) X.env).map (·.2) = assign a X.env :: (assignEach es X.env).map (·.2) := by rfl) :
    OkGs X c pn (T ++ T') (a :: es) (g :: gs) := by
  refine ⟨PGs.imp (pgs_cons h.ok hs.ok hst) fun vs σ H Q ⟨F, e, P, ds, R, r, q⟩ => ?_⟩
  cases ds with
  | nil => exact q.elim
  | cons d ds =>
    obtain ⟨v, ws, rfl, r1, r2⟩ := r
    have q : PoG c pn (T ++ T') σ P F H Q ((g d e).bind fun e' => gAll gs ds e') := q
    refine ⟨v, ws, rfl, F, e, P, d, R, .inl r1, ?_⟩
    cases hg : g d e with
    | some e1 =>
      rw [hg, Option.bind_some] at q
      intro σ1 F1 H1 l1 R1 hl1 hk1
      refine ⟨F1, e1, P, ds, R1, r2.mono l1.F, ?_⟩
      cases h2 : gAll gs ds e1 with
      | some e2 =>
        rw [h2] at q
        intro σ2 F2 H2 l2 R2 hl2 hk2
        exact q σ2 F2 H2 (l1.trans l2) R2 (hl2.trans hl1) fun j hj => (hk2 j fun z => hj (List.mem_append_right _ z)).trans (hk1 j fun z => hj (List.mem_append_left _ z))
      | none => rw [h2] at q; exact q
    | none => rw [hg] at q; exact q
theorem og_tup {z : Bool} {es : List Expr} {k : Nat} {gs : List Tg} {T : List Nat} {pos : Pos} (hc : X.calm = true) (hK : c.K = X.K) (h : OkGs X c pn T es gs) (hl : gs.length = es.length)
    (hn : (assignEach es X.env).length = es.length := by rfl) (hst : (assignEach es X.env).findIdx? (·.1) = none := by rfl) : OkG X c pn z T (.Tuple es k pos) (gTupD gs) := by
  refine ⟨PG.imp (pg_tup hc h.ok hn hst) fun v σ H Q ⟨F, e, P, d, R, r, q⟩ => ?_⟩
  cases d with
  | box hd ds =>
    cases hd with
    | tup =>
      obtain ⟨a, vs, rfl, h1, h3⟩ := r.tup
      have q : PoG c pn T σ P F H Q (gAll gs ds e) := q
      refine ⟨a, vs, rfl, by rw [← hK]; exact SqT.mono R.same h1, ?_, F, e, P, ds, R, h3, q⟩
      have e1 : ∀ (gs : List Tg) (ds : List D) (e : Env), PoG c pn T σ P F H Q (gAll gs ds e) → ds.length = gs.length := by
        intro gs
        induction gs with
        | nil => intro ds e q; cases ds with
          | nil => rfl
          | cons _ _ => exact q.elim
        | cons g gs ih => intro ds e q; cases ds with
          | nil => exact q.elim
          | cons d ds =>
            have q : PoG c pn T σ P F H Q ((g d e).bind fun e' => gAll gs ds e') := q
            cases hg : g d e with
            | some e1 => rw [hg] at q; simp [ih ds e1 q]
            | none => rw [hg] at q; exact q.elim
      rw [← h3.length, e1 gs ds e q, hl]
    | _ => exact q.elim
  | _ => exact q.elim
/-- target = e -/
theorem os_asg {tg ex : Expr} {m : M Vl} {g : Tg} {T : List Nat} {pos : Pos} (h : OkV X c pn W ex m) (hg : OkG X c pn false T tg g) (hs : swapsWithSole [tg] ex pos.line X.env = pure false := by rfl) (hw : swappedStores [tg] ex X.env = pure none := by rfl)
    (h1 : (assignEach [tg] X.env).map (·.2) = [assign tg X.env] := by rfl) : OkS X c pn W (.Assign [tg] ex pos) (sAsg g m) := by
  refine ⟨PS.imp (ps_asg h.ok hg.ok hs hw h1) fun D σ H ⟨F, e, P, R, q⟩ => ⟨F, e, P, R, ?_⟩⟩
  refine cvS q fun n d e1 v F1 H1 l R1 q1 => ?_
  obtain ⟨F2, l2, r2, R2⟩ := R1.fz
  refine ⟨F2, e1, P, d, R2, .inl r2, ?_⟩
  have q1 := q1.later l2
  cases hg : g d e1 with
  | some e2 => rw [bnd_ok (show tgM g d e1 = .ok () e2 by simp only [tgM, hg])] at q1; exact fun σ' F' H' l' R' _ _ => q1 σ' F' H' l' R'
  | none => rw [bnd_stuck (show tgM g d e1 = .stuck by simp only [tgM, hg])] at q1; exact q1.elim
/-- a, b = x, y: the pair is not laid -/
def sPar (i j : Nat) (a b : M Item) : M Fl := bnd (seqM [a, b]) fun xs => match xs with
  | [.val d, .val d'] => fun e => if i < e.length ∧ j < e.length then .ok .nx ((e.set i (some (0, d))).set j (some (0, d'))) else .stuck
  | _ => stk
theorem os_par {i j : Nat} {x y : Str} {a b : Expr} {ma mb : M Item} {px py pt : Pos} {kt k2 pt2} {pos : Pos} (hc : X.calm = true) (hN : X.N.Nodup) (hpi : ∀ p ∈ pn, p.1 ≠ i) (hpj : ∀ p ∈ pn, p.1 ≠ j) (hij : i ≠ j) (ha : OkA X c pn W [a, b] (seqM [ma, mb]))
    (hw : swappedStores [.Tuple [.Name x px, .Name y py] kt pt] (.Tuple [a, b] k2 pt2) X.env = pure (some [x, y]))
    (hi : X.N[i]? = some x := by rfl) (hj : X.N[j]? = some y := by rfl) (hx : X.env.scope.names.lookup x = some .local := by rfl) (hy : X.env.scope.names.lookup y = some .local := by rfl)
    (hs : swapsWithSole [.Tuple [.Name x px, .Name y py] kt pt] (.Tuple [a, b] k2 pt2) pos.line X.env = pure false := by rfl) :
    OkS X c pn W (.Assign [.Tuple [.Name x px, .Name y py] kt pt] (.Tuple [a, b] k2 pt2) pos) (sPar i j ma mb) := by
  refine ⟨PS.imp (ps_par hc hN hi hj hij hx hy ha.ok hw hs) fun D σ H ⟨F, e, P, R, q⟩ => ⟨F, e, P, R, ?_⟩⟩
  refine chS (R := fun F x v => IRels c F σ x v) q fun xs e1 vs F1 H1 l1 R1 i1 q1 => ?_
  match xs, i1, q1 with
  | [.val d, .val d'], ⟨v, t1, e0, r1, w, t2, e3, r2, e4⟩, q1 =>
    have e4 : t2 = [] := e4
    subst e4 e3 e0
    dsimp only at q1
    by_cases hl : i < e1.length ∧ j < e1.length
    · rw [if_pos hl] at q1
      have S1 := (RelV.zero R1 r1).store hl.1 hpi
      have S2 := (RelV.zero S1 r2).store (show j < (e1.set i (some (0, d))).length by simpa using hl.2) hpj
      exact ⟨v, w, rfl, q1 _ F1 H1 .rfl S2⟩
    · rw [if_neg hl] at q1
      exact q1.elim
  | [], _, q1 => exact q1.elim
  | [.val _], _, q1 => exact q1.elim
  | [.bor _], _, q1 => exact q1.elim
  | .bor _ :: _ :: _, _, q1 => exact q1.elim
  | .val _ :: .bor _ :: _, _, q1 => exact q1.elim
  | .val _ :: .val _ :: _ :: _, _, q1 => exact q1.elim

/-! ### what is walked -/
structure Walks (c : Ctx) (z : Bool) (J : It) (ds : List D) (F : Hp) : Prop where
  len : ds.length ≤ sizeLine
  stop : ∀ F' H, Same F F' → Same F' H → J.stop ds.length H
  go : ∀ i d F' H, ds[i]? = some d → Same F F' → Same F' H → J.go i H
  yld : ∀ i d F' H x H' pn e σ P, ds[i]? = some d → Same F F' → Rel c pn F' e σ H P → J.yld i H x H' → ∃ F'', Later F' H F'' H' P ∧ Rel c pn F'' e σ H' P ∧ RepI z c F'' d x
def rdI (c : Ctx) (pn : Pins) (W : WX) (z : Bool) (m : M (List D)) : TI := fun σ H R => ∃ F e P, Rel c pn F e σ H P ∧ PoR c pn W σ (fun F ds J => Walks c z J ds F) P F H R (m e)
structure OkI (X : Cx) (c : Ctx) (pn : Pins) (W : WX) (z : Bool) (tg it : Expr) (m : M (List D)) : Prop where
  ok : PI X tg it (rdI c pn W z m)
theorem PI.imp {tg it : Expr} {t t' : TI} (h : PI X tg it t) (k : ∀ σ H R, t' σ H R → t σ H R) : PI X tg it t' := ⟨fun pins s σ H R I q => h.run pins s σ H R I (k σ H R q)⟩
theorem Reps.get {K : PySem.W.Frag} {C : CT} {F : Hp} : ∀ {ds : List D} {vs : List V} {i : Nat} {d : D}, Reps K C F ds vs → ds[i]? = some d → ∃ v, vs[i]? = some v ∧ Rep K C F d v
  | [], _, _, _, _, h => by simp at h
  | _ :: _, _, 0, _, ⟨v, ws, h1, h2, _⟩, h => by
    simp at h; subst h; subst h1
    exact ⟨v, rfl, h2⟩
  | _ :: ds, _, i + 1, d, ⟨v, ws, h1, _, h3⟩, h => by
    subst h1
    obtain ⟨u, q1, q2⟩ := Reps.get (i := i) h3 (by simpa using h)
    exact ⟨u, by simpa using q1, q2⟩
theorem walks_list {a : Addr} {ds : List D} {vs : List V} {F : Hp} (hl : ds.length ≤ sizeLine) (h : SqL c.K F a vs) (r : Reps c.K c.C F ds vs) : Walks c false (Itl c.K a) ds F where
  len := hl
  stop := fun F' H s1 s2 => ⟨vs, Same.seq (s1.trans s2) h, by rw [r.length]; exact Nat.le_refl _⟩
  go := fun i d F' H hi s1 s2 => by
    obtain ⟨v, hv, _⟩ := r.get hi
    exact ⟨vs, v, Same.seq (s1.trans s2) h, hv⟩
  yld := fun i d F' H x H' pn e σ P hi s1 R y => by
    obtain ⟨rfl, y⟩ := y
    obtain ⟨v, hv, rv⟩ := r.get hi
    have q := y vs (Same.seq (s1.trans R.same) h)
    rw [hv] at q
    cases q
    exact ⟨F', .rfl, R, .inl (rv.mono s1)⟩
theorem walks_tup {a : Addr} {ds : List D} {vs : List V} {F : Hp} (hl : ds.length ≤ sizeLine) (h : SqT c.K F a vs) (r : Reps c.K c.C F ds vs) : Walks c false (Itt c.K a) ds F where
  len := hl
  stop := fun F' H s1 s2 => ⟨vs, SqT.mono (s1.trans s2) h, by rw [r.length]; exact Nat.le_refl _⟩
  go := fun i d F' H hi s1 s2 => by
    obtain ⟨v, hv, _⟩ := r.get hi
    exact ⟨vs, v, SqT.mono (s1.trans s2) h, hv⟩
  yld := fun i d F' H x H' pn e σ P hi s1 R y => by
    obtain ⟨rfl, y⟩ := y
    obtain ⟨v, hv, rv⟩ := r.get hi
    have q := y vs (SqT.mono (s1.trans R.same) h)
    rw [hv] at q
    cases q
    exact ⟨F', .rfl, R, .inl (rv.mono s1)⟩
theorem reps_ints {F : Hp} : ∀ (ns : List Int), Reps c.K c.C F (ns.map D.int) (ns.map V.int)
  | [] => rfl
  | n :: ns => ⟨_, _, rfl, rfl, reps_ints ns⟩
theorem walks_range {lo hi : Int} {F : Hp} (hl : hi - lo ≤ 16777216) : Walks c false (Itr lo (hi - lo).toNat) (rangeL lo hi) F where
  len := by
    simp only [rangeL, List.length_map, List.length_range]
    have : sizeLine = 16777216 := by decide
    omega
  stop := fun F' H _ _ => by
    show (hi - lo).toNat ≤ (rangeL lo hi).length
    simp [rangeL]
  go := fun i d F' H h _ _ => by
    have := (List.getElem?_eq_some_iff.mp h).1
    show i < (hi - lo).toNat
    simpa only [rangeL, List.length_map, List.length_range] using this
  yld := fun i d F' H x H' pn e σ P h s1 R y => by
    obtain ⟨rfl, rfl⟩ := y
    refine ⟨F', .rfl, R, ?_⟩
    obtain ⟨h1, h2⟩ := List.getElem?_eq_some_iff.mp h
    simp only [rangeL, List.getElem_map, List.getElem_range] at h2
    subst h2
    exact .inl rfl
/-- a list or a tuple: whichever it is -/
def iSeq (K : PySem.W.Frag) (tl : TE) : TI := fun σ H R => tl σ H fun x H1 => ∃ a, x = .ref a ∧ (((∃ xs, SqL K H1 a xs) ∧ R (Itl K a) H1) ∨ ((∃ xs, SqT K H1 a xs) ∧ R (Itt K a) H1))
theorem pi_seq {tg l : Expr} {tl : TE} (hl : PE X l tl) : PI X tg l (iSeq X.K tl) := by
  refine ⟨fun pins s σ H R I h => thn (hl.run pins s σ H _ I h) fun v s1 ⟨x, H1, I1, r1, a, e, q⟩ => ?_⟩
  subst e
  cases r1
  have J : ∀ o : Obj, Inv X pins σ H1 { s1 with heap := s1.heap.push o } := fun o =>
    Inv.kept (t' := s1.toks) I1 fun b u z => Heap.get?_push_of_some _ z
  have fr : ∀ b ∈ [s1.heap.objs.size], FpOk X pins H1 b := fun b hb => by
    rw [List.mem_singleton.mp hb]
    exact I1.fpOk (Nat.le_refl _) (HOk.fresh I1.hok (Nat.le_refl _))
  rcases q with ⟨⟨xs, hq⟩, q⟩ | ⟨⟨xs, hq⟩, q⟩
  · obtain ⟨its, _, p, _⟩ := I1.list hq
    exact wpAny_pyIter_list p.isList ⟨_, [s1.heap.objs.size], _, _, H1, rfl, J _, turn_list a _, ⟨_, Heap.get?_push_size _ rfl, rfl, rfl⟩, fr, q⟩
  · obtain ⟨its, _, p, _⟩ := I1.tuple hq
    have p' : s1.heap.IsTuple a its.toArray := p
    exact wpAny_pyIter_tuple p' ⟨_, [s1.heap.objs.size], _, _, H1, rfl, J _, turn_tuple a _, ⟨_, Heap.get?_push_size _ rfl, rfl, rfl⟩, fr, q⟩
theorem oi_seq {tg ex : Expr} {m : M Vl} (hK : c.K = X.K) (h : OkV X c pn W ex m) : OkI X c pn W false tg ex (itV m) := by
  refine ⟨PI.imp (pi_seq h.ok) fun σ H R ⟨F, e, P, R0, q⟩ => ⟨F, e, P, R0, ?_⟩⟩
  refine cvR q fun n d e1 v F1 H1 l R1 q1 => ?_
  obtain ⟨F2, l2, r2, R2⟩ := R1.fz
  cases d with
  | box hd ds =>
    cases hd with
    | lst =>
      obtain ⟨a, vs, rfl, h1, h2, h3⟩ := r2
      have h1 : F2 a = some (.lst vs) := h1
      refine ⟨a, rfl, .inl ⟨⟨vs, SqL.of (R2.same _ _ h1)⟩, ?_⟩⟩
      rw [← hK]
      exact q1 _ F2 H1 l2 R2 (walks_list h2 (SqL.of h1) h3)
    | tup =>
      obtain ⟨a, vs, rfl, h1, h2, h3⟩ := r2
      have h1 : SqT c.K F2 a vs := TupS.sq h1
      refine ⟨a, rfl, .inr ⟨⟨vs, by rw [← hK]; exact SqT.mono R2.same h1⟩, ?_⟩⟩
      rw [← hK]
      exact q1 _ F2 H1 l2 R2 (walks_tup h2 h1 h3)
    | _ => exact q1.elim
  | scr ns =>
    obtain ⟨a, rfl, h1, h2⟩ := r2
    refine ⟨a, rfl, .inl ⟨⟨_, by rw [← hK]; exact Same.seq R2.same h1⟩, ?_⟩⟩
    rw [← hK]
    exact q1 _ F2 H1 l2 R2 (walks_list (by simpa using h2) h1 (reps_ints ns))
  | _ => exact q1.elim
theorem oi_range1 {tg a : Expr} {p pos : Pos} {m : M Item} (hm : X.mg "range" = none) (h : OkA X c pn W [a] (seqM [m])) (hg : Gl X "range" := by rfl) (hs : starEach [a] X.env = [(false, eval a X.env)] := by rfl) :
    OkI X c pn W false tg (.Call (.Name "range" p) [a] [] pos) (itRange1 m) := by
  refine ⟨PI.imp (pi_range1 hg hm h.ok hs) fun σ H R ⟨F, e, P, R0, q⟩ => ⟨F, e, P, R0, ?_⟩⟩
  refine chR (R := fun F x v => IRels c F σ x v) q fun xs e1 vs F1 H1 l1 R1 i1 q1 => ?_
  match xs, i1, q1 with
  | [x], ⟨v, t1, e0, r1, e3⟩, q1 =>
    have e3 : t1 = [] := e3
    subst e3 e0
    obtain ⟨F2, d, e2, l2, s2, R2, q2⟩ := chResR q1 R1 r1
    cases d with
    | int j =>
      have s2 : v = .int j := s2
      subst s2
      dsimp only at q2
      split at q2
      · rename_i hb
        rw [Bool.and_eq_true] at hb
        unfold bigI at hb
        rw [Bool.and_eq_true] at hb
        refine ⟨j, rfl, of_decide_eq_true hb.1.1, of_decide_eq_true hb.1.2, ?_⟩
        have w := walks_range (c := c) (lo := 0) (hi := j) (F := F2) (by have := of_decide_eq_true hb.2; omega)
        rw [Int.sub_zero] at w
        exact q2 _ F2 H1 .rfl R2 w
      · exact q2.elim
    | _ => exact q2.elim
  | [], _, q1 => exact q1.elim
  | _ :: _ :: _, _, q1 => exact q1.elim
theorem oi_range2 {tg a b : Expr} {p pos : Pos} {m m' : M Item} (hm : X.mg "range" = none) (h : OkA X c pn W [a, b] (seqM [m, m'])) (hg : Gl X "range" := by rfl) (hs : starEach [a, b] X.env = [(false, eval a X.env), (false, eval b X.env)] := by rfl)
    (hs2 : starEach [b] X.env = [(false, eval b X.env)] := by rfl) : OkI X c pn W false tg (.Call (.Name "range" p) [a, b] [] pos) (itRange2 m m') := by
  refine ⟨PI.imp (pi_range2 hg hm h.ok hs hs2) fun σ H R ⟨F, e, P, R0, q⟩ => ⟨F, e, P, R0, ?_⟩⟩
  refine chR (R := fun F x v => IRels c F σ x v) q fun xs e1 vs F1 H1 l1 R1 i1 q1 => ?_
  match xs, i1, q1 with
  | [x, y], ⟨v, t1, e0, r1, w, t2, e3, r2, e4⟩, q1 =>
    have e4 : t2 = [] := e4
    subst e4 e3 e0
    obtain ⟨F2, d, e2, l2, s2, R2, q2⟩ := chResR q1 R1 r1
    obtain ⟨F3, d', e3, l3, s3, R3, q3⟩ := chResR q2 R2 (r2.mono l2.F)
    cases d with
    | int i =>
      cases d' with
      | int j =>
        have s2 : v = .int i := s2
        have s3 : w = .int j := s3
        subst s2 s3
        dsimp only at q3
        split at q3
        · rename_i hb
          simp only [Bool.and_eq_true, bigI] at hb
          exact ⟨i, j, rfl, ⟨of_decide_eq_true hb.1.1.1, of_decide_eq_true hb.1.1.2, of_decide_eq_true hb.1.2.1, of_decide_eq_true hb.1.2.2⟩, q3 _ F3 H1 .rfl R3 (walks_range (of_decide_eq_true hb.2))⟩
        · exact q3.elim
      | _ => exact q3.elim
    | _ => exact q3.elim
  | [], _, q1 => exact q1.elim
  | [_], _, q1 => exact q1.elim
  | _ :: _ :: _ :: _, _, q1 => exact q1.elim

/-! ### for, while -/
theorem os_for {z : Bool} {tg it : Expr} {body : List Stmt} {pos : Pos} {mi : M (List D)} {g : Tg} {T : List Nat} {mb : M Fl} (hp : PassesOwn (model X.prog X.w) X.A X.env X.xe) (hc : X.calm = true) (hi : OkI X c pn W z tg it mi) (hg : OkG X c pn z T tg g) (hb : OkSs X c pn W body mb)
    (hs : ∀ x, foldedSetIterable it X.env x = pure x := by intro _; rfl) : OkS X c pn W (.For tg it body [] pos) (sFor mi g mb) := by
  refine ⟨PS.imp (ps_for hp hc hi.ok hg.ok hb.ok hs) fun D σ H ⟨F, e, P, R, q⟩ => ⟨F, e, P, R, ?_⟩⟩
  refine chS (R := fun F ds J => Walks c z J ds F) q fun ds e1 J F1 H1 l1 R1 w q1 => ?_
  refine ⟨fun i m σ H => m = ds.length - i ∧ i ≤ ds.length ∧ ∃ F e, Same F1 F ∧ Rel c pn F e σ H P ∧ PoS c pn W σ P F H D (forL g mb (ds.drop i) e), ⟨ds.length, rfl, Nat.zero_le _, F1, e1, Same.refl _, R1, q1⟩, ?_⟩
  rintro i m σ2 H2 ⟨rfl, hi, F2, e2, s2, R2, q2⟩
  by_cases hlt : i < ds.length
  · have hd : ds[i]? = some ds[i] := List.getElem?_eq_getElem hlt
    rw [List.drop_eq_getElem_cons hlt] at q2
    refine .inr ⟨w.go i _ F2 H2 hd s2 R2.same, fun σ' H' => ∃ F e, Same F1 F ∧ Rel c pn F e σ' H' P ∧ PoS c pn W σ' P F H' D (forL g mb (ds.drop (i + 1)) e), fun σ' H' z => ⟨ds.length - (i + 1), by omega, rfl, hlt, z⟩, fun x H3 y => ?_⟩
    obtain ⟨F3, l3, R3, r3⟩ := w.yld i _ F2 H2 x H3 pn e2 σ2 P hd s2 R2 y
    refine ⟨F3, e2, P, ds[i], R3, r3, ?_⟩
    have q3 : PoS c pn W σ2 P F3 H3 D (bnd (tgM g ds[i]) (fun _ => bnd mb fun f => match f with
      | .nx => forL g mb (ds.drop (i + 1))
      | .ct => forL g mb (ds.drop (i + 1))
      | .bk => ret .nx
      | .rt v => ret (.rt v)) e2) := q2.later l3
    cases h4 : g ds[i] e2 with
    | none => rw [bnd_stuck (show tgM g ds[i] e2 = .stuck by simp only [tgM, h4])] at q3; exact q3.elim
    | some e4 =>
      rw [bnd_ok (show tgM g ds[i] e2 = .ok () e4 by simp only [tgM, h4])] at q3
      intro σ4 F4 H4 l4 R4 _ _
      refine ⟨F4, e4, P, R4, ?_⟩
      cases h5 : mb e4 with
      | ok f e5 =>
        rw [bnd_ok h5] at q3
        cases f with
        | nx => exact fun σ6 F6 H6 l6 R6 => ⟨F6, e5, s2.trans (l3.F.trans (l4.F.trans l6.F)), R6, (PoS.any q3).later (l4.trans l6)⟩
        | ct => exact fun σ6 F6 H6 l6 R6 => ⟨F6, e5, s2.trans (l3.F.trans (l4.F.trans l6.F)), R6, (PoS.any q3).later (l4.trans l6)⟩
        | bk => exact fun σ6 F6 H6 l6 R6 => q3 σ6 F6 H6 (l4.trans l6) R6
        | rt v =>
          obtain ⟨n, d⟩ := v
          exact fun v σ6 F6 H6 l6 R6 => q3 v σ6 F6 H6 (l4.trans l6) R6
      | exc k ns dd e5 => rw [bnd_exc h5] at q3; exact fun a σ' F' H' l' => q3 a σ' F' H' (l4.trans l')
      | stuck => rw [bnd_stuck h5] at q3; exact q3.elim
  · have e : i = ds.length := by omega
    subst e
    rw [List.drop_length] at q2
    exact .inl ⟨w.stop F2 H2 s2 R2.same, q2 σ2 F2 H2 .rfl R2⟩
  where PoS.any {W : WX} {σ σ1 : St} {P : Addr → Prop} {F H : Hp} {D : Ends} : ∀ {r : Res Fl}, PoS c pn W σ P F H D r → PoS c pn W σ1 P F H D r
    | .ok .nx _, h => h
    | .ok .bk _, h => h
    | .ok .ct _, h => h
    | .ok (.rt (_, _)) _, h => h
    | .exc _ _ _ _, h => h
    | .stuck, h => h
theorem os_while (n : Nat) {t : Expr} {body : List Stmt} {pos : Pos} {mt : M Bool} {mb : M Fl} (hp : PassesOwn (model X.prog X.w) X.A X.env X.xe) (ht : OkT X c pn W t mt) (hb : OkSs X c pn W body mb) : OkS X c pn W (.While t body [] pos) (whileL mt mb n) := by
  refine ⟨PS.imp (ps_while hp ht.ok hb.ok) fun D σ H ⟨F, e, P, R, q⟩ => ?_⟩
  refine ⟨fun m σ H => ∃ F e, Rel c pn F e σ H P ∧ PoS c pn W σ P F H D (whileL mt mb m e), ⟨n, F, e, R, q⟩, ?_⟩
  rintro m σ1 H1 ⟨F1, e1, R1, q1⟩
  cases m with
  | zero => exact q1.elim
  | succ m =>
    refine ⟨F1, e1, P, R1, chS (R := fun _ x v => v = x) q1 fun b e2 b' F2 H2 l2 R2 i q2 => ?_⟩
    subst i
    cases b' with
    | false => exact q2 σ1 F2 H2 .rfl R2
    | true =>
      rw [if_pos rfl]
      refine ⟨fun σ' H' => ∃ F e, Rel c pn F e σ' H' P ∧ PoS c pn W σ' P F H' D (whileL mt mb m e), fun σ' H' z => ⟨m, Nat.lt_succ_self m, z⟩, F2, e2, P, R2, ?_⟩
      rw [if_pos rfl] at q2
      cases h5 : mb e2 with
      | ok f e5 =>
        rw [bnd_ok h5] at q2
        cases f with
        | nx => exact fun σ6 F6 H6 l6 R6 => ⟨F6, e5, R6, (os_for.PoS.any q2).later l6⟩
        | ct => exact fun σ6 F6 H6 l6 R6 => ⟨F6, e5, R6, (os_for.PoS.any q2).later l6⟩
        | bk => exact fun σ6 F6 H6 l6 R6 => q2 σ6 F6 H6 l6 R6
        | rt v =>
          obtain ⟨n, d⟩ := v
          exact fun v σ6 F6 H6 l6 R6 => q2 v σ6 F6 H6 l6 R6
      | exc k ns dd e5 => rw [bnd_exc h5] at q2; exact q2
      | stuck => rw [bnd_stuck h5] at q2; exact q2.elim
end
end Mini

set_option Elab.async false
set_option linter.all false
set_option maxRecDepth 100000
/-! MCall: a def's promise by the small semantics, calls, own classes made, fields. -/
namespace Mini
open PySem L2
def msE : Nat → Option Vl → Env
  | 0, _ => []
  | p + 1, ms => ms :: List.replicate p none
/-- the promise of a def -/
def spF (c : Ctx) (p : Nat) (f : FSem) : Sp := fun vs H Q E => ∃ F P ds, ds.length = p ∧ Rel c [] F (ds.map some) (vs.map some) H P ∧ match f ds with
  | .ok (n, d) ms => ∀ v F' H', Later F H F' H' P → RelV c [] F' (msE p ms) (vs.map some) H' P v n d → Q v H'
  | .exc k ns xs ms => ∀ dd F' H', Later F H F' H' P → Rel c [] F' (msE p ms) (vs.map some) H' P → XRep c F' H' dd ns xs → E (.ref (c.C.a k)) dd H'
  | .stuck => False
structure DefOk (X : Cx) (c : Ctx) (x : Str) (p : Nat) (f : FSem) : Prop where
  ex : ∃ k fa fd ps, FnOk X.prog X.w X.K X.mg X.base (L2.CX X.prog X.w) k fa fd ps (spF c p f) ∧ Room k X.A ∧ X.mg x = some (.ref fa) ∧ PySem.W.keepIn X.K (.ref fa) = true ∧ Binds X.K fd ps []
abbrev WK (E : XK) : WX := fun cls d _ H => E cls d H
section
variable {X : Cx} {c : Ctx} {pn : Pins} {W : WX} {F H : Hp} {e : Env} {σ : St} {P : Addr → Prop}
theorem vals_reps {F : Hp} : ∀ {xs : List Item} {ds : List D} {vs : List V}, valsOf xs = some ds → IRels c F σ xs vs → Reps c.K c.C F ds vs
  | [], ds, vs, h, i => by
    cases h
    exact i
  | .val d :: xs, ds, vs, h, ⟨v, ws, e, i1, i2⟩ => by
    unfold valsOf at h
    cases q : valsOf xs with
    | none => rw [q] at h; cases h
    | some ds' =>
      rw [q] at h
      cases h
      exact ⟨v, ws, e, i1, vals_reps q i2⟩
  | .bor _ :: _, _, _, h, _ => by cases h
theorem getS_map {ds : List Vl} {i n : Nat} {d : D} (h : getS (ds.map some) i = some (n, d)) : ds[i]? = some (n, d) := by
  unfold getS at h
  rw [List.getD_eq_getElem?_getD, List.getElem?_map] at h
  cases q : ds[i]? with
  | none => rw [q] at h; cases h
  | some x => rw [q] at h; cases h; rfl
/-- frozen values as a call's slots -/
theorem rel_args {ds : List D} {vs : List V} (s : Same F H) (r : Reps c.K c.C F ds vs) (fr : ∀ a, P a → H a ≠ none ∧ F a = none) : Rel c [] F ((ds.map fun d => ((0, d) : Vl)).map some) (vs.map some) H P := by
  refine ⟨fun _ => [], by simp [r.length], s, fun i n d h => ?_, fun _ _ => rfl, fun _ => List.nodup_nil, fun _ _ _ _ h => by simp at h, fun a p => ⟨(fr a p).1, (fr a p).2, fun _ => by simp⟩, fun p hp => by simp at hp⟩
  have h := getS_map h
  rw [List.getElem?_map] at h
  cases q : ds[i]? with
  | none => rw [q] at h; cases h
  | some x =>
    rw [q] at h
    cases h
    obtain ⟨v, h1, h2⟩ := r.get q
    exact ⟨v, by rw [List.getElem?_map, h1]; rfl, Own.zero h2⟩
theorem call0_rd {f : FSem} {p : Nat} {ms : List (M Item)} {Q : VK} (hp : ∀ ds v ms, f ds = .ok v ms → ds.length = p) (hpx : ∀ ds k ns xs ms, f ds = .exc k ns xs ms → ds.length = p) {σ : St} {H : Hp} (h : rdV c pn W (vCall0 f ms) σ H Q) : tCallSD (spF c p f) [] (WE W) (rdA c pn W (seqM ms)) σ H Q := by
  obtain ⟨F, e, P, R, q⟩ := h
  refine ⟨F, e, P, R, chV (R := fun F x v => IRels c F σ x v) q fun xs e1 vs F1 H1 l1 R1 i1 q1 => ?_⟩
  rw [List.append_nil]
  cases hv : valsOf xs with
  | none => rw [hv] at q1; exact q1.elim
  | some ds =>
    rw [hv] at q1
    have q1 : PoV c pn W σ P F1 H1 Q (match f (ds.map fun d => (0, d)) with
      | .ok v _ => .ok v e1
      | .exc c ns fs _ => .exc c ns fs e1
      | .stuck => .stuck) := q1
    have r := vals_reps hv i1
    obtain ⟨φ, r1, r2, r3, r4, r5, r6, r7, r8⟩ := id R1
    have fr : ∀ a, (P a ∨ ∃ i, a ∈ φ i) → H1 a ≠ none ∧ F1 a = none := fun a h => by
      rcases h with h | ⟨i, h⟩
      · exact ⟨(r7 a h).1, (r7 a h).2.1⟩
      · cases g : getS e1 i with
        | none => rw [r4 i g] at h; cases h
        | some z =>
          obtain ⟨n, d⟩ := z
          obtain ⟨v, _, o⟩ := r3 i n d g
          exact ⟨(o.fp a h).2, (o.fp a h).1⟩
    have back : ∀ {F' H' : Hp} {fx : List Addr} {e' : Env} {σ' : St}, Later F1 H1 F' H' (fun a => P a ∨ ∃ i, a ∈ φ i) → (∀ a ∈ fx, ¬ (P a ∨ ∃ i, a ∈ φ i)) → Rel c [] F' e' σ' H' (fun a => (P a ∨ ∃ i, a ∈ φ i) ∨ a ∈ fx) → Rel c pn F' e1 σ H' (fun a => P a ∨ a ∈ fx) := by
      intro F' H' fx e' σ' l nf R'
      obtain ⟨φ', t1, t2, t3, t4, t5, t6, t7, t8⟩ := R'
      refine ⟨φ, r1, t2, fun i n d g => ?_, r4, r5, r6, fun a ha => ?_, r8⟩
      · obtain ⟨v, g1, o⟩ := r3 i n d g
        exact ⟨v, g1, o.frame l.F fun a ha => ⟨l.P a (.inr ⟨i, ha⟩), (t7 a (.inl (.inr ⟨i, ha⟩))).2.1⟩⟩
      · rcases ha with ha | ha
        · exact ⟨(t7 a (.inl (.inl ha))).1, (t7 a (.inl (.inl ha))).2.1, (r7 a ha).2.2⟩
        · exact ⟨(t7 a (.inr ha)).1, (t7 a (.inr ha)).2.1, fun i hi => nf a ha (.inr ⟨i, hi⟩)⟩
    cases hf : f (ds.map fun d => (0, d)) with
    | ok v ms' =>
      obtain ⟨n, d⟩ := v
      rw [hf] at q1
      refine ⟨F1, _, _, hp _ _ _ hf, rel_args r2 r fr, ?_⟩
      rw [hf]
      rintro v F' H' l ⟨fx, o, nd, nf, R'⟩
      exact q1 v F' H' ⟨l.F, fun a ha => l.P a (.inl ha)⟩ ⟨fx, o, nd, fun a ha z => nf a ha (.inl z), back l nf R'⟩
    | exc k ns xs' ms' =>
      rw [hf] at q1
      refine ⟨F1, _, _, hpx _ _ _ _ _ hf, rel_args r2 r fr, ?_⟩
      rw [hf]
      intro dd F' H' l R' x
      have R2 := back (fx := []) l (fun a ha => by simp at ha) (R'.weak fun a z => z.elim id fun z => by simp at z)
      exact q1 dd σ F' H' ⟨l.F, fun a ha => l.P a (.inl ha)⟩ (R2.weak fun a z => .inl z) x
    | stuck => rw [hf] at q1; exact q1.elim
theorem mkF_len {n p : Nat} {mu : Bool} {b : M Fl} {ds : List Vl} (h : mkF n p mu b ds ≠ .stuck) : ds.length = p := by
  unfold mkF at h
  by_cases e : ds.length = p
  · exact e
  · rw [if_neg e] at h; exact absurd rfl h
/-- a def's semantics fixes its number of arguments -/
def Ar (p : Nat) (f : FSem) : Prop := ∀ ds, f ds ≠ .stuck → ds.length = p
theorem ar_mkF {n p : Nat} {mu : Bool} {b : M Fl} : Ar p (mkF n p mu b) := fun _ h => mkF_len h
theorem ok_call0 {f : FSem} {p : Nat} {ms : List (M Item)} {x : Str} {a : Expr} {es : List Expr} {pp pos : Pos} (D : DefOk X c x p f) (ar : Ar p f) (tk : Takes X W) (ha : OkA X c pn W (a :: es) (seqM ms))
    (hg : Gl X x := by rfl) (hdb : (x == ("__debug__" : Str)) = false := by decide) (he : starEach (a :: es) X.env = (false, eval a X.env) :: starEach es X.env := by rfl) (hpl : (backTo pos (starEach es X.env)).any (·.1) = false := by rfl) :
    OkV X c pn W (.Call (.Name x pp) (a :: es) [] pos) (vCall0 f ms) := by
  obtain ⟨k, fa, fd, ps, F, hr, hm, hk, hb⟩ := D.ex
  exact ⟨PE.imp (pe_callSD (E := WE W) F hr hg hm hk hb .nil (fun σ => passAt tk σ) ha.ok hdb he hpl) fun σ H Q h => call0_rd (fun ds v ms e => ar ds (by rw [e]; exact fun z => nomatch z)) (fun ds k ns xs ms e => ar ds (by rw [e]; exact fun z => nomatch z)) h⟩
theorem getS_cons0 {s : Slot} {e : Env} : getS (s :: e) 0 = s := rfl
theorem getS_consS {s : Slot} {e : Env} {i : Nat} : getS (s :: e) (i + 1) = getS e i := rfl
theorem call1_rd {f : FSem} {p : Nat} {ms : List (M Item)} {Q : VK} (ar : Ar p f) {σ : St} {H : Hp} (h : rdV c pn W (vCall1 f ms) σ H Q) : tCallSD (spF c p f) [] (WE W) (rdA c pn W (seqM ms)) σ H Q := by
  obtain ⟨F, e, P, R, q⟩ := h
  refine ⟨F, e, P, R, chV (R := fun F x v => IRels c F σ x v) q fun xs e1 vs F1 H1 l1 R1 i1 q1 => ?_⟩
  rw [List.append_nil]
  match xs, i1, q1 with
  | [], _, q1 => exact q1.elim
  | .val _ :: _, _, q1 => exact q1.elim
  | .bor i :: xs, ⟨v0, ws, e0, i0, j1⟩, q1 =>
    subst e0
    have i0 : σ[i]? = some (some v0) := i0
    cases hv : valsOf xs with
    | none => dsimp only at q1; rw [hv] at q1; exact q1.elim
    | some ds =>
      dsimp only at q1
      rw [hv] at q1
      have q1 : PoV c pn W σ P F1 H1 Q (match getS e1 i with
        | some s => match f (s :: ds.map fun d => (0, d)) with
          | .ok v (some s') => .ok v (e1.set i (some s'))
          | .exc c ns fs (some s') => .exc c ns fs (e1.set i (some s'))
          | _ => .stuck
        | none => .stuck) := q1
      have r := vals_reps hv j1
      obtain ⟨φ, r1, r2, r3, r4, r5, r6, r7, r8⟩ := id R1
      cases hs : getS e1 i with
      | none => rw [hs] at q1; exact q1.elim
      | some s =>
        obtain ⟨n0, d0⟩ := s
        rw [hs] at q1
        dsimp only at q1
        obtain ⟨v0', g0, o0⟩ := r3 i n0 d0 hs
        rw [i0] at g0
        cases g0
        have fr : ∀ a, (P a ∨ ∃ j, j ≠ i ∧ a ∈ φ j) → H1 a ≠ none ∧ F1 a = none := fun a h => by
          rcases h with h | ⟨j, _, h⟩
          · exact ⟨(r7 a h).1, (r7 a h).2.1⟩
          · cases g : getS e1 j with
            | none => rw [r4 j g] at h; cases h
            | some z =>
              obtain ⟨n, d⟩ := z
              obtain ⟨v, _, o⟩ := r3 j n d g
              exact ⟨(o.fp a h).2, (o.fp a h).1⟩
        obtain ⟨φa, s1, s2, s3, s4, s5, s6, s7, s8⟩ := rel_args (P := fun a => P a ∨ ∃ j, j ≠ i ∧ a ∈ φ j) r2 r fr
        have RA : Rel c [] F1 (((n0, d0) :: ds.map fun d => ((0, d) : Vl)).map some) ((v0 :: ws).map some) H1 (fun a => P a ∨ ∃ j, j ≠ i ∧ a ∈ φ j) := by
          refine ⟨fun j => match j with | 0 => φ i | _ + 1 => [], by simpa using s1, r2, fun j n d g => ?_, fun j g => ?_, fun j => ?_, fun j k a hjk ha hk => ?_, fun a p => ⟨(fr a p).1, (fr a p).2, fun j hj => ?_⟩, fun p hp => by simp at hp⟩
          · cases j with
            | zero =>
              have g : some (n0, d0) = some (n, d) := g
              cases g
              exact ⟨v0, rfl, o0⟩
            | succ j =>
              have g : getS ((ds.map fun d => ((0, d) : Vl)).map some) j = some (n, d) := g
              have g := getS_map g
              rw [List.getElem?_map] at g
              cases q : ds[j]? with
              | none => rw [q] at g; cases g
              | some x =>
                rw [q] at g
                cases g
                obtain ⟨v, h1, h2⟩ := r.get q
                exact ⟨v, by
                  show (ws.map some)[j]? = _
                  rw [List.getElem?_map, h1]; rfl, Own.zero h2⟩
          · cases j with
            | zero => cases g
            | succ j => rfl
          · cases j with
            | zero => exact r5 i
            | succ j => exact List.nodup_nil
          · cases j with
            | zero => cases k with
              | zero => exact hjk rfl
              | succ k => cases hk
            | succ j => cases ha
          · cases j with
            | zero =>
              have hj : a ∈ φ i := hj
              rcases p with p | ⟨k, nk, p⟩
              · exact (r7 a p).2.2 i hj
              · exact r6 k i a nk p hj
            | succ j => cases hj
        have back : ∀ {F' H' : Hp} {fx : List Addr} {s' : Vl} {p : Nat}, Later F1 H1 F' H' (fun a => P a ∨ ∃ j, j ≠ i ∧ a ∈ φ j) → (∀ a ∈ fx, ¬ (P a ∨ ∃ j, j ≠ i ∧ a ∈ φ j)) → Rel c [] F' (msE (p + 1) (some s')) ((v0 :: ws).map some) H' (fun a => (P a ∨ ∃ j, j ≠ i ∧ a ∈ φ j) ∨ a ∈ fx) →
            Rel c pn F' (e1.set i (some s')) σ H' (fun a => P a ∨ a ∈ fx) := by
          intro F' H' fx s' p l nf R'
          obtain ⟨φ', t1, t2, t3, t4, t5, t6, t7, t8⟩ := R'
          obtain ⟨n', d'⟩ := s'
          obtain ⟨v1, g1, o1⟩ := t3 0 n' d' rfl
          have g1 : some (some v0) = some (some v1) := g1
          cases g1
          refine ⟨fun j => if j = i then φ' 0 else φ j, by simpa using r1, t2, fun j n d g => ?_, fun j g => ?_, fun j => ?_, fun j k a hjk ha hk => ?_, fun a ha => ?_, r8⟩
          · rw [getS_set] at g
            by_cases hj : i = j ∧ i < e1.length
            · rw [if_pos hj] at g
              obtain ⟨rfl, _⟩ := hj
              cases g
              refine ⟨v0, i0, ?_⟩
              dsimp only
              rw [if_pos rfl]
              exact o1
            · rw [if_neg hj] at g
              have hji : j ≠ i := fun z => by
                subst z
                exact hj ⟨rfl, getS_lt hs⟩
              obtain ⟨v, g1, o⟩ := r3 j n d g
              refine ⟨v, g1, ?_⟩
              dsimp only
              rw [if_neg hji]
              exact o.frame l.F fun a ha => ⟨l.P a (.inr ⟨j, hji, ha⟩), (t7 a (.inl (.inr ⟨j, hji, ha⟩))).2.1⟩
          · rw [getS_set] at g
            dsimp only
            by_cases hj : j = i
            · subst hj
              rw [if_pos ⟨rfl, getS_lt hs⟩] at g
              cases g
            · rw [if_neg hj]
              rw [if_neg (fun z => hj z.1.symm)] at g
              exact r4 j g
          · dsimp only
            split
            · exact t5 0
            · exact r5 j
          · dsimp only at ha hk
            by_cases hj : j = i
            · rw [if_pos hj] at ha
              have hki : k ≠ i := fun z => hjk (hj.trans z.symm)
              rw [if_neg hki] at hk
              exact (t7 a (.inl (.inr ⟨k, hki, hk⟩))).2.2 0 ha
            · rw [if_neg hj] at ha
              by_cases hk' : k = i
              · rw [if_pos hk'] at hk
                exact (t7 a (.inl (.inr ⟨j, hj, ha⟩))).2.2 0 hk
              · rw [if_neg hk'] at hk
                exact r6 j k a hjk ha hk
          · rcases ha with ha | ha
            · refine ⟨(t7 a (.inl (.inl ha))).1, (t7 a (.inl (.inl ha))).2.1, fun j hj => ?_⟩
              dsimp only at hj
              split at hj
              · exact (t7 a (.inl (.inl ha))).2.2 0 hj
              · exact (r7 a ha).2.2 j hj
            · refine ⟨(t7 a (.inr ha)).1, (t7 a (.inr ha)).2.1, fun j hj => ?_⟩
              dsimp only at hj
              split at hj
              · exact (t7 a (.inr ha)).2.2 0 hj
              · rename_i hji
                exact nf a ha (.inr ⟨j, hji, hj⟩)
        have hp : ∀ {r : FRes}, f ((n0, d0) :: ds.map fun d => (0, d)) = r → r ≠ .stuck → ∃ p', p = p' + 1 := fun {r} e ne => by
          have := ar _ (e ▸ ne)
          exact ⟨_, this.symm.trans (List.length_cons ..)⟩
        cases hf : f ((n0, d0) :: ds.map fun d => (0, d)) with
        | ok v ms' =>
          obtain ⟨n, d⟩ := v
          cases ms' with
          | none => rw [hf] at q1; exact q1.elim
          | some s' =>
            rw [hf] at q1
            obtain ⟨p', rfl⟩ := hp hf (fun z => nomatch z)
            refine ⟨F1, _, _, ar _ (by rw [hf]; exact fun z => nomatch z), RA, ?_⟩
            rw [hf]
            rintro v F' H' l ⟨fx, o, nd, nf, R'⟩
            exact q1 v F' H' ⟨l.F, fun a ha => l.P a (.inl ha)⟩ ⟨fx, o, nd, fun a ha z => nf a ha (.inl z), back l nf R'⟩
        | exc k ns xs' ms' =>
          cases ms' with
          | none => rw [hf] at q1; exact q1.elim
          | some s' =>
            rw [hf] at q1
            obtain ⟨p', rfl⟩ := hp hf (fun z => nomatch z)
            refine ⟨F1, _, _, ar _ (by rw [hf]; exact fun z => nomatch z), RA, ?_⟩
            rw [hf]
            intro dd F' H' l R' x
            have R2 := back (fx := []) l (fun a ha => by simp at ha) (R'.weak fun a z => z.elim id fun z => by simp at z)
            exact q1 dd σ F' H' ⟨l.F, fun a ha => l.P a (.inl ha)⟩ (R2.weak fun a z => .inl z) x
        | stuck => rw [hf] at q1; exact q1.elim
theorem ok_call1 {f : FSem} {p : Nat} {ms : List (M Item)} {x : Str} {a : Expr} {es : List Expr} {pp pos : Pos} (D : DefOk X c x p f) (ar : Ar p f) (tk : Takes X W) (ha : OkA X c pn W (a :: es) (seqM ms))
    (hg : Gl X x := by rfl) (hdb : (x == ("__debug__" : Str)) = false := by decide) (he : starEach (a :: es) X.env = (false, eval a X.env) :: starEach es X.env := by rfl) (hpl : (backTo pos (starEach es X.env)).any (·.1) = false := by rfl) :
    OkV X c pn W (.Call (.Name x pp) (a :: es) [] pos) (vCall1 f ms) := by
  obtain ⟨k, fa, fd, ps, F, hr, hm, hk, hb⟩ := D.ex
  exact ⟨PE.imp (pe_callSD (E := WE W) F hr hg hm hk hb .nil (fun σ => passAt tk σ) ha.ok hdb he hpl) fun σ H Q h => call1_rd ar h⟩
end

/-! ### a def by its body -/
section
variable {P : Program} {w : World} {K : PySem.W.Frag} {mg : Str → Option Value} {base : Heap} {c : Ctx}
theorem getS_start {n : Nat} {vs : List Vl} {i : Nat} {s : Vl} (h : getS (startE n vs) i = some s) : vs[i]? = some s := by
  unfold getS startE at h
  rw [List.getD_eq_getElem?_getD] at h
  by_cases hi : i < vs.length
  · rw [List.getElem?_append_left (by simpa using hi), List.getElem?_map] at h
    cases q : vs[i]? with
    | none => rw [q] at h; cases h
    | some x => rw [q] at h; cases h; rfl
  · rw [List.getElem?_append_right (by simpa using hi), List.getElem?_replicate] at h
    split at h <;> cases h
theorem fn_ok {x qual : Str} {st : Stmt} {f : Addr} {fd : FuncData} {N ps : List Str} {k p : Nat} {mu : Bool} {mb : M Fl} (F : Fun K x qual st f fd) (S : FnScope N ps (defScope st)) (hp : ps.length = p) (hm : mu = true → 0 < p)
    (hb : ∀ (cdv : Value) (A : Around) (outer : List PySem.Env) (s : Shared) (H : Hp) (E : XK) (pn : Pins), Room k (A.deeper (PyProof.Rows.envOfC qual (defScope st) s.heap.objs.size f cdv)) → (∀ q ∈ pn, mu = true ∧ q.1 = 0) →
      OkSs (cxOf (L2.CX P w) P w K mg base N qual (defScope st) f cdv A outer s H E) c pn (WK E) (defBody st) mb) : FnOk P w K mg base (L2.CX P w) (k + 1) f fd ps (spF c p (mkF N.length p mu mb)) := by
  have hpl : ps.length ≤ N.length := by have := congrArg List.length S.pre; rw [List.length_take] at this; omega
  refine F.okX S (fun vs H Q E h => ?_) (fun cdv A outer s H vs Q E hr h => ?_)
  · obtain ⟨F, P, ds, e, R, _⟩ := h
    obtain ⟨_, r1, _⟩ := R
    simp only [List.length_map] at r1
    rw [← r1, e, hp]
  · obtain ⟨F0, P0, ds, e, R, h⟩ := h
    obtain ⟨φ, r1, r2, r3, r4, r5, r6, r7, r8⟩ := R
    have lv : vs.length = ds.length := by simpa using r1.symm
    have hv0 : mu = true → ∃ v0, vs[0]? = some v0 := fun m => ⟨vs[0]'(by rw [lv, e]; exact hm m), List.getElem?_eq_getElem _⟩
    obtain ⟨pn, hpn, hpn2, hpn3⟩ : ∃ pn : Pins, (∀ q ∈ pn, mu = true ∧ q.1 = 0) ∧ (∀ q ∈ pn, vs[q.1]? = some q.2) ∧ (mu = true → ∃ v0, vs[0]? = some v0 ∧ (0, v0) ∈ pn) := by
      cases mu with
      | false => exact ⟨[], fun _ h => (by simp at h), fun _ h => (by simp at h), fun h => nomatch h⟩
      | true =>
        obtain ⟨v0, h0⟩ := hv0 rfl
        exact ⟨[(0, v0)], fun q h => by rw [List.mem_singleton.mp h]; exact ⟨rfl, rfl⟩, fun q h => by rw [List.mem_singleton.mp h]; exact h0, fun _ => ⟨v0, h0, List.mem_singleton.mpr rfl⟩⟩
    have st_get : ∀ i, (L2.start N vs)[i]? = if i < vs.length then (vs.map some)[i]? else if i < N.length then some none else none := fun i => by
      unfold L2.start
      by_cases hi : i < vs.length
      · rw [if_pos hi, List.getElem?_append_left (by simpa using hi)]
      · rw [if_neg hi, List.getElem?_append_right (by simpa using hi), List.getElem?_replicate, List.length_map]
        by_cases h2 : i < N.length
        · rw [if_pos h2, if_pos (by omega)]
        · rw [if_neg h2, if_neg (by omega)]
    have R0 : Rel c pn F0 (startE N.length ds) (L2.start N vs) H P0 := by
      refine ⟨fun i => if i < ds.length then φ i else [], ?_, r2, fun i n d g => ?_, fun i g => ?_, fun i => ?_, fun i j a hij ha hj => ?_, fun a pa => ⟨(r7 a pa).1, (r7 a pa).2.1, fun i hi => ?_⟩, fun q hq => ?_⟩
      · unfold startE L2.start
        simp [lv]
      · have g := getS_start g
        have hi : i < ds.length := (List.getElem?_eq_some_iff.mp g).1
        obtain ⟨v, h1, o⟩ := r3 i n d (by unfold getS; rw [List.getD_eq_getElem?_getD, List.getElem?_map, g]; rfl)
        refine ⟨v, ?_, ?_⟩
        · rw [st_get, if_pos (by omega)]; exact h1
        · dsimp only; rw [if_pos hi]; exact o
      · dsimp only
        split
        · rename_i hi
          refine r4 i ?_
          unfold getS startE at g
          rw [List.getD_eq_getElem?_getD, List.getElem?_append_left (by simpa using hi)] at g
          unfold getS
          rw [List.getD_eq_getElem?_getD]
          exact g
        · rfl
      · dsimp only
        split
        · exact r5 i
        · exact List.nodup_nil
      · dsimp only at ha hj
        split at ha
        · split at hj
          · exact r6 i j a hij ha hj
          · cases hj
        · cases ha
      · dsimp only at hi
        split at hi
        · exact (r7 a pa).2.2 i hi
        · cases hi
      · have z := hpn2 q hq
        rw [st_get, if_pos (List.getElem?_eq_some_iff.mp z).1, List.getElem?_map, z]; rfl
    -- the way out
    have outR : ∀ {F' H' : Hp} {e' : Env} {σ' : St} {ms : Option Vl} {P' : Addr → Prop}, mutOf mu e' = some ms → Rel c pn F' e' σ' H' P' → Rel c [] F' (msE p ms) (vs.map some) H' P' := by
      intro F' H' e' σ' ms P' hms R'
      obtain ⟨φ', t1, t2, t3, t4, t5, t6, t7, t8⟩ := R'
      refine ⟨fun i => if i = 0 ∧ mu = true then φ' 0 else [], ?_, t2, fun i n d g => ?_, fun i g => ?_, fun i => ?_, fun i j a hij ha hj => ?_, fun a pa => ⟨(t7 a pa).1, (t7 a pa).2.1, fun i hi => ?_⟩, fun q hq => by simp at hq⟩
      · rw [List.length_map, lv, e]
        cases p with
        | zero => rfl
        | succ p => simp [msE]
      · cases p with
        | zero => exact nomatch g
        | succ p =>
          cases i with
          | succ i =>
            have g : getS (List.replicate p (none : Slot)) i = some (n, d) := g
            unfold getS at g
            rw [List.getD_eq_getElem?_getD, List.getElem?_replicate] at g
            split at g <;> cases g
          | zero =>
            have g : ms = some (n, d) := g
            subst g
            cases hmu : mu with
            | false => rw [hmu] at hms; cases hms
            | true =>
              rw [hmu] at hms
              cases q : getS e' 0 with
              | none => simp only [mutOf, q] at hms; cases hms
              | some z =>
                simp only [mutOf, q] at hms
                cases hms
                obtain ⟨v, h1, o⟩ := t3 0 n d q
                obtain ⟨v0, h0, hin⟩ := hpn3 hmu
                have h2 := t8 (0, v0) hin
                rw [h1] at h2
                cases h2
                exact ⟨v0, by rw [List.getElem?_map, h0]; rfl, by dsimp only; rw [if_pos ⟨rfl, rfl⟩]; exact o⟩
      · dsimp only
        split
        · rename_i hi
          obtain ⟨rfl, hmu⟩ := hi
          rw [hmu] at hms
          cases q : getS e' 0 with
          | none => exact t4 0 q
          | some z =>
            simp only [mutOf, q] at hms
            cases hms
            cases p with
            | zero => exact absurd (hm hmu) (by omega)
            | succ p => cases g
        · rfl
      · dsimp only
        split
        · exact t5 0
        · exact List.nodup_nil
      · dsimp only at ha hj
        split at ha
        · rename_i hi
          split at hj
          · rename_i hj'
            exact hij (hi.1.trans hj'.1.symm)
          · cases hj
        · cases ha
      · dsimp only at hi
        split at hi
        · exact (t7 a pa).2.2 0 hi
        · cases hi
    refine ⟨_, (hb cdv A outer s H E pn hr hpn).ok, F0, startE N.length ds, P0, R0, ?_⟩
    unfold mkF at h
    rw [if_pos e] at h
    cases hmb : mb (startE N.length ds) with
    | stuck => rw [hmb] at h; exact h
    | exc kk ns xs e' =>
      rw [hmb] at h
      dsimp only at h
      cases hms : mutOf mu e' with
      | none => rw [hms] at h; exact h.elim
      | some ms =>
        rw [hms] at h
        exact fun dd σ' F' H' l R' x => h dd F' H' l (outR hms R') x
    | ok fl e' =>
      rw [hmb] at h
      cases fl with
      | bk => exact h.elim
      | ct => exact h.elim
      | nx =>
        dsimp only at h
        cases hms : mutOf mu e' with
        | none => rw [hms] at h; exact h.elim
        | some ms =>
          rw [hms] at h
          exact fun σ' F' H' l R' => h .non F' H' l (RelV.zero (outR hms R') rfl)
      | rt v =>
        obtain ⟨n, d⟩ := v
        dsimp only at h
        cases hms : mutOf mu e' with
        | none => rw [hms] at h; exact h.elim
        | some ms =>
          rw [hms] at h
          rintro v σ' F' H' l ⟨fx, o, nd, nf, R'⟩
          exact h v F' H' l ⟨fx, o, nd, nf, outR hms R'⟩
end
end Mini

set_option Elab.async false
set_option linter.all false
set_option maxRecDepth 100000
/-! MComp: list comprehensions. -/
namespace Mini
open PySem L2
section
variable {X : Cx} {c : Ctx} {pn : Pins} {W : WX} {F H : Hp} {e : Env} {σ : St} {P : Addr → Prop}
theorem Rel.upd {D : Addr} {o : HO} (R : Rel c pn F e σ H P) (hD : P D) : Rel c pn F e σ (upd H D o) P := by
  obtain ⟨φ, r1, r2, r3, r4, r5, r6, r7, r8⟩ := R
  obtain ⟨d1, d2, d3⟩ := r7 D hD
  refine ⟨φ, r1, fun a u h => ?_, fun i n d g => ?_, r4, r5, r6, fun a p => ⟨?_, (r7 a p).2⟩, r8⟩
  · rw [upd_ne (fun z => by rw [z, d2] at h; cases h)]
    exact r2 a u h
  · obtain ⟨v, h1, o'⟩ := r3 i n d g
    exact ⟨v, h1, o'.frame (Same.refl _) fun a ha => ⟨upd_ne fun z => d3 i (z ▸ ha), (o'.fp a ha).1⟩⟩
  · by_cases ha : a = D
    · rw [ha, upd_same]; exact fun z => nomatch z
    · rw [upd_ne ha]; exact (r7 a p).1
theorem hide_len : ∀ (own : List Nat) (e : Env), (hide own e).length = e.length
  | [], _ => rfl
  | i :: is, e => by unfold hide; rw [List.length_set, hide_len is e]
theorem back_len {e0 : Env} : ∀ (own : List Nat) (e : Env), (back e0 own e).length = e.length
  | [], _ => rfl
  | i :: is, e => by unfold back; rw [List.length_set, back_len is e]
theorem getS_out {e : Env} {j : Nat} (h : e.length ≤ j) : getS e j = none := by
  unfold getS
  rw [List.getD_eq_getElem?_getD, List.getElem?_eq_none h]; rfl
theorem getS_hide : ∀ (own : List Nat) (e : Env) (j : Nat), getS (hide own e) j = if j ∈ own then none else getS e j
  | [], _, _ => by simp [hide]
  | i :: is, e, j => by
    unfold hide
    rw [getS_set, hide_len, getS_hide is e j]
    by_cases h : i = j
    · subst h
      by_cases hl : i < e.length
      · simp [hl]
      · rw [if_neg (fun z => hl z.2), getS_out (by omega)]
        simp
    · rw [if_neg (fun z => h z.1)]
      have h' : j ≠ i := fun z => h z.symm
      simp [h']
theorem getS_back {e0 : Env} : ∀ (own : List Nat) (e : Env) (j : Nat), j < e.length → getS (back e0 own e) j = if j ∈ own then getS e0 j else getS e j
  | [], _, _, _ => by simp [back]
  | i :: is, e, j, hj => by
    unfold back
    rw [getS_set, back_len, getS_back is e j hj]
    by_cases h : i = j
    · subst h
      simp [hj]
    · rw [if_neg (fun z => h z.1)]
      have h' : j ≠ i := fun z => h z.symm
      simp [h']
theorem Rel.hide {own : List Nat} {σ2 : St} (R : Rel c pn F e σ2 H P) (hw : wipe σ2 own = wipe σ own) (hp : ∀ p ∈ pn, p.1 ∉ own) : Rel c pn F (hide own e) (wipe σ own) H P := by
  obtain ⟨φ, r1, r2, r3, r4, r5, r6, r7, r8⟩ := R
  refine ⟨fun j => if j ∈ own then [] else φ j, ?_, r2, fun j n d g => ?_, fun j g => ?_, fun j => ?_, fun j k a hjk ha hk => ?_, fun a p => ⟨(r7 a p).1, (r7 a p).2.1, fun j hj => ?_⟩, fun p hpn => ?_⟩
  · rw [hide_len, ← hw, wipe_length, r1]
  · rw [getS_hide] at g
    by_cases hj : j ∈ own
    · rw [if_pos hj] at g; cases g
    · rw [if_neg hj] at g
      obtain ⟨v, h1, o⟩ := r3 j n d g
      refine ⟨v, by rw [← hw, wipe_out hj]; exact h1, ?_⟩
      dsimp only
      rw [if_neg hj]; exact o
  · dsimp only
    split
    · rfl
    · rename_i hj
      rw [getS_hide, if_neg hj] at g
      exact r4 j g
  · dsimp only
    split
    · exact List.nodup_nil
    · exact r5 j
  · dsimp only at ha hk
    split at ha
    · cases ha
    · split at hk
      · cases hk
      · exact r6 j k a hjk ha hk
  · dsimp only at hj
    split at hj
    · cases hj
    · exact (r7 a p).2.2 j hj
  · rw [← hw, wipe_out (hp p hpn)]
    exact r8 p hpn
/-- items one by one, each to its own depth -/
def OwnsP (c : Ctx) (F H : Hp) : List Vl → List V → List Addr → Prop
  | [], vs, fp => vs = [] ∧ fp = []
  | x :: xs, vs, fp => ∃ v ws p q, vs = v :: ws ∧ Own c.K c.C F H x.2 x.1 v p ∧ OwnsP c F H xs ws q ∧ fp = p ++ q
theorem OwnsP.length : ∀ {xs : List Vl} {vs : List V} {fp : List Addr}, OwnsP c F H xs vs fp → xs.length = vs.length
  | [], _, _, h => by rw [h.1]; rfl
  | _ :: _, _, _, ⟨v, ws, p, q, h1, h2, h3, h4⟩ => by subst h1; simp [h3.length]
theorem OwnsP.frame {F' H' : Hp} (s : Same F F') : ∀ {xs : List Vl} {vs : List V} {fp : List Addr}, OwnsP c F H xs vs fp → (∀ a ∈ fp, H' a = H a ∧ F' a = none) → OwnsP c F' H' xs vs fp
  | [], _, _, h, _ => h
  | _ :: _, _, _, ⟨v, ws, p, q, h1, h2, h3, h4⟩, k => by
    subst h4
    exact ⟨v, ws, p, q, h1, h2.frame s fun b hb => k b (List.mem_append_left _ hb), h3.frame s fun b hb => k b (List.mem_append_right _ hb), rfl⟩
theorem OwnsP.fp : ∀ {xs : List Vl} {vs : List V} {fp : List Addr}, OwnsP c F H xs vs fp → ∀ a ∈ fp, F a = none ∧ H a ≠ none
  | [], _, _, h, _, m => by rw [h.2] at m; cases m
  | _ :: _, _, _, ⟨v, ws, p, q, h1, h2, h3, h4⟩, b, m => by
    subst h4
    rcases List.mem_append.mp m with m | m
    · exact h2.fp b m
    · exact h3.fp b m
theorem OwnsP.snoc {y : V} {n : Nat} {d : D} {fx : List Addr} (h : Own c.K c.C F H d n y fx) : ∀ {xs : List Vl} {vs : List V} {fp : List Addr}, OwnsP c F H xs vs fp → OwnsP c F H (xs ++ [(n, d)]) (vs ++ [y]) (fp ++ fx)
  | [], _, _, ⟨h1, h2⟩ => by
    subst h1 h2
    exact ⟨y, [], fx, [], rfl, h, ⟨rfl, rfl⟩, by simp⟩
  | _ :: _, _, _, ⟨v, ws, p, q, h1, h2, h3, h4⟩ => by
    subst h1 h4
    exact ⟨v, ws ++ [y], p, q ++ fx, rfl, h2, h3.snoc h, by rw [List.append_assoc]⟩
theorem OwnsP.lower : ∀ {xs : List Vl} {m : Nat} {vs : List V} {fp : List Addr}, OwnsP c F H xs vs fp → m ≤ minOwn xs → fp.Nodup →
    ∃ fp', fp'.Sublist fp ∧ ∀ G, Same F G → (∀ a ∈ fp, a ∉ fp' → G a = H a) → (∀ a ∈ fp', G a = none) → Owns c.K c.C G H (xs.map (·.2)) m vs fp'
  | [], m, vs, fp, h, _, _ => ⟨fp, List.Sublist.refl _, fun _ _ _ _ => h⟩
  | x :: xs, m, vs, fp, ⟨v, ws, p, q, h1, h2, h3, h4⟩, hm, nd => by
    subst h4
    unfold minOwn at hm
    obtain ⟨n1, n2, n3⟩ := List.nodup_append.mp nd
    obtain ⟨fp1, s1, k1⟩ := h2.lower (show m ≤ x.1 by omega) n1
    obtain ⟨fp2, s2, k2⟩ := h3.lower (show m ≤ minOwn xs by omega) n2
    refine ⟨fp1 ++ fp2, s1.append s2, fun G e g1 g2 => ⟨v, ws, fp1, fp2, h1, k1 G e (fun b hb hn => g1 b (List.mem_append_left _ hb) fun z => ?_) (fun b hb => g2 b (List.mem_append_left _ hb)), k2 G e (fun b hb hn => g1 b (List.mem_append_right _ hb) fun z => ?_) (fun b hb => g2 b (List.mem_append_right _ hb)), rfl⟩⟩
    · rcases List.mem_append.mp z with z | z
      · exact hn z
      · exact n3 b hb b (s2.subset z) rfl
    · rcases List.mem_append.mp z with z | z
      · exact n3 b (s1.subset z) b hb rfl
      · exact hn z
/-- the new list so far -/
structure Acc (c : Ctx) (pn : Pins) (F : Hp) (H : Hp) (P : Addr → Prop) (D : Addr) (xs : List Vl) (vs : List V) (fp : List Addr) : Prop where
  at_ : H D = some (.lst vs)
  fD : F D = none
  its : OwnsP c F H xs vs fp
  nd : (D :: fp).Nodup
  np : ∀ a ∈ D :: fp, ¬ P a
theorem Acc.later {D : Addr} {xs : List Vl} {vs : List V} {fp : List Addr} {F' H' : Hp} {P' : Addr → Prop} (A : Acc c pn F H P D xs vs fp) (hP : ∀ a, a ∈ D :: fp → P' a) (l : Later F H F' H' P') (R : Rel c pn F' e σ H' P') : Acc c pn F' H' P D xs vs fp := by
  obtain ⟨φ, r1, r2, r3, r4, r5, r6, r7, r8⟩ := R
  refine ⟨by rw [l.P D (hP D List.mem_cons_self)]; exact A.at_, (r7 D (hP D List.mem_cons_self)).2.1, A.its.frame l.F fun a ha => ⟨l.P a (hP a (List.mem_cons_of_mem _ ha)), (r7 a (hP a (List.mem_cons_of_mem _ ha))).2.1⟩, A.nd, A.np⟩
theorem Acc.snoc {D : Addr} {xs : List Vl} {vs : List V} {fp fx : List Addr} {y : V} {n : Nat} {d : Mini.D} (A : Acc c pn F H P D xs vs fp) (o : Own c.K c.C F H d n y fx) (nd : fx.Nodup) (nf : ∀ a ∈ fx, ¬ (P a ∨ a ∈ D :: fp)) : Acc c pn F (upd H D (.lst (vs ++ [y]))) P D (xs ++ [(n, d)]) (vs ++ [y]) (fp ++ fx) := by
  obtain ⟨n1, n2⟩ := List.nodup_cons.mp A.nd
  have nD : D ∉ fx := fun z => nf D z (.inr List.mem_cons_self)
  refine ⟨upd_same, A.fD, (A.its.snoc o).frame (Same.refl _) fun a ha => ⟨upd_ne fun z => ?_, ?_⟩, ?_, fun a ha => ?_⟩
  · rcases List.mem_append.mp ha with ha | ha
    · exact n1 (z ▸ ha)
    · exact nD (z ▸ ha)
  · rcases List.mem_append.mp ha with ha | ha
    · exact (A.its.fp a ha).1
    · exact (o.fp a ha).1
  · refine List.nodup_cons.mpr ⟨fun z => ?_, List.nodup_append.mpr ⟨n2, nd, fun a ha b hb z => nf b hb (.inr (List.mem_cons_of_mem _ (z ▸ ha)))⟩⟩
    rcases List.mem_append.mp z with z | z
    · exact n1 z
    · exact nD z
  · rcases List.mem_cons.mp ha with rfl | ha
    · exact A.np _ List.mem_cons_self
    · rcases List.mem_append.mp ha with ha | ha
      · exact A.np a (List.mem_cons_of_mem _ ha)
      · exact fun z => nf a ha (.inl z)
/-- the list is done: back in the def's slots -/
theorem Acc.done {D : Addr} {xs : List Vl} {vs : List V} {fp : List Addr} {own : List Nat} {e1 : Env} {F1 H1 : Hp} {Q : VK} (A : Acc c pn F H P D xs vs fp) (hl : xs.length ≤ sizeLine) (R1 : Rel c pn F1 e1 σ H1 P) (l : Later F1 H1 F H P) (hc : own.all (calmS e1) = true)
    (R : Rel c pn F (hide own e) (wipe σ own) H (fun a => P a ∨ a ∈ D :: fp)) (q : PoV c pn W σ P F1 H1 Q (.ok (mkLst xs) (back e1 own e))) : Q (.ref D) H := by
  obtain ⟨n1, n2⟩ := List.nodup_cons.mp A.nd
  obtain ⟨fp', sub, k⟩ := A.its.lower (Nat.le_refl _) n2
  have hn : ∀ a ∈ fp.filter (fun a => decide (a ∉ fp')), F a = none := fun a ha => (A.its.fp a (List.mem_filter.mp ha).1).1
  have no : ∀ a, a ∉ fp → a ∉ fp.filter (fun a => decide (a ∉ fp')) := fun a ha z => ha (List.mem_filter.mp z).1
  have O := k _ (fzl_same (H := H) hn) (fun a ha hq => fzl_in (List.mem_filter.mpr ⟨ha, decide_eq_true hq⟩)) fun a ha => by
    rw [fzl_out fun z => (of_decide_eq_true (List.mem_filter.mp z).2) ha]
    exact (A.its.fp a (sub.subset ha)).1
  obtain ⟨φ, r1, r2, r3, r4, r5, r6, r7, r8⟩ := R
  have le : e.length = σ.length := by rw [hide_len, wipe_length] at r1; exact r1
  have le1 : e1.length = σ.length := R1.choose_spec.1
  refine q (.ref D) (fzl F H (fp.filter (fun a => decide (a ∉ fp')))) H (l.trans ⟨fzl_same hn, fun _ _ => rfl⟩) ⟨D :: fp', ?_, List.nodup_cons.mpr ⟨fun z => n1 (sub.subset z), n2.sublist sub⟩, fun a ha => ?_, ?_⟩
  · unfold Own
    rw [if_neg (fun z => z.elim (fun z => absurd z (Nat.succ_ne_zero _)) fun z => nomatch z)]
    refine ⟨D, vs, fp', rfl, ?_, A.at_, by simpa using hl, ?_, rfl⟩
    · rw [fzl_out (no D n1)]; exact A.fD
    · exact O
  · rcases List.mem_cons.mp ha with rfl | ha
    · exact A.np _ List.mem_cons_self
    · exact A.np a (List.mem_cons_of_mem _ (sub.subset ha))
  · refine ⟨fun j => if j ∈ own then [] else φ j, by rw [back_len, le], fzl_sub r2, fun j n d g => ?_, fun j g => ?_, fun j => ?_, fun j k a hjk ha hk => ?_, fun a ha => ?_, fun p hp => R1.choose_spec.2.2.2.2.2.2.2 p hp⟩
    · have hj : j < e.length := by
        have := getS_lt g
        rw [back_len] at this
        exact this
      rw [getS_back own e j hj] at g
      by_cases ho : j ∈ own
      · rw [if_pos ho] at g
        have hcj := List.all_eq_true.mp hc j ho
        unfold calmS at hcj
        rw [g] at hcj
        obtain ⟨φ1, t1, t2, t3, t4⟩ := R1
        obtain ⟨v, h1, o⟩ := t3 j n d g
        refine ⟨v, h1, ?_⟩
        dsimp only
        rw [if_pos ho]
        cases n with
        | zero => exact Own.zero (o.of_zero.1.mono (l.F.trans (fzl_same hn)))
        | succ n => exact nomatch hcj
      · rw [if_neg ho] at g
        obtain ⟨v, h1, o⟩ := r3 j n d (by rw [getS_hide, if_neg ho]; exact g)
        refine ⟨v, by rw [wipe_out ho] at h1; exact h1, ?_⟩
        dsimp only
        rw [if_neg ho]
        refine o.frame (fzl_same hn) fun a ha => ⟨rfl, ?_⟩
        rw [fzl_out (no a fun z => (r7 a (.inr (List.mem_cons_of_mem _ z))).2.2 j ha)]
        exact (o.fp a ha).1
    · dsimp only
      split
      · rfl
      · rename_i ho
        by_cases hj : j < e.length
        · rw [getS_back own e j hj, if_neg ho] at g
          exact r4 j (by rw [getS_hide, if_neg ho]; exact g)
        · exact r4 j (getS_out (by rw [hide_len]; omega))
    · dsimp only
      split
      · exact List.nodup_nil
      · exact r5 j
    · dsimp only at ha hk
      split at ha
      · cases ha
      · split at hk
        · cases hk
        · exact r6 j k a hjk ha hk
    · have ha' : P a ∨ a ∈ D :: fp := ha.elim .inl fun z => .inr ((List.mem_cons.mp z).elim (fun z => z ▸ List.mem_cons_self) fun z => List.mem_cons_of_mem _ (sub.subset z))
      refine ⟨(r7 a ha').1, ?_, fun j hj => ?_⟩
      · rw [fzl_out]
        · exact (r7 a ha').2.1
        · intro z
          obtain ⟨z1, z2⟩ := List.mem_filter.mp z
          rcases ha with ha | ha
          · exact A.np a (List.mem_cons_of_mem _ z1) ha
          · rcases List.mem_cons.mp ha with ha | ha
            · exact n1 (ha ▸ z1)
            · exact of_decide_eq_true z2 ha
      · dsimp only at hj
        split at hj
        · cases hj
        · exact (r7 a ha').2.2 j hj
/-- a clause's test -/
structure OkC (X : Cx) (c : Ctx) (pn : Pins) (W : WX) (ifs : List Expr) (m : M Bool) : Prop where
  ok : PTs X ifs (rdT c pn W m)
theorem oc_nil : OkC X c pn W [] (ret true) := ⟨⟨fun pins s σ H Q I ⟨F, e, P, R, q⟩ => pts_nil.run pins s σ H Q I (q true F H .rfl R rfl)⟩⟩
theorem oc_one {t : Expr} {m : M Bool} (h : OkT X c pn W t m) : OkC X c pn W [t] m := ⟨pts_one h.ok⟩
abbrev W0 : WX := fun _ _ _ _ => False
theorem wipe_same {own T : List Nat} {σ1 σ2 : St} (hT : ∀ i ∈ T, i ∈ own) (hl : σ2.length = σ1.length) (h : ∀ j, j ∉ T → σ2[j]? = σ1[j]?) : wipe σ2 own = wipe σ1 own := by
  apply List.ext_getElem?
  intro j
  by_cases hj : j ∈ own
  · have key : ∀ (own : List Nat) (σ : St), j ∈ own → (wipe σ own)[j]? = if j < σ.length then some none else none := by
      intro own
      induction own with
      | nil => intro σ z; simp at z
      | cons i is ih =>
        intro σ z
        unfold wipe
        by_cases hi : i = j
        · subst hi
          by_cases hl : i < σ.length
          · rw [List.getElem?_set_self (by rw [wipe_length]; exact hl), if_pos hl]
          · rw [List.getElem?_eq_none (by rw [List.length_set, wipe_length]; omega), if_neg hl]
        · rw [List.getElem?_set_ne hi]
          exact ih σ ((List.mem_cons.mp z).resolve_left fun z => hi z.symm)
    rw [key own σ2 hj, key own σ1 hj, hl]
  · rw [wipe_out hj, wipe_out hj]
    exact h j fun z => hj (hT j z)
theorem wipe_wipe {own : List Nat} {σ1 : St} : wipe (wipe σ1 own) own = wipe σ1 own :=
  wipe_same (T := own) (fun _ h => h) (wipe_length _ _) fun j hj => wipe_out hj
/-- one turn of a comprehension's loop -/
theorem comp_rd {z : Bool} {own T : List Nat} {mi : M (List D)} {g : Tg} {mt : M Bool} {me : M Vl} (hT : ∀ i ∈ T, i ∈ own) (hp : ∀ p ∈ pn, p.1 ∉ own) {σ : St} {H : Hp} {Q : VK} (h : rdV c pn W (vComp own mi g mt me) σ H Q) :
    tLc (rdI c pn W z mi) (rdG c pn z T g) (rdT c pn W0 mt) (rdV c pn W0 me) own σ H Q := by
  obtain ⟨F, e, P, R, q⟩ := h
  refine ⟨F, e, P, R, chV (R := fun F ds J => Walks c z J ds F) q fun ds e1 J F1 H1 l1 R1 w q1 D hD => ?_⟩
  have q1 : PoV c pn W σ P F1 H1 Q (if own.all (calmS e1) then
    match compL own g mt me ds e1 with
    | .ok vs e2 => .ok (mkLst vs) (back e1 own e2)
    | _ => .stuck
  else .stuck) := q1
  by_cases hc : own.all (calmS e1) = true
  · rw [if_pos hc] at q1
    have nPD : ¬ P D := fun z => by
      obtain ⟨φ, _, _, _, _, _, _, r7, _⟩ := R1
      exact (r7 D z).1 hD
    have fD : F1 D = none := by
      cases z : F1 D with
      | none => rfl
      | some o => have := R1.same D o z; rw [hD] at this; cases this
    have RD : Rel c pn F1 e1 σ (upd H1 D (.lst [])) (fun a => P a ∨ a ∈ [D]) := by
      obtain ⟨φ, r1, r2, r3, r4, r5, r6, r7, r8⟩ := R1
      have nφ : ∀ i, D ∉ φ i := fun i hi => by
        cases g : getS e1 i with
        | none => rw [r4 i g] at hi; cases hi
        | some z =>
          obtain ⟨n, d⟩ := z
          obtain ⟨v, _, o⟩ := r3 i n d g
          exact (o.fp D hi).2 hD
      refine ⟨φ, r1, fun a u h => by rw [upd_ne (fun z => by rw [z, fD] at h; cases h)]; exact r2 a u h, fun i n d g => ?_, r4, r5, r6, fun a ha => ?_, r8⟩
      · obtain ⟨v, h1, o⟩ := r3 i n d g
        exact ⟨v, h1, o.frame (Same.refl _) fun a ha => ⟨upd_ne fun z => nφ i (z ▸ ha), (o.fp a ha).1⟩⟩
      · rcases ha with ha | ha
        · have : a ≠ D := fun z => nPD (z ▸ ha)
          rw [upd_ne this]; exact r7 a ha
        · rw [List.mem_singleton.mp ha, upd_same]
          exact ⟨(fun z => nomatch z), fD, nφ⟩
    refine ⟨fun i m H => m = ds.length - i ∧ i ≤ ds.length ∧ ∃ F e xs vs fp, Later F1 H1 F H P ∧ Acc c pn F H P D xs vs fp ∧ xs.length ≤ i ∧ Rel c pn F (hide own e) (wipe σ own) H (fun a => P a ∨ a ∈ D :: fp) ∧
      ∃ rest e2, compL own g mt me (ds.drop i) e = .ok rest e2 ∧ PoV c pn W σ P F1 H1 Q (.ok (mkLst (xs ++ rest)) (back e1 own e2)), ⟨ds.length, rfl, Nat.zero_le _, F1, e1, [], [], [], ⟨Same.refl _, fun a ha => upd_ne fun z => nPD (z ▸ ha)⟩, ⟨upd_same, fD, ⟨rfl, rfl⟩, List.nodup_cons.mpr ⟨by simp, List.nodup_nil⟩, fun a ha => by rw [List.mem_singleton.mp ha]; exact nPD⟩, Nat.zero_le _, RD.hide rfl hp, ?_⟩, ?_⟩
    · cases hcl : compL own g mt me ds e1 with
      | ok vs e2 => rw [hcl] at q1; exact ⟨vs, e2, hcl, q1⟩
      | exc _ _ _ _ => rw [hcl] at q1; exact q1.elim
      | stuck => rw [hcl] at q1; exact q1.elim
    · rintro i m H2 ⟨rfl, hi, F2, e2, xs, vs, fp, l2, A, hxl, R2, rest, e3, hcl, q2⟩
      by_cases hlt : i < ds.length
      · have hd : ds[i]? = some ds[i] := List.getElem?_eq_getElem hlt
        rw [List.drop_eq_getElem_cons hlt] at hcl
        refine .inr ⟨w.go i _ F2 H2 hd l2.F R2.same, fun H' => i + 1 ≤ ds.length ∧ ∃ F e xs vs fp, Later F1 H1 F H' P ∧ Acc c pn F H' P D xs vs fp ∧ xs.length ≤ i + 1 ∧ Rel c pn F (hide own e) (wipe σ own) H' (fun a => P a ∨ a ∈ D :: fp) ∧
          ∃ rest e2, compL own g mt me (ds.drop (i + 1)) e = .ok rest e2 ∧ PoV c pn W σ P F1 H1 Q (.ok (mkLst (xs ++ rest)) (back e1 own e2)), fun H' z => ⟨ds.length - (i + 1), by omega, rfl, z.1, z.2⟩, fun x H3 y => ?_⟩
        obtain ⟨F3, l3, R3, r3⟩ := w.yld i _ F2 H2 x H3 pn _ _ _ hd l2.F R2 y
        have A3 := A.later (fun a ha => .inr ha) l3 R3
        have hcl : bnd (tgM g ds[i]) (fun _ => bnd mt fun b => if b then bnd me fun v => bnd (compL own g mt me (ds.drop (i + 1))) fun vs => ret (v :: vs) else compL own g mt me (ds.drop (i + 1))) (hide own e2) = .ok rest e3 := hcl
        refine ⟨F3, hide own e2, _, ds[i], R3, r3, ?_⟩
        cases hg : g ds[i] (hide own e2) with
        | none => rw [bnd_stuck (show tgM g ds[i] (hide own e2) = .stuck by simp only [tgM, hg])] at hcl; cases hcl
        | some e4 =>
          rw [bnd_ok (show tgM g ds[i] (hide own e2) = .ok () e4 by simp only [tgM, hg])] at hcl
          intro σ4 F4 H4 l4 R4 hl4 hk4
          have A4 := A3.later (fun a ha => .inr ha) l4 R4
          have hw4 : wipe σ4 own = wipe σ own := (wipe_same hT hl4 hk4).trans wipe_wipe
          refine ⟨hw4, F4, e4, _, R4, ?_⟩
          cases ht : mt e4 with
          | stuck => rw [bnd_stuck ht] at hcl; cases hcl
          | exc k ns dd e5 => rw [bnd_exc ht] at hcl; cases hcl
          | ok b e5 =>
            rw [bnd_ok ht] at hcl
            intro b' F5 H5 l5 R5 hb
            subst hb
            have A5 := A4.later (fun a ha => .inr ha) l5 R5
            have lAll : Later F1 H1 F5 H5 P := ⟨l2.F.trans (l3.F.trans (l4.F.trans l5.F)), fun a ha => (l5.P a (.inl ha)).trans ((l4.P a (.inl ha)).trans ((l3.P a (.inl ha)).trans (l2.P a ha)))⟩
            cases b' with
            | false =>
              rw [if_neg Bool.false_ne_true] at hcl ⊢
              exact ⟨hlt, F5, e5, xs, vs, fp, lAll, A5, Nat.le_succ_of_le hxl, R5.hide hw4 hp, rest, e3, hcl, q2⟩
            | true =>
              rw [if_pos rfl] at hcl ⊢
              refine ⟨F5, e5, _, R5, ?_⟩
              cases he : me e5 with
              | stuck => rw [bnd_stuck he] at hcl; cases hcl
              | exc k ns dd e6 => rw [bnd_exc he] at hcl; cases hcl
              | ok v e6 =>
                obtain ⟨n, d⟩ := v
                rw [bnd_ok he] at hcl
                rintro y F6 H6 l6 ⟨fx, o, nd, nf, R6⟩
                have A6 := A5.later (P' := fun a => P a ∨ a ∈ D :: fp) (fun a ha => .inr ha) l6 (R6.weak fun a z => .inl z)
                cases hr : compL own g mt me (ds.drop (i + 1)) e6 with
                | stuck => rw [bnd_stuck hr] at hcl; cases hcl
                | exc k ns dd e7 => rw [bnd_exc hr] at hcl; cases hcl
                | ok vs7 e7 =>
                  rw [bnd_ok hr] at hcl
                  cases hcl
                  have hvl : vs.length = xs.length := A6.its.length.symm
                  have hwl := w.len
                  refine ⟨vs, A6.at_, by omega, hlt, F6, e6, xs ++ [(n, d)], vs ++ [y], fp ++ fx, ⟨lAll.F.trans l6.F, fun a ha => ?_⟩, A6.snoc o nd nf, by simp; omega, ?_, vs7, _, hr, by simpa using q2⟩
                  · rw [upd_ne (show a ≠ D from fun z => nPD (z ▸ ha))]
                    exact (l6.P a (.inl ha)).trans (lAll.P a ha)
                  · have R7 : Rel c pn F6 e6 σ4 (upd H6 D (.lst (vs ++ [y]))) (fun a => (P a ∨ a ∈ D :: fp) ∨ a ∈ fx) := R6.upd (.inl (.inr List.mem_cons_self))
                    exact (R7.weak fun a z => by
                      rcases z with z | z
                      · exact .inl (.inl z)
                      · rcases List.mem_cons.mp z with z | z
                        · exact .inl (.inr (z ▸ List.mem_cons_self))
                        · rcases List.mem_append.mp z with z | z
                          · exact .inl (.inr (List.mem_cons_of_mem _ z))
                          · exact .inr z).hide hw4 hp
      · have ei : i = ds.length := by omega
        subst ei
        rw [List.drop_length] at hcl
        cases hcl
        rw [List.append_nil] at q2
        exact .inl ⟨w.stop F2 H2 l2.F R2.same, A.done (by have := w.len; omega) R1 l2 hc R2 q2⟩
  · rw [if_neg hc] at q1
    exact q1.elim
theorem ok_comp {z : Bool} {own : List (Str × Nat)} {T : List Nat} {elt tg it : Expr} {ifs : List Expr} {scope : Scope} {pos : Pos} {mi : M (List D)} {g : Tg} {mt : M Bool} {me : M Vl} (hc : X.calm = true) (hN : X.N.Nodup) (hT : ∀ i ∈ T, i ∈ own.map (·.2)) (hp : ∀ p ∈ pn, p.1 ∉ own.map (·.2)) (hi : OkI X c pn W z tg it mi) (ok : BlkOk X.N X.env.scope scope own)
    (hg : ∀ (s : Shared) (H : Hp) (C : Addr) (cl : List (Str × Addr)) (fp : List Addr), OkG (X.blk s H scope (compEnvC scope cl C X.env) fp) c pn z T tg g)
    (ht : ∀ (s : Shared) (H : Hp) (C : Addr) (cl : List (Str × Addr)) (fp : List Addr), OkC (X.blk s H scope (compEnvC scope cl C X.env) fp) c pn W0 ifs mt)
    (he : ∀ (s : Shared) (H : Hp) (C : Addr) (cl : List (Str × Addr)) (fp : List Addr), OkV (X.blk s H scope (compEnvC scope cl C X.env) fp) c pn W0 elt me)
    (hs : ∀ x, foldedSetIterable it X.env x = pure x := by intro _; rfl) : OkV X c pn W (.ListComp elt [⟨tg, it, ifs, 0⟩] scope pos) (vComp (own.map (·.2)) mi g mt me) :=
  ⟨PE.imp (pe_lc hc hN hi.ok ok (fun s H C cl fp => (hg s H C cl fp).ok) (fun s H C cl fp => (ht s H C cl fp).ok) (fun s H C cl fp => (he s H C cl fp).ok) hs) fun σ H Q h => comp_rd hT hp h⟩
/-- name = [..] on one line -/
theorem os_setComp {z : Bool} {i : Nat} {y : Str} {py spos : Pos} {own : List (Str × Nat)} {T : List Nat} {elt tg it : Expr} {ifs : List Expr} {scope : Scope} {pos : Pos} {mi : M (List D)} {g : Tg} {mt : M Bool} {me : M Vl} (hc : X.calm = true) (hN : X.N.Nodup) (hpi : ∀ p ∈ pn, p.1 ≠ i) (hT : ∀ i ∈ T, i ∈ own.map (·.2)) (hp : ∀ p ∈ pn, p.1 ∉ own.map (·.2)) (hi : OkI X c pn W z tg it mi) (ok : BlkOk X.N X.env.scope scope own)
    (hg : ∀ (s : Shared) (H : Hp) (C : Addr) (cl : List (Str × Addr)) (fp : List Addr), OkG (X.blk s H scope (compEnvC scope cl C X.env) fp) c pn z T tg g)
    (ht : ∀ (s : Shared) (H : Hp) (C : Addr) (cl : List (Str × Addr)) (fp : List Addr), OkC (X.blk s H scope (compEnvC scope cl C X.env) fp) c pn W0 ifs mt)
    (he : ∀ (s : Shared) (H : Hp) (C : Addr) (cl : List (Str × Addr)) (fp : List Addr), OkV (X.blk s H scope (compEnvC scope cl C X.env) fp) c pn W0 elt me)
    (hsw : swapsWith (.ListComp elt [⟨tg, it, ifs, 0⟩] scope pos) (some (.Name y py)) spos.line X.env = pure true)
    (hy : X.N[i]? = some y := by rfl) (hyl : X.env.scope.names.lookup y = some .local := by rfl)
    (hs : ∀ x, foldedSetIterable it X.env x = pure x := by intro _; rfl) : OkS X c pn W (.Assign [.Name y py] (.ListComp elt [⟨tg, it, ifs, 0⟩] scope pos) spos) (sSet i (vComp (own.map (·.2)) mi g mt me)) := by
  refine ⟨PS.imp (ps_setLc hc hN hy hyl hsw hi.ok ok (fun s H C cl fp => (hg s H C cl fp).ok) (fun s H C cl fp => (ht s H C cl fp).ok) (fun s H C cl fp => (he s H C cl fp).ok) hs) fun D σ H ⟨F, e, P, R, q⟩ => ?_⟩
  refine comp_rd (W := W) hT hp ⟨F, e, P, R, cvS q fun n d e1 v F1 H1 l R1 q1 => ?_⟩
  by_cases hl : i < e1.length
  · have e2 : setS i (n, d) e1 = Res.ok () (e1.set i (some (n, d))) := by simp only [setS, if_pos hl]
    rw [bnd_ok e2] at q1
    exact q1 _ F1 H1 .rfl (R1.store hl hpi)
  · have e2 : setS i (n, d) e1 = Res.stuck := by simp only [setS, if_neg hl]
    rw [bnd_stuck e2] at q1
    exact q1.elim
end
end Mini

set_option Elab.async false
set_option linter.all false
set_option maxRecDepth 100000
/-! MTup: tuples that are laid as they stay: displays, sums, slices, turned round, of lists, of ranges; places of items. -/
namespace Mini
open PySem L2 PySem.Spec PyProof.Rows
section
variable {X : Cx} {pins : List (Addr × Obj)} {σ : L2.St} {H : Hp} {s : Shared}
abbrev tObj (us : List Value) : Obj := { cls := .type "tuple", data := .seq us.toArray }
/-- a new tuple: what is laid is told whole -/
def NewT (xs : List V) (H : Hp) (Q : VK) : Prop := ∀ p o, Obj.dict o = none → H p = none → Q (.ref p) (upd H p (.frz o (.tup xs)))
theorem tup_laid {xs : List V} {us : List Value} (I : Inv X pins σ H s) (r : Vals xs us) (hz : xs.length ≤ sizeLine) :
    Inv X pins σ (upd H s.heap.objs.size (.frz (tObj us) (.tup xs))) { s with heap := s.heap.push (tObj us) } :=
  I.laid (t' := s.toks) (fun b u e => Heap.get?_push_of_some _ e) (Nat.le_refl _) ⟨Heap.get?_push_size _ rfl, hz, us, r, IsTup.new _ _⟩
theorem tup_done {xs : List V} {us : List Value} {Q : VK} (I : Inv X pins σ H s) (r : Vals xs us) (hz : xs.length ≤ sizeLine) (q : NewT xs H Q) :
    EP X pins σ Q (.ref s.heap.objs.size) { s with heap := s.heap.push (tObj us) } :=
  ⟨.ref _, _, tup_laid I r hz, rfl, q _ _ rfl (I.hok.fresh (Nat.le_refl _))⟩
def tTupZ (t : TA) : TE := fun σ H Q => t σ H fun xs H1 => xs.length ≤ sizeLine ∧ NewT xs H1 Q
theorem pe_tupZ {es : List Expr} {t : TA} {x1} {pos : Pos} (h : PA X es t) : PE X (.Tuple es x1 pos) (tTupZ t) := by
  refine ⟨fun pins s σ H Q I hq => ?_⟩
  refine wpAny_Tuple_spliced (thn (h.run pos pins s σ H _ I hq) fun us s1 ⟨xs, H1, I1, r, z, q⟩ => ⟨by rw [← r.length]; exact z, ?_⟩)
  exact tup_done I1 r z q
def rCatZ (K : PySem.W.Frag) : R2 := fun x y H Q => ∃ a b xs ys, x = .ref a ∧ y = .ref b ∧ SqT K H a xs ∧ SqT K H b ys ∧ xs.length + ys.length ≤ sizeLine ∧
  (xs = [] → Q (.ref b) H) ∧ (xs ≠ [] → ys = [] → Q (.ref a) H) ∧ (xs ≠ [] → ys ≠ [] → NewT (xs ++ ys) H Q)
theorem op_catZ : OpR X (binaryOp .Add) (rCatZ X.K) := by
  intro pins s σ H x y v u Q I rx ry h
  obtain ⟨a, b, xs, ys, rfl, rfl, ha, hb, hz, q0, q1, q2⟩ := h
  cases rx
  cases ry
  obtain ⟨its, r1, p1, _⟩ := I.tuple ha
  obtain ⟨its2, r2, p2, _⟩ := I.tuple hb
  by_cases hx : xs = []
  · subst hx
    cases r1
    exact cat_tup0 p1 p2 ⟨.ref b, H, I, rfl, q0 rfl⟩
  · refine HT.cat_tup p1 p2 (fun z => hx (r1.nil_iff.mp z)) (fun z => ⟨.ref a, H, I, rfl, q1 hx (r2.nil_iff.mp z)⟩) (fun z => ?_) (by rw [← r1.length, ← r2.length]; exact hz)
    exact tup_done I (r1.append r2) (by rw [List.length_append]; exact hz) (q2 hx fun w => z (r2.nil_iff.mpr w))
def rSlZ (K : PySem.W.Frag) : V → Option Int → Option Int → Hp → VK → Prop := fun x lo hi H Q => ∃ a xs, x = .ref a ∧ SqT K H a xs ∧
  (HT.sIx xs.length 0 lo = 0 ∧ HT.sIx xs.length xs.length hi = xs.length → Q (.ref a) H) ∧ (¬ (HT.sIx xs.length 0 lo = 0 ∧ HT.sIx xs.length xs.length hi = xs.length) → NewT (cutV xs lo hi) H Q)
theorem sl_tupZ : SlR X (rSlZ X.K) := by
  intro pins s σ H x v vl vu lo hi sl Q I rx hs pl pu h
  obtain ⟨a, xs, rfl, hx, q1, q2⟩ := h
  cases rx
  obtain ⟨its, r, ht, hz⟩ := I.tuple hx
  have hlen : its.toArray.size = xs.length := by rw [List.size_toArray]; exact r.length.symm
  refine ⟨"tuple", _, PyProof.Rows.slot_tuple_getitem.lookup, ht.typeIs, ?_⟩
  by_cases hw : HT.sIx xs.length 0 lo = 0 ∧ HT.sIx xs.length xs.length hi = xs.length
  · exact getItem_tuple_whole ht hs pl pu (by rw [hlen]; exact hw) ⟨.ref a, H, I, rfl, q1 hw⟩
  · refine HT.getItem_tuple_cut ht hs pl pu (by rw [hlen]; exact hw) ?_ (by rw [hlen]; exact hz)
    rw [hlen]
    exact tup_done I ((r.drop (HT.sIx xs.length 0 lo)).take (HT.sIx xs.length xs.length hi - HT.sIx xs.length 0 lo)) (Nat.le_trans (cutV_length xs lo hi) hz) (q2 hw)
/-- tuple(x) of a list, of a tuple -/
def rTupZ (K : PySem.W.Frag) : List V → Hp → VK → Prop := fun xs H Q => ∃ p ys, xs = [.ref p] ∧ ((SqL K H p ys ∧ NewT ys H Q) ∨ (SqT K H p ys ∧ Q (.ref p) H))
theorem call_tupZ : CallR X (.type "tuple") (rTupZ X.K) := by
  intro pins s σ H xs us Q I r h
  obtain ⟨p, ys, rfl, h⟩ := h
  obtain ⟨u, rfl, rx⟩ := vals1 r
  cases rx
  rcases h with ⟨hq, q⟩ | ⟨hq, q⟩
  · obtain ⟨its, r', pl, hz⟩ := I.list hq
    have hlen := r'.length
    refine call_tuple_list pl.isList (fun h' kp => ?_) (by simp only [List.size_toArray] <;> omega)
    have I1 : Inv X pins σ H { s with heap := h' } := I.kept (t' := s.toks) kp
    exact tup_done I1 r' hz q
  · obtain ⟨its, r', pl, hz⟩ := I.tuple hq
    exact call_tuple_same pl ⟨.ref p, H, I, rfl, q⟩
/-- tuple(range(..)) -/
def tTupRgZ (te : L2.St → Hp → (Int → Int → Hp → Prop) → Prop) : TE := fun σ H Q => te σ H fun a b H1 => RgOk a b ∧ NewT (rgV a b) H1 Q
theorem pe_tupRgZ {e : Expr} {te : L2.St → Hp → (Int → Int → Hp → Prop) → Prop} {p pos : Pos} (hc : X.calm = true) (hg : Gl X "tuple") (hm : X.mg "tuple" = none) (he : PRg X e te) (na : starEach [e] X.env = (false, eval e X.env) :: starEach [] X.env := by rfl) :
    PE X (.Call (.Name "tuple" p) [e] [] pos) (tTupRgZ te) := by
  refine ⟨fun pins s σ H Q I h => ?_⟩
  refine Call_ (ld_blt I hg hm boot_tuple (PyProof.Rows.callWith_type1 (args_cons (thn (he pins s σ H _ I h) fun x s1 ⟨r, a, b, t, u, v, H1, ex, hr, I1, ok, q⟩ => args_nil ?_) na) na))
  subst ex
  obtain ⟨b1, b2, b3, b4, b5⟩ := ok
  refine call_tuple_range (n := (b - a).toNat) (I1.ok.hd hc) hr (small_one b1 b2 b3 b4) (rangeSize_nat a b) b5 fun h' tk acc hk hi => ?_
  have I2 : Inv X pins σ H1 { s1 with heap := h', toks := tk } := I1.kept hk
  have e : acc = acc.toList.toArray := by simp
  rw [e]
  exact tup_done I2 (vals_rg hi) (by rw [rgV_length, sizeLine_eq]; omega) q
end
/-! ### t[::-1] -/
section
variable {prog : Program} {w : World} {A : Around} {E : Value → Shared → Prop} {s : Shared}
theorem places_rev (n : Nat) : Builtin.Slice.slicePlaces ((n : Int) - 1) (-1) (-1) = n := by
  unfold Builtin.Slice.slicePlaces
  rw [if_neg (by decide)]
  by_cases h : ((n : Int) - 1) > -1
  · rw [if_pos h]
    have : (-(-1) : Int) = 1 := by decide
    rw [this, Int.ediv_one]
    omega
  · rw [if_neg h]
    omega
theorem fm_map {α β : Type} {f : α → Option β} {g : α → β} : ∀ {l : List α}, (∀ a ∈ l, f a = some (g a)) → l.filterMap f = l.map g
  | [], _ => rfl
  | a :: l, h => by
    rw [List.filterMap_cons, h a List.mem_cons_self, List.map_cons]
    dsimp only
    rw [fm_map fun b hb => h b (List.mem_cons_of_mem _ hb)]
theorem pick_rev (xs : Array Value) : ((List.range xs.size).filterMap fun (m : Nat) => xs[(((xs.size : Int) - 1) + (m : Int) * (-1)).toNat]?).toArray = xs.toList.reverse.toArray := by
  congr 1
  rw [fm_map (g := fun m => xs.toList.getD (xs.size - 1 - m) .none) fun m hm => by
    have hm : m < xs.size := List.mem_range.mp hm
    have e1 : (((xs.size : Int) - 1) + (m : Int) * (-1)).toNat = xs.size - 1 - m := by omega
    rw [e1]
    have h2 : xs.size - 1 - m < xs.toList.length := by rw [Array.length_toList]; omega
    rw [← Array.getElem?_toList, List.getElem?_eq_getElem h2, List.getD_eq_getElem?_getD, List.getElem?_eq_getElem h2]
    rfl]
  apply List.ext_getElem?
  intro i
  by_cases h : i < xs.size
  · rw [List.getElem?_map, List.getElem?_range h, List.getElem?_reverse (by rw [Array.length_toList]; exact h), Array.length_toList]
    have h2 : xs.size - 1 - i < xs.toList.length := by rw [Array.length_toList]; omega
    show some (xs.toList.getD (xs.size - 1 - i) .none) = _
    rw [List.getD_eq_getElem?_getD, List.getElem?_eq_getElem h2]
    rfl
  · rw [List.getElem?_eq_none (by simp; omega), List.getElem?_eq_none (by simp; omega)]
theorem getItem_tuple_rev {t sl : Addr} {items : Array Value} {u : Tok} {Q : Value → Shared → Prop} (ht : IsTup s.heap t items) (hs : s.heap.IsSliceOf sl .none .none (.int (-1) u))
    (h : Q (.ref s.heap.objs.size) { s with heap := s.heap.push { cls := .type "tuple", data := .seq items.toList.reverse.toArray } })
    (hsz : items.size ≤ sizeLine) : wpAny (model prog w) A (getItem (.ref t) (.ref sl)) Q E s := by
  have htake : sizeOk (.seq items.toList.reverse.toArray) := by
    show items.toList.reverse.toArray.size ≤ sizeLine
    simpa using hsz
  obtain ⟨os, hos, hcs, hds⟩ := id hs
  have hTs : s.TypeIs (.ref sl) "slice" := ⟨os, hos, hcs⟩
  unfold getItem
  try with_reducible refine wpAny_holding ?_
  first | refine wpAny_bind (wpAny_pure ?_) | skip
  refine wpAny_bind (wpAny_sequenceKey ht.typeIs (by decide) ?_)
  refine wpAny_bind (wpAny_callSpecial?_slot (name := Str.ofString "__getitem__") ht.typeIs PyProof.Rows.slot_tuple_getitem
    (wpAny_call_entry PyProof.Rows.slot_tuple_getitem ht.typeIs entry_tuple_getitem ?_ (args_tuple_getitem _ _)))
  show wpAny _ _ (Builtin.Tuple.tupleItemsOf (.ref t) >>= _) _ _ s
  refine wpAny_bind (tupleItemsOf_ ht ?_)
  refine wpAny_bind (wpAny_typeOf hTs ?_)
  rw [if_pos (by decide)]
  refine wpAny_bind ?_
  unfold Builtin.Slice.sliceApplied Builtin.Slice.sliceFields
  refine wpAny_bind (wpAny_bind (wpAny_field hos hds (x := .none) rfl (wpAny_bind (wpAny_field hos hds (x := .none) rfl (wpAny_bind (wpAny_field hos hds (x := .int (-1) u) rfl (wpAny_pure ?_)))))))
  refine wpAny_bind (slicePart_int ?_)
  show wpAny _ _ (if ((-1 : Int) == 0) = true then _ else _) _ _ s
  rw [if_neg (by decide)]
  refine wpAny_bind (slicePart_none (wpAny_bind (slicePart_none (wpAny_bind (wpAny_pure ?_)))))
  show wpAny _ _ (pure (((items.size : Int) - 1), (-1 : Int), Builtin.Slice.slicePlaces ((items.size : Int) - 1) (-1) (-1))) _ _ s
  rw [places_rev]
  refine wpAny_pure ?_
  have hno : ¬ ((((items.size : Int) - 1) == 0 && (-1 : Int) == 1 && items.size == items.size) = true) := by
    intro q
    rw [Bool.and_eq_true, Bool.and_eq_true] at q
    exact absurd q.1.2 (by decide)
  show wpAny _ _ (if (((items.size : Int) - 1) == 0 && (-1 : Int) == 1 && items.size == items.size) = true then _ else _) _ _ s
  rw [if_neg hno, pick_rev]
  first
    | exact wpAny_bind (m := Builtin.Tuple.tupleExact _) (wpAny_newObj_type (wpAny_pure ⟨_, rfl, wpAny_pure h⟩) htake)
    | exact wpAny_bind (m := Builtin.Tuple.tupleExact _) (wpAny_newObj_type (wpAny_bind (wpAny_pure (wpAny_pure ⟨_, rfl, wpAny_pure h⟩))) htake)
    | exact wpAny_bind (wpAny_bind (m := Builtin.Tuple.tupleExact _) (wpAny_newObj_type (wpAny_pure (wpAny_pure ⟨_, rfl, wpAny_pure h⟩)) htake))
    | exact wpAny_bind (wpAny_bind (m := Builtin.Tuple.tupleExact _) (wpAny_newObj_type (wpAny_pure ⟨_, rfl, wpAny_pure h⟩) htake))
end
end Mini

set_option Elab.async false
set_option linter.all false
set_option maxRecDepth 100000
/-! MOps: the operators and built-ins, each by its rule. -/
namespace Mini
open PySem L2
section
variable {X : Cx} {c : Ctx} {pn : Pins} {W : WX} {F H : Hp} {e : Env} {σ : St} {P : Addr → Prop}
theorem sLine_eq' : sizeLine = sLine := by decide
/-! ### a new object -/
theorem Rel.grow {p : Addr} {o : HO} (R : Rel c pn F e σ H P) (hp : H p = none) : Rel c pn F e σ (L2.upd H p o) P := by
  obtain ⟨φ, r1, r2, r3, r4, r5, r6, r7, r8⟩ := R
  have np : ∀ {a : Addr}, H a ≠ none → a ≠ p := fun {a} h z => h (z ▸ hp)
  refine ⟨φ, r1, fun a u h => ?_, fun i n d g => ?_, r4, r5, r6, fun a pa => ⟨?_, (r7 a pa).2⟩, r8⟩
  · have h' := r2 a u h
    rw [upd_ne (np (by rw [h']; exact fun z => nomatch z))]
    exact h'
  · obtain ⟨v, h1, o'⟩ := r3 i n d g
    exact ⟨v, h1, o'.frame (Same.refl _) fun a ha => ⟨upd_ne (np (o'.fp a ha).2), (o'.fp a ha).1⟩⟩
  · rw [upd_ne (np (r7 a pa).1)]
    exact (r7 a pa).1
theorem F_none {p : Addr} (s : Same F H) (hp : H p = none) : F p = none := by
  cases z : F p with
  | none => rfl
  | some o => have := s p o z; rw [hp] at this; cases this
theorem new_own {p : Addr} {o : HO} {h : Hd} {ds : List D} {vs : List V} (R : Rel c pn F e σ H P) (hp : H p = none) (ht : h ≠ .tup) (st : Stand c.K c.C (upd H p o) p vs h) (hl : ds.length ≤ sizeLine) (r : Reps c.K c.C F ds vs) :
    Later F H F (upd H p o) P ∧ RelV c pn F e σ (upd H p o) P (.ref p) 1 (.box h ds) := by
  obtain ⟨φ, r1, r2, r3, r4, r5, r6, r7, r8⟩ := id R
  have nP : ∀ a, P a → a ≠ p := fun a pa z => (r7 a pa).1 (z ▸ hp)
  have fp := F_none r2 hp
  refine ⟨⟨Same.refl _, fun a pa => upd_ne (nP a pa)⟩, [p], ?_, List.nodup_cons.mpr ⟨by simp, List.nodup_nil⟩, fun a ha pa => nP a pa (List.mem_singleton.mp ha), ?_⟩
  · unfold Own
    rw [if_neg (fun z => z.elim (fun z => nomatch z) ht)]
    exact ⟨p, vs, [], rfl, fp, st, hl, Owns.zero r, rfl⟩
  · have np : ∀ {a : Addr}, H a ≠ none → a ≠ p := fun {a} h z => h (z ▸ hp)
    refine ⟨φ, r1, R'same R hp, fun i n d g => ?_, r4, r5, r6, fun a ha => ?_, r8⟩
    · obtain ⟨v, h1, o'⟩ := r3 i n d g
      exact ⟨v, h1, o'.frame (Same.refl _) fun a ha => ⟨upd_ne (np (o'.fp a ha).2), (o'.fp a ha).1⟩⟩
    · rcases ha with ha | ha
      · rw [upd_ne (nP a ha)]
        exact r7 a ha
      · rw [List.mem_singleton.mp ha, upd_same]
        refine ⟨(fun z => nomatch z), fp, fun i hi => ?_⟩
        cases g : getS e i with
        | none => rw [r4 i g] at hi; cases hi
        | some z =>
          obtain ⟨n, d⟩ := z
          obtain ⟨v2, q1, o2⟩ := r3 i n d g
          exact (o2.fp p hi).2 hp
  where R'same {F H : Hp} {e : Env} {σ : St} {P : Addr → Prop} {p : Addr} {o : HO} (R : Rel c pn F e σ H P) (hp : H p = none) : Same F (upd H p o) := (R.grow hp).same
theorem new_tup {p : Addr} {o : Obj} {ds : List D} {vs : List V} (R : Rel c pn F e σ H P) (ho : o.dict = none) (hp : H p = none) (hl : ds.length ≤ sizeLine) (r : Reps c.K c.C F ds vs) :
    ∃ F', Later F H F' (upd H p (.frz o (.tup vs))) P ∧ RelV c pn F' e σ (upd H p (.frz o (.tup vs))) P (.ref p) 0 (.tup ds) := by
  obtain ⟨φ, r1, r2, r3, r4, r5, r6, r7, r8⟩ := id R
  have nP : ∀ a, P a → a ≠ p := fun a pa z => (r7 a pa).1 (z ▸ hp)
  have fp := F_none r2 hp
  have np : ∀ {a : Addr}, H a ≠ none → a ≠ p := fun {a} h z => h (z ▸ hp)
  have s1 : Same F (upd F p (.frz o (.tup vs))) := fun a u h => by rw [upd_ne (fun z => by rw [z, fp] at h; cases h)]; exact h
  refine ⟨upd F p (.frz o (.tup vs)), ⟨s1, fun a pa => upd_ne (nP a pa)⟩, RelV.zero ⟨φ, r1, fun a u h => ?_, fun i n d g => ?_, r4, r5, r6, fun a pa => ?_, r8⟩ ⟨p, vs, rfl, ?_, hl, r.mono s1⟩⟩
  · by_cases ha : a = p
    · rw [ha, upd_same] at h; rw [ha, upd_same]; exact h
    · rw [upd_ne ha] at h; rw [upd_ne ha]; exact r2 a u h
  · obtain ⟨v, h1, o'⟩ := r3 i n d g
    exact ⟨v, h1, o'.frame s1 fun a ha => ⟨upd_ne (np (o'.fp a ha).2), by rw [upd_ne (np (o'.fp a ha).2)]; exact (o'.fp a ha).1⟩⟩
  · rw [upd_ne (nP a pa), upd_ne (nP a pa)]
    exact r7 a pa
  · exact .inl ⟨o, upd_same, ho⟩
/-! ### numbers, texts, sequences -/
theorem OpR.or {f : Value → Value → Sem Value} {r r' : R2} (h : OpR X f r) (h' : OpR X f r') : OpR X f (fun x y H Q => r x y H Q ∨ r' x y H Q) := by
  intro pins s σ H x y v u Q I rx ry q
  rcases q with q | q
  · exact h pins s σ H x y v u Q I rx ry q
  · exact h' pins s σ H x y v u Q I rx ry q
def rAddA (K : PySem.W.Frag) : R2 := fun x y H Q => rI0 (fun i j => .int (i + j)) x y H Q ∨ ((∃ a b, x = .str a ∧ y = .str b ∧ a.length + b.length ≤ sizeLine ∧ Q (.str (a ++ b)) H) ∨ (rCat x y H Q ∨ rCatZ K x y H Q))
theorem op_addA : OpR X (binaryOp .Add) (rAddA X.K) := OpR.or op_add (OpR.or op_add_str (OpR.or op_cat op_catZ))
theorem reps_app : ∀ {xs ys : List D} {vs ws : List V}, Reps c.K c.C F xs vs → Reps c.K c.C F ys ws → Reps c.K c.C F (xs ++ ys) (vs ++ ws)
  | [], _, _, _, h, h' => by
    have h : _ = [] := h
    subst h; exact h'
  | _ :: _, _, _, _, ⟨v, ws, h1, h2, h3⟩, h' => by
    subst h1
    exact ⟨v, _, rfl, h2, reps_app h3 h'⟩
/-- a scalar result: the state stays -/
theorem sc {Q : VK} {z : D} {v : V} {n : Nat} (R : Rel c pn F e σ H P) (q : ∀ v F' H', Later F H F' H' P → RelV c pn F' e σ H' P v n z → Q v H') (hn : n = 0) (r : Rep c.K c.C F z v) : Q v H := by
  subst hn
  exact q v F H .rfl (RelV.zero R r)
theorem o_add (hK : c.K = X.K) : Op2 c (rAddA X.K) fAdd := by
  intro pn F e σ H P d d' n z x y Q R sx sy hf q
  rw [← hK]
  cases d with
  | int i => cases d' with
    | int j =>
      have sx : x = .int i := sx
      have sy : y = .int j := sy
      subst sx sy
      cases hf
      exact .inl ⟨i, j, rfl, rfl, sc R q rfl rfl⟩
    | _ => cases hf
  | str a => cases d' with
    | str b =>
      have sx : x = .str a := sx
      have sy : y = .str b := sy
      subst sx sy
      have hf : (if a.length + b.length ≤ sLine then some (0, D.str (a ++ b)) else none) = some (n, z) := hf
      split at hf
      · rename_i hl
        cases hf
        exact .inr (.inl ⟨a, b, rfl, rfl, hl, sc R q rfl rfl⟩)
      · cases hf
    | _ => cases hf
  | box h ds =>
    cases h with
    | lst => cases d' with
      | box h' ds' =>
        cases h' with
        | lst =>
          obtain ⟨a, vs, rfl, s1, s2, s3, s4⟩ := sx
          obtain ⟨b, ws, rfl, t1, t2, t3, t4⟩ := sy
          have s1 : H a = some (.lst vs) := s1
          have t1 : H b = some (.lst ws) := t1
          have hf : (if ds.length + ds'.length ≤ sLine then some (1, D.lst (ds ++ ds')) else none) = some (n, z) := hf
          split at hf
          · rename_i hl
            cases hf
            have hl' : vs.length + ws.length ≤ sizeLine := by rw [← s3.length, ← t3.length]; exact hl
            refine .inr (.inr (.inl ⟨a, b, vs, ws, rfl, rfl, s1, t1, hl', fun p hp => ?_⟩))
            obtain ⟨l, r⟩ := new_own (o := .lst (vs ++ ws)) (h := .lst) R hp (fun z => nomatch z) upd_same (by rw [List.length_append]; exact hl) (reps_app s3 t3)
            exact q _ F _ l r
          · cases hf
        | _ => cases hf
      | _ => cases hf
    | tup => cases d' with
      | box h' ds' =>
        cases h' with
        | tup =>
          obtain ⟨a, vs, rfl, s1, s2, s3, s4⟩ := sx
          obtain ⟨b, ws, rfl, t1, t2, t3, t4⟩ := sy
          have hf : (if ds.length + ds'.length ≤ sLine then some (0, D.tup (ds ++ ds')) else none) = some (n, z) := hf
          split at hf
          · rename_i hl
            cases hf
            have hl' : vs.length + ws.length ≤ sizeLine := by rw [← s3.length, ← t3.length]; exact hl
            refine .inr (.inr (.inr ⟨a, b, vs, ws, rfl, rfl, TupS.sq s1, TupS.sq t1, hl', fun hx => ?_, fun hx hy => ?_, fun hx hy p o ho hp => ?_⟩))
            · subst hx
              have e0 : ds = [] := List.length_eq_zero_iff.mp s3.length
              subst e0
              exact sc R q rfl ⟨b, ws, rfl, t4 rfl, t2, t3⟩
            · subst hy
              have e0 : ds' = [] := List.length_eq_zero_iff.mp t3.length
              subst e0
              rw [List.append_nil] at q
              exact sc R q rfl ⟨a, vs, rfl, s4 rfl, s2, s3⟩
            · obtain ⟨F', l, r⟩ := new_tup R ho hp (by rw [List.length_append]; exact hl) (reps_app s3 t3)
              exact q _ F' _ l r
          · cases hf
        | _ => cases hf
      | _ => cases hf
    | _ => cases hf
  | _ => cases hf
end
end Mini

set_option Elab.async false
set_option linter.all false
set_option maxRecDepth 100000
/-! MOps2: numbers, comparisons, places, slices, built-ins. -/
namespace Mini
open PySem L2
open PyProof.Rows (mul_int)
section
variable {X : Cx} {c : Ctx} {pn : Pins} {W : WX} {F H : Hp} {e : Env} {σ : St} {P : Addr → Prop}
theorem o_rI {C : Int → Int → Prop} {g : Int → Int → V} {f : D → D → Option Vl} (h : ∀ d d' n z, f d d' = some (n, z) → ∃ i j, d = .int i ∧ d' = .int j ∧ C i j ∧ n = 0 ∧ ∀ F, Rep c.K c.C F z (g i j)) : Op2 c (rI C g) f := by
  intro pn F e σ H P d d' n z x y Q R sx sy hf q
  obtain ⟨i, j, rfl, rfl, hc, hn, r⟩ := h _ _ _ _ hf
  exact ⟨i, j, sx, sy, hc, sc R q hn (r F)⟩
theorem o_rI0 {g : Int → Int → V} {f : D → D → Option Vl} (h : ∀ d d' n z, f d d' = some (n, z) → ∃ i j, d = .int i ∧ d' = .int j ∧ n = 0 ∧ ∀ F, Rep c.K c.C F z (g i j)) : Op2 c (rI0 g) f := by
  intro pn F e σ H P d d' n z x y Q R sx sy hf q
  obtain ⟨i, j, rfl, rfl, hn, r⟩ := h _ _ _ _ hf
  exact ⟨i, j, sx, sy, sc R q hn (r F)⟩
theorem two_ints {f : D → D → Option Vl} {g : Int → Int → Option Vl} (h : ∀ d d', f d d' = match d, d' with | .int i, .int j => g i j | _, _ => none) {d d' : D} {n : Nat} {z : D} (hf : f d d' = some (n, z)) : ∃ i j, d = .int i ∧ d' = .int j ∧ g i j = some (n, z) := by
  rw [h] at hf
  cases d with
  | int i => cases d' with
    | int j => exact ⟨i, j, rfl, rfl, hf⟩
    | _ => cases hf
  | _ => cases hf
theorem o_sub : Op2 c (rI0 fun i j => .int (i - j)) fSub := o_rI0 fun d d' n z hf => by
  obtain ⟨i, j, rfl, rfl, h⟩ := two_ints (g := fun i j => vInt (i - j)) (fun d d' => by cases d <;> cases d' <;> rfl) hf
  cases h
  exact ⟨i, j, rfl, rfl, rfl, fun _ => rfl⟩
def CMulA (i j : Int) : Prop := CMul i j ∨ CMulW i j
theorem op_mulA : OpR X (binaryOp .Mult) (rI CMulA fun i j => .int (i * j)) := opI fun _ _ _ _ _ _ _ hc q => mul_int q (hc.elim CMul.ok CMulW.ok)
theorem o_mul : Op2 c (rI CMulA fun i j => .int (i * j)) fMul := o_rI fun d d' n z hf => by
  obtain ⟨i, j, rfl, rfl, h⟩ := two_ints (g := fun i j => if decide (i.natAbs < 2 ^ 64) || (decide (j.natAbs < 2 ^ 64) || decide (i.natAbs.log2 + j.natAbs.log2 < 1000000)) then vInt (i * j) else none) (fun d d' => by cases d <;> cases d' <;> rfl) hf
  split at h
  · rename_i hb
    cases h
    refine ⟨i, j, rfl, rfl, ?_, rfl, fun _ => rfl⟩
    simp only [Bool.or_eq_true, decide_eq_true_eq] at hb
    rcases hb with hb | hb | hb
    · exact .inl (.inl (by omega))
    · exact .inl (.inr (by omega))
    · exact .inr hb
  · cases h
theorem o_div : Op2 c (rI CDivW fun i j => .int (i / j)) fDiv := o_rI fun d d' n z hf => by
  obtain ⟨i, j, rfl, rfl, h⟩ := two_ints (g := fun i j => if 0 < j ∧ j.natAbs.log2 < 9000 then vInt (i / j) else none) (fun d d' => by cases d <;> cases d' <;> rfl) hf
  split at h
  · rename_i hb
    cases h
    exact ⟨i, j, rfl, rfl, hb, rfl, fun _ => rfl⟩
  · cases h
theorem o_mod : Op2 c (rI (fun _ j => 0 < j) fun i j => .int (i % j)) fMod := o_rI fun d d' n z hf => by
  obtain ⟨i, j, rfl, rfl, h⟩ := two_ints (g := fun i j => if 0 < j then vInt (i % j) else none) (fun d d' => by cases d <;> cases d' <;> rfl) hf
  split at h
  · rename_i hb
    cases h
    exact ⟨i, j, rfl, rfl, hb, rfl, fun _ => rfl⟩
  · cases h
theorem o_pow : Op2 c (rI CPow fun i j => .int (i ^ j.toNat)) fPow := o_rI fun d d' n z hf => by
  obtain ⟨i, j, rfl, rfl, h⟩ := two_ints (g := fun i j => if 0 ≤ j ∧ j ≤ 1000000 ∧ i.natAbs < 2 ^ 64 then vInt (i ^ j.toNat) else none) (fun d d' => by cases d <;> cases d' <;> rfl) hf
  split at h
  · rename_i hb
    cases h
    exact ⟨i, j, rfl, rfl, hb, rfl, fun _ => rfl⟩
  · cases h
theorem o_lt : Op2 c (rI0 fun i j => .bl (decide (i < j))) fLt := o_rI0 fun d d' n z hf => by
  obtain ⟨i, j, rfl, rfl, h⟩ := two_ints (g := fun i j => vBl (decide (i < j))) (fun d d' => by cases d <;> cases d' <;> rfl) hf
  cases h
  exact ⟨i, j, rfl, rfl, rfl, fun _ => rfl⟩
theorem o_le : Op2 c (rI0 fun i j => .bl (decide (i ≤ j))) fLe := o_rI0 fun d d' n z hf => by
  obtain ⟨i, j, rfl, rfl, h⟩ := two_ints (g := fun i j => vBl (decide (i ≤ j))) (fun d d' => by cases d <;> cases d' <;> rfl) hf
  cases h
  exact ⟨i, j, rfl, rfl, rfl, fun _ => rfl⟩
theorem o_gt : Op2 c (rI0 fun i j => .bl (decide (j < i))) fGt := o_rI0 fun d d' n z hf => by
  obtain ⟨i, j, rfl, rfl, h⟩ := two_ints (g := fun i j => vBl (decide (j < i))) (fun d d' => by cases d <;> cases d' <;> rfl) hf
  cases h
  exact ⟨i, j, rfl, rfl, rfl, fun _ => rfl⟩
theorem o_ge : Op2 c (rI0 fun i j => .bl (decide (j ≤ i))) fGe := o_rI0 fun d d' n z hf => by
  obtain ⟨i, j, rfl, rfl, h⟩ := two_ints (g := fun i j => vBl (decide (j ≤ i))) (fun d d' => by cases d <;> cases d' <;> rfl) hf
  cases h
  exact ⟨i, j, rfl, rfl, rfl, fun _ => rfl⟩
theorem o_neg : Op1 c (rU fun i => .int (-i)) fNeg := by
  intro pn F e σ H P d n z x Q R sx hf q
  cases d with
  | int i =>
    cases hf
    exact ⟨i, sx, sc R q rfl rfl⟩
  | _ => cases hf
/-! ### == and != of data -/
mutual
theorem dp_of : ∀ {d : D} {v : V} {p : PyData}, toP d = some p → Rep c.K c.C H d v → Dp c.K H v p
  | .non, v, p, h, r => by
    cases h
    have r : v = .non := r
    subst r; exact .non
  | .bl b, v, p, h, r => by
    cases h
    have r : v = .bl b := r
    subst r; exact .bl b
  | .int i, v, p, h, r => by
    cases h
    have r : v = .int i := r
    subst r; exact .int i
  | .str x, v, p, h, r => by
    cases h
    have r : v = .str x := r
    subst r; exact .str x
  | .box .tup ds, v, p, h, ⟨a, vs, e, s1, _, s3⟩ => by
    subst e
    unfold toP at h
    cases q : toPs ds with
    | none => rw [q] at h; cases h
    | some ps => rw [q] at h; cases h; exact .tup (TupS.sq s1) (dps_of q s3)
  | .box .lst ds, v, p, h, ⟨a, vs, e, s1, _, s3⟩ => by
    subst e
    unfold toP at h
    cases q : toPs ds with
    | none => rw [q] at h; cases h
    | some ps => rw [q] at h; cases h; exact .lst (SqL.of s1) (dps_of q s3)
  | .box (.dK _) _, _, _, h, _ => by cases h
  | .box (.dT _) _, _, _, h, _ => by cases h
  | .box (.ins _ _) _, _, _, h, _ => by cases h
  | .scr _, _, _, h, _ => by cases h
theorem dps_of : ∀ {ds : List D} {vs : List V} {ps : List PyData}, toPs ds = some ps → Reps c.K c.C H ds vs → DpAll c.K H vs ps
  | [], vs, ps, h, r => by
    cases h
    have r : vs = [] := r
    subst r; exact .nil
  | d :: ds, vs, ps, h, ⟨v, ws, e, r1, r2⟩ => by
    subst e
    unfold toPs at h
    cases q1 : toP d with
    | none => rw [q1] at h; cases h
    | some p =>
      rw [q1] at h
      cases q2 : toPs ds with
      | none => rw [q2] at h; cases h
      | some ps' => rw [q2] at h; cases h; exact .cons (dp_of q1 r1) (dps_of q2 r2)
end
theorem eqD_some {d d' : D} {b : Bool} (h : eqD d d' = some b) : ∃ p q, toP d = some p ∧ toP d' = some q ∧ SeqAt.shaped p = true ∧ SeqAt.shaped q = true ∧ b = PyData.eqv p q := by
  unfold eqD at h
  cases h1 : toP d with
  | none => rw [h1] at h; cases h
  | some p =>
    cases h2 : toP d' with
    | none => rw [h1, h2] at h; cases h
    | some q =>
      rw [h1, h2] at h
      dsimp only at h
      split at h
      · rename_i hs
        rw [Bool.and_eq_true] at hs
        cases h
        exact ⟨p, q, rfl, rfl, hs.1, hs.2, rfl⟩
      · cases h
theorem o_eq (hK : c.K = X.K) : Op2 c (rEqD X.K) fEq := by
  intro pn F e σ H P d d' n z x y Q R sx sy hf q
  rw [← hK]
  unfold fEq at hf
  cases he : eqD d d' with
  | none => rw [he] at hf; cases hf
  | some b =>
    rw [he] at hf
    cases hf
    obtain ⟨p, p', h1, h2, h3, h4, rfl⟩ := eqD_some he
    exact ⟨p, p', dp_of h1 (sx.rep R.same), dp_of h2 (sy.rep R.same), h3, h4, sc R q rfl rfl⟩
theorem o_ne (hK : c.K = X.K) : Op2 c (rNeD X.K) fNe := by
  intro pn F e σ H P d d' n z x y Q R sx sy hf q
  rw [← hK]
  unfold fNe at hf
  cases he : eqD d d' with
  | none => rw [he] at hf; cases hf
  | some b =>
    rw [he] at hf
    cases hf
    obtain ⟨p, p', h1, h2, h3, h4, rfl⟩ := eqD_some he
    exact ⟨p, p', dp_of h1 (sx.rep R.same), dp_of h2 (sy.rep R.same), h3, h4, sc R q rfl rfl⟩
theorem isNon_of {d : D} {v : V} (h : Sh c F H d v) : decide (v = .non) = isNon d := by
  cases d with
  | non => have h : v = .non := h; subst h; rfl
  | bl b => have h : v = .bl b := h; subst h; rfl
  | int b => have h : v = .int b := h; subst h; rfl
  | str b => have h : v = .str b := h; subst h; rfl
  | box k ds => obtain ⟨a, vs, e, _⟩ := h; subst e; rfl
  | scr ns => obtain ⟨a, e, _⟩ := h; subst e; rfl
theorem o_isN : Op2 c (fun x y H Q => y = .non ∧ Q (.bl (decide (x = .non))) H) fIsN := by
  intro pn F e σ H P d d' n z x y Q R sx sy hf q
  cases d' with
  | non =>
    have sy : y = .non := sy
    cases hf
    refine ⟨sy, ?_⟩
    rw [isNon_of sx]
    exact sc R q rfl rfl
  | _ => cases hf
theorem o_notN : Op2 c (fun x y H Q => y = .non ∧ Q (.bl (!decide (x = .non))) H) fNotN := by
  intro pn F e σ H P d d' n z x y Q R sx sy hf q
  cases d' with
  | non =>
    have sy : y = .non := sy
    cases hf
    refine ⟨sy, ?_⟩
    rw [isNon_of sx]
    exact sc R q rfl rfl
  | _ => cases hf
/-! ### in, of flat things -/
theorem flat_of {d : D} {v : V} (h : flatD d = true) (r : Rep c.K c.C F d v) : flatV v = true := by
  cases d with
  | non => have r : v = .non := r; subst r; rfl
  | bl b => have r : v = .bl b := r; subst r; rfl
  | int b => have r : v = .int b := r; subst r; rfl
  | str b => have r : v = .str b := r; subst r; rfl
  | box k ds => cases h
  | scr ns => cases h
theorem sh_flat {d : D} {v : V} (h : flatD d = true) (r : Sh c F H d v) : Rep c.K c.C F d v := by
  cases d with
  | box k ds => cases h
  | scr ns => cases h
  | non => exact r
  | bl _ => exact r
  | int _ => exact r
  | str _ => exact r
theorem eqF_of {d d' : D} {v v' : V} (h : flatD d = true) (h' : flatD d' = true) (r : Rep c.K c.C F d v) (r' : Rep c.K c.C F d' v') : eqV v v' = eqF d d' := by
  cases d with
  | box k ds => cases h
  | scr ns => cases h
  | non =>
    have r : v = .non := r
    subst r
    cases d' with
    | box k ds => cases h'
    | scr ns => cases h'
    | non => have r' : v' = .non := r'; subst r'; rfl
    | bl b => have r' : v' = .bl b := r'; subst r'; rfl
    | int b => have r' : v' = .int b := r'; subst r'; rfl
    | str b => have r' : v' = .str b := r'; subst r'; rfl
  | bl b =>
    have r : v = .bl b := r
    subst r
    cases d' with
    | box k ds => cases h'
    | scr ns => cases h'
    | non => have r' : v' = .non := r'; subst r'; rfl
    | bl b => have r' : v' = .bl b := r'; subst r'; rfl
    | int b => have r' : v' = .int b := r'; subst r'; rfl
    | str b => have r' : v' = .str b := r'; subst r'; rfl
  | int b =>
    have r : v = .int b := r
    subst r
    cases d' with
    | box k ds => cases h'
    | scr ns => cases h'
    | non => have r' : v' = .non := r'; subst r'; rfl
    | bl b => have r' : v' = .bl b := r'; subst r'; rfl
    | int b => have r' : v' = .int b := r'; subst r'; rfl
    | str b => have r' : v' = .str b := r'; subst r'; rfl
  | str b =>
    have r : v = .str b := r
    subst r
    cases d' with
    | box k ds => cases h'
    | scr ns => cases h'
    | non => have r' : v' = .non := r'; subst r'; rfl
    | bl b => have r' : v' = .bl b := r'; subst r'; rfl
    | int b => have r' : v' = .int b := r'; subst r'; rfl
    | str b => have r' : v' = .str b := r'; subst r'; rfl
theorem flats_of : ∀ {ds : List D} {vs : List V}, ds.all flatD = true → Reps c.K c.C F ds vs → vs.all flatV = true
  | [], vs, _, r => by
    have r : vs = [] := r
    subst r; rfl
  | d :: ds, vs, h, ⟨v, ws, e, r1, r2⟩ => by
    subst e
    simp only [List.all_cons, Bool.and_eq_true] at h ⊢
    exact ⟨flat_of h.1 r1, flats_of h.2 r2⟩
theorem any_of {d : D} {v : V} (h : flatD d = true) (r : Rep c.K c.C F d v) : ∀ {ds : List D} {vs : List V}, ds.all flatD = true → Reps c.K c.C F ds vs → inV v vs = ds.any fun y => eqF y d
  | [], vs, _, r' => by
    have r' : vs = [] := r'
    subst r'; rfl
  | d' :: ds, vs, h', ⟨v', ws, e, r1, r2⟩ => by
    subst e
    simp only [List.all_cons, Bool.and_eq_true] at h'
    have ih := any_of h r h'.2 r2
    unfold inV at ih ⊢
    rw [List.any_cons, List.any_cons, ih, eqF_of h'.1 h r1 r]
theorem inFl_some {d : D} {ds : List D} {b : Bool} (h : inFl d ds = some b) : flatD d = true ∧ ds.all flatD = true ∧ b = ds.any fun y => eqF y d := by
  unfold inFl at h
  split at h
  · rename_i hb
    rw [Bool.and_eq_true] at hb
    cases h
    exact ⟨hb.1, hb.2, rfl⟩
  · cases h
theorem o_inG (neg : Bool) (hK : c.K = X.K) {f : D → D → Option Vl} (hf0 : ∀ d d', f d d' = match d' with | .box .lst ds => (inFl d ds).map fun b => (0, .bl (if neg then !b else b)) | .box .tup ds => (inFl d ds).map fun b => (0, .bl (if neg then !b else b)) | _ => none) : Op2 c (rIn X.K neg) f := by
  intro pn F e σ H P d d' n z x y Q R sx sy hf q
  rw [hf0] at hf
  rw [← hK]
  cases d' with
  | box k ds =>
    cases k with
    | lst =>
      dsimp only at hf
      cases hb : inFl d ds with
      | none => rw [hb] at hf; cases hf
      | some b =>
        rw [hb] at hf
        cases hf
        obtain ⟨h1, h2, h3⟩ := inFl_some hb
        obtain ⟨a, vs, rfl, s1, s2, s3, s4⟩ := sy
        refine ⟨a, vs, rfl, .inl (SqL.of s1), flat_of h1 (sh_flat h1 sx), flats_of h2 s3, ?_⟩
        rw [any_of h1 (sh_flat h1 sx) h2 s3, ← h3]
        have e : (if neg = true then V.bl !b else V.bl b) = V.bl (if neg = true then !b else b) := by split <;> rfl
        exact sc R q rfl rfl
    | tup =>
      dsimp only at hf
      cases hb : inFl d ds with
      | none => rw [hb] at hf; cases hf
      | some b =>
        rw [hb] at hf
        cases hf
        obtain ⟨h1, h2, h3⟩ := inFl_some hb
        obtain ⟨a, vs, rfl, s1, s2, s3, s4⟩ := sy
        refine ⟨a, vs, rfl, .inr (TupS.sq s1), flat_of h1 (sh_flat h1 sx), flats_of h2 s3, ?_⟩
        rw [any_of h1 (sh_flat h1 sx) h2 s3, ← h3]
        exact sc R q rfl rfl
    | _ => cases hf
  | _ => cases hf
theorem o_in (hK : c.K = X.K) : Op2 c (rIn X.K false) fIn := o_inG false hK fun d d' => by
  cases d' with
  | box k ds => cases k <;> rfl
  | _ => rfl
theorem o_notIn (hK : c.K = X.K) : Op2 c (rIn X.K true) fNotIn := o_inG true hK fun d d' => by
  cases d' with
  | box k ds => cases k <;> rfl
  | _ => rfl
/-! ### places -/
theorem ixD_at {ds : List D} {vs : List V} {i : Int} {z : D} (r : Reps c.K c.C F ds vs) (h : ixD ds i = some z) : ∃ v, atI vs i = some v ∧ Rep c.K c.C F z v := by
  have hl := r.length
  unfold ixD at h
  unfold atI ixN
  by_cases h0 : 0 ≤ i
  · rw [if_pos h0] at h ⊢
    obtain ⟨v, h1, h2⟩ := r.get h
    have := (List.getElem?_eq_some_iff.mp h1).1
    rw [if_pos (by omega)]
    exact ⟨v, h1, h2⟩
  · rw [if_neg h0] at h ⊢
    by_cases hn : -(ds.length : Int) ≤ i
    · rw [if_pos hn] at h
      rw [if_pos (by omega)]
      obtain ⟨v, h1, h2⟩ := r.get h
      exact ⟨v, by rw [hl] at h1; exact h1, h2⟩
    · rw [if_neg hn] at h; cases h
theorem ixD_atN {α : Type} {xs : List α} {i : Int} {z : α} (h : ixD xs i = some z) : atI xs i = some z := by
  unfold ixD at h
  unfold atI ixN
  by_cases h0 : 0 ≤ i
  · rw [if_pos h0] at h ⊢
    have := (List.getElem?_eq_some_iff.mp h).1
    rw [if_pos (by omega)]
    exact h
  · rw [if_neg h0] at h ⊢
    by_cases hn : -(xs.length : Int) ≤ i
    · rw [if_pos hn] at h ⊢
      exact h
    · rw [if_neg hn] at h; cases h
theorem o_ix (hK : c.K = X.K) : Op2 c (rIx X.K) fIx := by
  intro pn F e σ H P d d' n z x y Q R sx sy hf q
  rw [← hK]
  cases d' with
  | int i =>
    have sy : y = .int i := sy
    subst sy
    cases d with
    | box k ds =>
      obtain ⟨a, vs, rfl, s1, s2, s3, s4⟩ := sx
      cases k with
      | lst =>
        have hf : (ixD ds i).map (fun d => ((0, d) : Vl)) = some (n, z) := hf
        cases hi : ixD ds i with
        | none => rw [hi] at hf; cases hf
        | some d =>
          rw [hi] at hf
          cases hf
          obtain ⟨v, h1, h2⟩ := ixD_at s3 hi
          exact .inl ⟨a, vs, i, v, rfl, rfl, SqL.of s1, h1, sc R q rfl h2⟩
      | tup =>
        have hf : (ixD ds i).map (fun d => ((0, d) : Vl)) = some (n, z) := hf
        cases hi : ixD ds i with
        | none => rw [hi] at hf; cases hf
        | some d =>
          rw [hi] at hf
          cases hf
          obtain ⟨v, h1, h2⟩ := ixD_at s3 hi
          exact .inr (.inl ⟨a, vs, i, v, rfl, rfl, TupS.sq s1, h1, sc R q rfl h2⟩)
      | _ => cases hf
    | str t =>
      have sx : x = .str t := sx
      subst sx
      have hf : (if t.length ≤ sLine then (ixD t.cps.toList i).map (fun c => ((0, .str ⟨#[c]⟩) : Vl)) else none) = some (n, z) := hf
      split at hf
      · rename_i hl
        cases hi : ixD t.cps.toList i with
        | none => rw [hi] at hf; cases hf
        | some k =>
          rw [hi] at hf
          cases hf
          exact .inr (.inr ⟨t, i, k, rfl, rfl, hl, ixD_atN hi, sc R q rfl rfl⟩)
      · cases hf
    | _ => cases hf
  | _ => cases d with
    | box k ds => cases k <;> cases hf
    | _ => cases hf
theorem ok_ix {f : D → D → Option Vl} {r : R2} {a b : Expr} {ma mb : M Item} {pos : Pos} (hr : IxR X r) (o : Op2 c r f) (ha : OkO X c pn W a ma) (hb : OkO X c pn W b mb) (hs : PlainIx b) : OkV X c pn W (.Subscript a b pos) (op2 f ma mb) :=
  ⟨PE.imp (pe_ix hr ha.ok hb.ok hs) fun _ _ _ h => op2_rd o h⟩
/-! ### slices -/
theorem reps_drop : ∀ (n : Nat) {ds : List D} {vs : List V}, Reps c.K c.C F ds vs → Reps c.K c.C F (ds.drop n) (vs.drop n)
  | 0, _, _, h => h
  | n + 1, [], vs, h => by
    have h : vs = [] := h
    subst h; rfl
  | n + 1, _ :: _, _, ⟨v, ws, e, _, h⟩ => by subst e; exact reps_drop n h
theorem reps_take : ∀ (n : Nat) {ds : List D} {vs : List V}, Reps c.K c.C F ds vs → Reps c.K c.C F (ds.take n) (vs.take n)
  | 0, _, _, _ => rfl
  | n + 1, [], vs, h => by
    have h : vs = [] := h
    subst h; rfl
  | n + 1, _ :: _, _, ⟨v, ws, e, h1, h⟩ => by subst e; exact ⟨v, _, rfl, h1, reps_take n h⟩
theorem sIx_eq (n d : Nat) (o : Option Int) : HT.sIx n d o = sIxD n d o := by cases o <;> rfl
theorem reps_cut {ds : List D} {vs : List V} {lo hi : Option Int} (r : Reps c.K c.C F ds vs) : Reps c.K c.C F (cutD ds lo hi) (cutV vs lo hi) := by
  unfold cutD cutV
  rw [sIx_eq, sIx_eq, ← r.length]
  exact reps_take _ (reps_drop _ r)
theorem cut_len {ds : List D} {lo hi : Option Int} : (cutD ds lo hi).length ≤ ds.length := by
  unfold cutD
  rw [List.length_take, List.length_drop]
  omega
theorem cut_whole {ds : List D} {lo hi : Option Int} (h : sIxD ds.length 0 lo = 0 ∧ sIxD ds.length ds.length hi = ds.length) : cutD ds lo hi = ds := by
  unfold cutD
  rw [h.1, h.2]
  simp
def rSlX (K : PySem.W.Frag) : V → Option Int → Option Int → Hp → VK → Prop := fun x lo hi H Q => rSlL K x lo hi H Q ∨ rSlZ K x lo hi H Q
inductive OkPart (X : Cx) (c : Ctx) (pn : Pins) (W : WX) : Option Expr → Option (M Item) → Prop
  | none : OkPart X c pn W none none
  | some {a : Expr} {m : M Item} (h : OkO X c pn W a m) : OkPart X c pn W (some a) (some m)
def tPt (c : Ctx) (pn : Pins) (W : WX) : Option (M Item) → TO
  | none => tNoPart
  | some m => tPart (rdO c pn W m)
theorem opart {o : Option Expr} {m : Option (M Item)} (h : OkPart X c pn W o m) : PO X o (tPt c pn W m) := by
  cases h with
  | none => exact po_none
  | some h => exact po_some h.ok
theorem ok_cut {a : Expr} {lo hi : Option Expr} {ma : M Item} {ml mh : Option (M Item)} {pos p2 : Pos} (hK : c.K = X.K) (ha : OkO X c pn W a ma) (hl : OkPart X c pn W lo ml) (hh : OkPart X c pn W hi mh) :
    OkV X c pn W (.Subscript a (.Slice lo hi none p2) pos) (vCut ma ml mh) := by
  refine ⟨PE.imp (pe_slice (r := rSlX X.K) (SlR.or sl_list sl_tupZ) ha.ok (opart hl) (opart hh)) fun σ H Q ⟨F, e, P, R, q⟩ => ⟨F, e, P, R, ?_⟩⟩
  refine chV (R := fun F x v => IRel c F σ x v) q fun x e1 v F1 H1 l1 R1 i1 q1 => ?_
  have part : ∀ {m : Option (M Item)} {f : Option Int → M Vl} {F1 H1 : Hp} {e1 : Env} {Q1 : Option Int → Hp → Prop}, Rel c pn F1 e1 σ H1 P →
      PoV c pn W σ P F1 H1 Q (bnd (oPart m) f e1) → (∀ l e2 F2 H2, Later F1 H1 F2 H2 P → Rel c pn F2 e2 σ H2 P → PoV c pn W σ P F2 H2 Q (f l e2) → Q1 l H2) → tPt c pn W m σ H1 Q1 := by
    intro m f F1 H1 e1 Q1 R1 q1 k
    cases m with
    | none => exact k none e1 F1 H1 .rfl R1 q1
    | some m =>
      have q1 : PoV c pn W σ P F1 H1 Q (bnd m (fun x => bnd (res x) (fun d => bnd (opt (intO d)) (fun i => f (some i)))) e1) := by
        have e : bnd (oPart (some m)) f e1 = bnd m (fun x => bnd (res x) (fun d => bnd (opt (intO d)) (fun i => f (some i)))) e1 := by
          show bnd (bnd m fun x => bnd (res x) fun d => bnd (opt (intO d)) fun i => ret (some i)) f e1 = _
          unfold bnd
          cases m e1 with
          | ok x e2 =>
            dsimp only
            cases res x e2 with
            | ok d e3 =>
              dsimp only
              cases intO d <;> rfl
            | exc _ _ _ _ => rfl
            | stuck => rfl
          | exc _ _ _ _ => rfl
          | stuck => rfl
        rw [← e]; exact q1
      refine ⟨F1, e1, P, R1, chV (R := fun F x v => IRel c F σ x v) q1 fun y e2 w F2 H2 l2 R2 i2 q2 => ?_⟩
      obtain ⟨F3, d, e3, l3, s3, R3, q3⟩ := chResV q2 R2 i2
      cases d with
      | int i => exact ⟨i, s3, k (some i) e3 F3 H2 (l2.trans l3) R3 q3⟩
      | _ => exact q3.elim
  refine part R1 q1 fun l e2 F2 H2 l2 R2 q2 => ?_
  refine part R2 q2 fun h e3 F3 H3 l3 R3 q3 => ?_
  obtain ⟨F4, d, e4, l4, s4, R4, q4⟩ := chResV q3 R3 (i1.mono (l2.F.trans l3.F))
  rw [← hK]
  cases d with
  | box k ds =>
    obtain ⟨a, vs, rfl, s1, s2, s3, s5⟩ := s4
    cases k with
    | lst =>
      refine .inl ⟨a, vs, rfl, SqL.of s1, fun p hp => ?_⟩
      obtain ⟨ll, r⟩ := new_own (o := .lst (cutV vs l h)) (h := .lst) R4 hp (fun z => nomatch z) upd_same (Nat.le_trans cut_len s2) (reps_cut s3)
      exact q4 _ F4 _ ll r
    | tup =>
      refine .inr ⟨a, vs, rfl, TupS.sq s1, fun hw => ?_, fun hw p o ho hp => ?_⟩
      · rw [sIx_eq, sIx_eq, ← s3.length] at hw
        have q4 : PoV c pn W σ P F4 H3 Q (.ok (0, .tup (cutD ds l h)) e4) := q4
        rw [cut_whole hw] at q4
        exact PoV.val q4 (RelV.zero R4 ⟨a, vs, rfl, s5 rfl, s2, s3⟩)
      · obtain ⟨F', ll, r⟩ := new_tup R4 ho hp (Nat.le_trans cut_len s2) (reps_cut (lo := l) (hi := h) s3)
        exact q4 _ F' _ ll r
    | _ => exact q4.elim
  | _ => exact q4.elim
/-! ### built-ins -/
theorem shs1 {ds : List D} {xs : List V} {d : D} (h : Shs c F H ds xs) (e : ds = [d]) : ∃ v, xs = [v] ∧ Sh c F H d v := by
  subst e
  obtain ⟨v, ws, e, h1, h2⟩ := h
  have h2 : ws = [] := h2
  subst h2
  exact ⟨v, e, h1⟩
def rLenA (K : PySem.W.Frag) : List V → Hp → VK → Prop := fun xs H Q => (∃ p ys, xs = [.ref p] ∧ (SqL K H p ys ∨ SqT K H p ys) ∧ Q (.int ys.length) H) ∨ ((∃ z, xs = [.str z] ∧ z.length ≤ sizeLine ∧ Q (.int z.length) H) ∨ (∃ d kvs, xs = [.ref d] ∧ H d = some (.dK kvs) ∧ Q (.int (kvs.length : Nat)) H))
theorem call_lenDK : CallR X (.builtin "len") (fun xs H Q => ∃ d kvs, xs = [.ref d] ∧ H d = some (.dK kvs) ∧ Q (.int (kvs.length : Nat)) H) := by
  intro pins s σ H xs us Q I r h
  obtain ⟨d, kvs, rfl, hd, q⟩ := h
  obtain ⟨u, rfl, r1⟩ := vals1 r
  cases r1
  exact d_len I (.inl hd) fun t s' I' => ⟨.int _, H, I', ⟨t, rfl⟩, q⟩
theorem cr_lenA : CallR X (.builtin "len") (rLenA X.K) := CallR.or call_len_seq (CallR.or call_len_str call_lenDK)
theorem o_len (hK : c.K = X.K) : OpN c (rLenA X.K) fLen := by
  intro pn F e σ H P ds n z xs Q R s hf q
  rw [← hK]
  match ds, s, hf with
  | [.box .lst ds], s, hf =>
    obtain ⟨v, rfl, a, vs, rfl, s1, s2, s3, _⟩ := shs1 s rfl
    cases hf
    refine .inl ⟨a, vs, rfl, .inl (SqL.of s1), ?_⟩
    rw [← s3.length]
    exact sc R q rfl rfl
  | [.box .tup ds], s, hf =>
    obtain ⟨v, rfl, a, vs, rfl, s1, s2, s3, _⟩ := shs1 s rfl
    cases hf
    refine .inl ⟨a, vs, rfl, .inr (TupS.sq s1), ?_⟩
    rw [← s3.length]
    exact sc R q rfl rfl
  | [.box (.dK ks) ds], s, hf =>
    obtain ⟨v, rfl, a, vs, rfl, s1, s2, s3, _⟩ := shs1 s rfl
    cases hf
    refine .inr (.inr ⟨a, _, rfl, s1.1, ?_⟩)
    have e : (ks.zip vs).length = ks.length := by rw [List.length_zip, s1.2]; omega
    rw [e]
    exact sc R q rfl rfl
  | [.str t], s, hf =>
    obtain ⟨v, rfl, s1⟩ := shs1 s rfl
    have s1 : v = .str t := s1
    subst s1
    have hf : (if t.length ≤ sLine then vInt t.length else none) = some (n, z) := hf
    split at hf
    · rename_i hl
      cases hf
      exact .inr (.inl ⟨t, rfl, hl, sc R q rfl rfl⟩)
    · cases hf
  | [], _, hf => cases hf
  | [.non], _, hf => cases hf
  | [.bl _], _, hf => cases hf
  | [.int _], _, hf => cases hf
  | [.box (.dT _) _], _, hf => cases hf
  | [.box (.ins _ _) _], _, hf => cases hf
  | [.scr _], _, hf => cases hf
  | _ :: _ :: _, _, hf => simp [fLen] at hf
theorem bls_of : ∀ {ds : List D} {vs : List V} {bs : List Bool}, blsOf ds = some bs → Reps c.K c.C F ds vs → vs = bs.map V.bl
  | [], vs, bs, h, r => by
    cases h
    exact r
  | .bl b :: ds, vs, bs, h, ⟨v, ws, e, r1, r2⟩ => by
    subst e
    unfold blsOf at h
    cases q : blsOf ds with
    | none => rw [q] at h; cases h
    | some bs' =>
      rw [q] at h
      cases h
      have r1 : v = .bl b := r1
      rw [r1, bls_of q r2]; rfl
  | .non :: _, _, _, h, _ => by cases h
  | .int _ :: _, _, _, h, _ => by cases h
  | .str _ :: _, _, _, h, _ => by cases h
  | .box _ _ :: _, _, _, h, _ => by cases h
  | .scr _ :: _, _, _, h, _ => by cases h
theorem o_all (hK : c.K = X.K) : OpN c (rAll X.K) fAll := by
  intro pn F e σ H P ds n z xs Q R s hf q
  rw [← hK]
  match ds, s, hf with
  | [.box .lst ds], s, hf =>
    obtain ⟨v, rfl, a, vs, rfl, s1, s2, s3, _⟩ := shs1 s rfl
    have hf : (blsOf ds).map (fun bs => ((0, .bl (bs.all id)) : Vl)) = some (n, z) := hf
    cases hb : blsOf ds with
    | none => rw [hb] at hf; cases hf
    | some bs =>
      rw [hb] at hf
      cases hf
      have e := bls_of hb s3
      subst e
      exact ⟨a, bs, rfl, SqL.of s1, sc R q rfl rfl⟩
  | [], _, hf => cases hf
  | [.non], _, hf => cases hf
  | [.bl _], _, hf => cases hf
  | [.int _], _, hf => cases hf
  | [.str _], _, hf => cases hf
  | [.box .tup _], _, hf => cases hf
  | [.box (.dK _) _], _, hf => cases hf
  | [.box (.dT _) _], _, hf => cases hf
  | [.box (.ins _ _) _], _, hf => cases hf
  | [.scr _], _, hf => cases hf
  | _ :: _ :: _, _, hf => simp [fAll] at hf
theorem o_any (hK : c.K = X.K) : OpN c (rAny X.K) fAny := by
  intro pn F e σ H P ds n z xs Q R s hf q
  rw [← hK]
  match ds, s, hf with
  | [.box .lst ds], s, hf =>
    obtain ⟨v, rfl, a, vs, rfl, s1, s2, s3, _⟩ := shs1 s rfl
    have hf : (blsOf ds).map (fun bs => ((0, .bl (bs.any id)) : Vl)) = some (n, z) := hf
    cases hb : blsOf ds with
    | none => rw [hb] at hf; cases hf
    | some bs =>
      rw [hb] at hf
      cases hf
      have e := bls_of hb s3
      subst e
      exact ⟨a, bs, rfl, SqL.of s1, sc R q rfl rfl⟩
  | [], _, hf => cases hf
  | [.non], _, hf => cases hf
  | [.bl _], _, hf => cases hf
  | [.int _], _, hf => cases hf
  | [.str _], _, hf => cases hf
  | [.box .tup _], _, hf => cases hf
  | [.box (.dK _) _], _, hf => cases hf
  | [.box (.dT _) _], _, hf => cases hf
  | [.box (.ins _ _) _], _, hf => cases hf
  | [.scr _], _, hf => cases hf
  | _ :: _ :: _, _, hf => simp [fAny] at hf
end
end Mini

set_option Elab.async false
set_option linter.all false
set_option maxRecDepth 100000
/-! MOps3: isinstance. -/
namespace Mini
open PySem L2
/-- what isinstance asks of an own class -/
structure IsC (K : PySem.W.Frag) (C : CT) (k : Nat) : Prop where
  ty : PySem.W.typeIn K (.ref (C.a k)) = some (.type "type")
  cd : ∃ cd, PySem.W.clsIn K (C.a k) = some cd
  sub : ∀ j, j < C.n → PySem.W.mroIn K (C.a j) (.ref (C.a k)) = some (j == k)
  bt : ∀ T ∈ ["int", "bool", "str", "list", "tuple", "dict"], PySem.W.mroIn K (C.a k) (.type T) = some false
section
variable {X : Cx} {c : Ctx} {pn : Pins} {W : WX} {F H : Hp} {e : Env} {σ : St} {P : Addr → Prop}
def tyV' (C : CT) : D → Option Value
  | .non => some (.type "NoneType")
  | .bl _ => some (.type "bool")
  | .int _ => some (.type "int")
  | .str _ => some (.type "str")
  | .box .lst _ => some (.type "list")
  | .box .tup _ => some (.type "tuple")
  | .box (.dK _) _ => some (.type "dict")
  | .box (.dT _) _ => none
  | .box (.ins k _) _ => some (.ref (C.a k))
  | .scr _ => none
theorem tyx_of {d : D} {v : V} {t : Value} (s : Sh c F H d v) (same : Same F H) (h : tyV' c.C d = some t) : TyX c.K H v t := by
  cases d with
  | non => cases h; have s : v = .non := s; subst s; exact .base .non
  | bl b => cases h; have s : v = .bl b := s; subst s; exact .base (.bl b)
  | int b => cases h; have s : v = .int b := s; subst s; exact .base (.int b)
  | str b => cases h; have s : v = .str b := s; subst s; exact .base (.str b)
  | scr _ => cases h
  | box hd ds =>
    obtain ⟨a, vs, rfl, s1, s2, s3, s4⟩ := s
    cases hd with
    | lst => cases h; exact .base (.lst s1)
    | tup =>
      cases h
      rcases s1 with ⟨o, s1, _⟩ | ⟨o, its, n, k1, k2, _⟩
      · exact .fTuple s1
      · exact .kTuple k1 k2
    | dK ks => cases h; exact .base (.dK s1.1)
    | dT ks => cases h
    | ins k ns =>
      cases h
      obtain ⟨⟨⟨dx, q⟩, g⟩, l⟩ := s1
      exact .base (.ins q g.cls g.ha g.hn g.htk g.hm)
def clV (C : CT) : Ty → Value
  | .int => .type "int"
  | .bool => .type "bool"
  | .str => .type "str"
  | .list => .type "list"
  | .tuple => .type "tuple"
  | .dict => .type "dict"
  | .own k => .ref (C.a k)
def clN : Ty → String
  | .int => "int"
  | .bool => "bool"
  | .str => "str"
  | .list => "list"
  | .tuple => "tuple"
  | .dict => "dict"
  | .own _ => ""
theorem kit_own {K : PySem.W.Frag} {C : CT} {k : Nat} (g : IsC K C k) {t : Value} {b : Bool} (hne : (t == .ref (C.a k)) = b) (hs : b = false → PySem.W.subIn K t (.ref (C.a k)) = some false) : PySem.W.kitOne K t (.ref (C.a k)) = some b := by
  unfold PySem.W.kitOne
  cases b with
  | true => rw [if_pos hne]
  | false =>
    rw [if_neg (by rw [hne]; exact Bool.false_ne_true)]
    obtain ⟨cd, hcd⟩ := g.cd
    show (if ((PySem.W.clsIn K (C.a k)).isSome && PySem.W.typeIn K (.ref (C.a k)) == some (.type "type")) = true then PySem.W.subIn K t (.ref (C.a k)) else none) = some false
    rw [hcd, g.ty, if_pos (by rfl)]
    exact hs rfl
theorem kit_obj {K : PySem.W.Frag} {C : CT} {k : Nat} {T : String} (hT : T ∈ ["int", "bool", "str", "list", "tuple", "dict"]) (g : IsC K C k) : PySem.W.kitOne K (.ref (C.a k)) (.type T) = some false := by
  unfold PySem.W.kitOne
  rw [if_neg (by exact fun z => nomatch (eq_of_beq z))]
  show (if PySem.W.kitMeta T = true then PySem.W.mroIn K (C.a k) (.type T) else none) = some false
  rw [g.bt T hT, if_pos]
  simp only [List.mem_cons, List.mem_nil_iff, or_false] at hT
  rcases hT with rfl | rfl | rfl | rfl | rfl | rfl <;> decide +kernel
theorem sub_ty {K : PySem.W.Frag} {a : Addr} {T : String} (h : T ∈ ["NoneType", "int", "bool", "str", "list", "tuple", "dict"]) : PySem.W.subIn K (.type T) (.ref a) = some false := by
  have key : ∀ l : List Value, (∀ x ∈ l, ∃ n, x = .type n) → l.contains (.ref a) = false := by
    intro l
    induction l with
    | nil => intro _; rfl
    | cons x l ih =>
      intro h
      obtain ⟨n, rfl⟩ := h x List.mem_cons_self
      rw [List.contains_cons, ih fun y hy => h y (List.mem_cons_of_mem _ hy)]
      rw [Bool.or_false]
      exact beq_eq_false_iff_ne.mpr fun z => nomatch z
  have go : ∀ (ns : List String), PySem.fastBuiltinMro T = some (ns.map .type) → PySem.W.subIn K (.type T) (.ref a) = some false := by
    intro ns e
    show (PySem.fastBuiltinMro T).map (·.contains (.ref a)) = _
    rw [e, Option.map_some, key _ fun x hx => by
      obtain ⟨n, _, rfl⟩ := List.mem_map.mp hx
      exact ⟨n, rfl⟩]
  simp only [List.mem_cons, List.mem_nil_iff, or_false] at h
  rcases h with rfl | rfl | rfl | rfl | rfl | rfl | rfl
  · exact go ["NoneType", "object"] (by decide +kernel)
  · exact go ["int", "object"] (by decide +kernel)
  · exact go ["bool", "int", "object"] (by decide +kernel)
  · exact go ["str", "object"] (by decide +kernel)
  · exact go ["list", "object"] (by decide +kernel)
  · exact go ["tuple", "object"] (by decide +kernel)
  · exact go ["dict", "object"] (by decide +kernel)
def okTy (C : CT) : Ty → Prop
  | .own k => k < C.n
  | _ => True
theorem kit_all (I : ∀ k, k < c.C.n → IsC c.K c.C k) {T : Ty} {d : D} {v : V} {b : Bool} (s : Sh c F H d v) (hT : okTy c.C T) (h : isTy T d = some b) : ∃ t, tyV' c.C d = some t ∧ PySem.W.kitOne c.K t (clV c.C T) = some b := by
  cases T with
  | own k =>
    have g := I k hT
    cases d with
    | non => cases h; exact ⟨_, rfl, kit_own g rfl fun _ => sub_ty (by decide)⟩
    | bl _ => cases h; exact ⟨_, rfl, kit_own g rfl fun _ => sub_ty (by decide)⟩
    | int _ => cases h; exact ⟨_, rfl, kit_own g rfl fun _ => sub_ty (by decide)⟩
    | str _ => cases h; exact ⟨_, rfl, kit_own g rfl fun _ => sub_ty (by decide)⟩
    | scr _ => cases h
    | box hd ds =>
      cases hd with
      | lst => cases h; exact ⟨_, rfl, kit_own g rfl fun _ => sub_ty (by decide)⟩
      | tup => cases h; exact ⟨_, rfl, kit_own g rfl fun _ => sub_ty (by decide)⟩
      | dK _ => cases h; exact ⟨_, rfl, kit_own g rfl fun _ => sub_ty (by decide)⟩
      | dT _ => cases h
      | ins j ns =>
        have h : some (k == j) = some b := h
        cases h
        obtain ⟨a, vs, rfl, ⟨⟨_, gj⟩, _⟩, _⟩ := s
        refine ⟨_, rfl, ?_⟩
        by_cases e : k = j
        · subst e
          exact kit_own g (by simp) fun z => by simp at z
        · have e1 : (k == j) = false := beq_eq_false_iff_ne.mpr e
          rw [e1]
          have e2 : (j == k) = false := beq_eq_false_iff_ne.mpr fun z => e z.symm
          have hs : PySem.W.mroIn c.K (c.C.a j) (.ref (c.C.a k)) = some false := by rw [g.sub j gj.lt, e2]
          refine kit_own g (beq_eq_false_iff_ne.mpr fun z => ?_) fun _ => hs
          have q : c.C.a j = c.C.a k := by injection (eq_of_beq (beq_iff_eq.mpr z))
          have hk := g.sub k hT
          rw [q, hk] at hs
          simp at hs
  | int =>
    cases d with
    | non => cases h; exact ⟨_, rfl, kit_ty (by decide +kernel)⟩
    | bl _ => cases h; exact ⟨_, rfl, kit_ty (by decide +kernel)⟩
    | int _ => cases h; exact ⟨_, rfl, kit_ty (by decide +kernel)⟩
    | str _ => cases h; exact ⟨_, rfl, kit_ty (by decide +kernel)⟩
    | scr _ => cases h
    | box hd ds =>
      cases hd with
      | lst => cases h; exact ⟨_, rfl, kit_ty (by decide +kernel)⟩
      | tup => cases h; exact ⟨_, rfl, kit_ty (by decide +kernel)⟩
      | dK _ => cases h; exact ⟨_, rfl, kit_ty (by decide +kernel)⟩
      | dT _ => cases h
      | ins j ns =>
        cases h
        obtain ⟨a, vs, rfl, ⟨⟨_, gj⟩, _⟩, _⟩ := s
        exact ⟨_, rfl, kit_obj (by decide) (I j gj.lt)⟩
  | bool =>
    cases d with
    | non => cases h; exact ⟨_, rfl, kit_ty (by decide +kernel)⟩
    | bl _ => cases h; exact ⟨_, rfl, kit_ty (by decide +kernel)⟩
    | int _ => cases h; exact ⟨_, rfl, kit_ty (by decide +kernel)⟩
    | str _ => cases h; exact ⟨_, rfl, kit_ty (by decide +kernel)⟩
    | scr _ => cases h
    | box hd ds =>
      cases hd with
      | lst => cases h; exact ⟨_, rfl, kit_ty (by decide +kernel)⟩
      | tup => cases h; exact ⟨_, rfl, kit_ty (by decide +kernel)⟩
      | dK _ => cases h; exact ⟨_, rfl, kit_ty (by decide +kernel)⟩
      | dT _ => cases h
      | ins j ns =>
        cases h
        obtain ⟨a, vs, rfl, ⟨⟨_, gj⟩, _⟩, _⟩ := s
        exact ⟨_, rfl, kit_obj (by decide) (I j gj.lt)⟩
  | str =>
    cases d with
    | non => cases h; exact ⟨_, rfl, kit_ty (by decide +kernel)⟩
    | bl _ => cases h; exact ⟨_, rfl, kit_ty (by decide +kernel)⟩
    | int _ => cases h; exact ⟨_, rfl, kit_ty (by decide +kernel)⟩
    | str _ => cases h; exact ⟨_, rfl, kit_ty (by decide +kernel)⟩
    | scr _ => cases h
    | box hd ds =>
      cases hd with
      | lst => cases h; exact ⟨_, rfl, kit_ty (by decide +kernel)⟩
      | tup => cases h; exact ⟨_, rfl, kit_ty (by decide +kernel)⟩
      | dK _ => cases h; exact ⟨_, rfl, kit_ty (by decide +kernel)⟩
      | dT _ => cases h
      | ins j ns =>
        cases h
        obtain ⟨a, vs, rfl, ⟨⟨_, gj⟩, _⟩, _⟩ := s
        exact ⟨_, rfl, kit_obj (by decide) (I j gj.lt)⟩
  | list =>
    cases d with
    | non => cases h; exact ⟨_, rfl, kit_ty (by decide +kernel)⟩
    | bl _ => cases h; exact ⟨_, rfl, kit_ty (by decide +kernel)⟩
    | int _ => cases h; exact ⟨_, rfl, kit_ty (by decide +kernel)⟩
    | str _ => cases h; exact ⟨_, rfl, kit_ty (by decide +kernel)⟩
    | scr _ => cases h
    | box hd ds =>
      cases hd with
      | lst => cases h; exact ⟨_, rfl, kit_ty (by decide +kernel)⟩
      | tup => cases h; exact ⟨_, rfl, kit_ty (by decide +kernel)⟩
      | dK _ => cases h; exact ⟨_, rfl, kit_ty (by decide +kernel)⟩
      | dT _ => cases h
      | ins j ns =>
        cases h
        obtain ⟨a, vs, rfl, ⟨⟨_, gj⟩, _⟩, _⟩ := s
        exact ⟨_, rfl, kit_obj (by decide) (I j gj.lt)⟩
  | tuple =>
    cases d with
    | non => cases h; exact ⟨_, rfl, kit_ty (by decide +kernel)⟩
    | bl _ => cases h; exact ⟨_, rfl, kit_ty (by decide +kernel)⟩
    | int _ => cases h; exact ⟨_, rfl, kit_ty (by decide +kernel)⟩
    | str _ => cases h; exact ⟨_, rfl, kit_ty (by decide +kernel)⟩
    | scr _ => cases h
    | box hd ds =>
      cases hd with
      | lst => cases h; exact ⟨_, rfl, kit_ty (by decide +kernel)⟩
      | tup => cases h; exact ⟨_, rfl, kit_ty (by decide +kernel)⟩
      | dK _ => cases h; exact ⟨_, rfl, kit_ty (by decide +kernel)⟩
      | dT _ => cases h
      | ins j ns =>
        cases h
        obtain ⟨a, vs, rfl, ⟨⟨_, gj⟩, _⟩, _⟩ := s
        exact ⟨_, rfl, kit_obj (by decide) (I j gj.lt)⟩
  | dict =>
    cases d with
    | non => cases h; exact ⟨_, rfl, kit_ty (by decide +kernel)⟩
    | bl _ => cases h; exact ⟨_, rfl, kit_ty (by decide +kernel)⟩
    | int _ => cases h; exact ⟨_, rfl, kit_ty (by decide +kernel)⟩
    | str _ => cases h; exact ⟨_, rfl, kit_ty (by decide +kernel)⟩
    | scr _ => cases h
    | box hd ds =>
      cases hd with
      | lst => cases h; exact ⟨_, rfl, kit_ty (by decide +kernel)⟩
      | tup => cases h; exact ⟨_, rfl, kit_ty (by decide +kernel)⟩
      | dK _ => cases h; exact ⟨_, rfl, kit_ty (by decide +kernel)⟩
      | dT _ => cases h
      | ins j ns =>
        cases h
        obtain ⟨a, vs, rfl, ⟨⟨_, gj⟩, _⟩, _⟩ := s
        exact ⟨_, rfl, kit_obj (by decide) (I j gj.lt)⟩
theorem kitA {t : Value} (I : ∀ k, k < c.C.n → IsC c.K c.C k) {d : D} {v : V} (s : Sh c F H d v) (ht : tyV' c.C d = some t) : ∀ {ts : List Ty} {b : Bool}, (∀ T ∈ ts, okTy c.C T) → tyAny ts d = some b → PySem.W.kitAny c.K t (ts.map (clV c.C)) = some b
  | [], _, _, h => by cases h; rfl
  | T :: ts, b, hT, h => by
    have h : (isTy T d).bind (fun b => if b then some true else tyAny ts d) = some b := h
    cases h1 : isTy T d with
    | none => rw [h1] at h; cases h
    | some b1 =>
      rw [h1] at h
      obtain ⟨t', e1, e2⟩ := kit_all I s (hT T List.mem_cons_self) h1
      rw [ht] at e1
      cases e1
      show (match PySem.W.kitOne c.K t (clV c.C T) with
        | some true => some true
        | some false => PySem.W.kitAny c.K t (ts.map (clV c.C))
        | none => none) = some b
      rw [e2]
      cases b1 with
      | true => cases h; rfl
      | false => exact kitA I s ht (fun T m => hT T (List.mem_cons_of_mem _ m)) h
theorem ty_some {T : Ty} {d : D} {b : Bool} (h : isTy T d = some b) : ∃ t, tyV' c.C d = some t := by
  cases d with
  | scr _ => cases T <;> cases h
  | box hd ds =>
    cases hd with
    | dT _ => cases T <;> cases h
    | _ => exact ⟨_, rfl⟩
  | _ => exact ⟨_, rfl⟩
/-- an expression that names a class -/
structure OkTy (X : Cx) (c : Ctx) (e : Expr) (T : Ty) : Prop where
  ok : ∃ v, ClsV v (clV c.C T) ∧ PE X e (tC v)
  lt : okTy c.C T
theorem oy_ty {x : Str} {pos : Pos} (T : Ty) (hm : X.mg x = none) (hv : bootBuiltins x = some (.type (clN T))) (hT : clV c.C T = .type (clN T)) (hl : okTy c.C T) (hg : Gl X x := by rfl) (hn : x ≠ "__name__" := by decide) (hd : (x == ("__debug__" : Str)) = false := by decide) : OkTy X c (.Name x pos) T :=
  ⟨⟨.ty (clN T), by rw [hT]; exact .ty _, pe_bltn hg hm hv rfl hn hd⟩, hl⟩
theorem oy_own {x : Str} {pos : Pos} {k : Nat} (hm : X.mg x = some (.ref (c.C.a k))) (hl : k < c.C.n) (hg : Gl X x := by rfl) (hd : (x == ("__debug__" : Str)) = false := by decide) : OkTy X c (.Name x pos) (.own k) :=
  ⟨⟨.ref (c.C.a k), .own _, pe_glob hg hm rfl hd⟩, hl⟩
/-- isinstance(x, T) -/
theorem ok_isi {a t : Expr} {p pos : Pos} {T : Ty} {m : M Item} (hK : c.K = X.K) (I : ∀ k, k < c.C.n → IsC c.K c.C k) (hm : X.mg "isinstance" = none) (ha : OkO X c pn W a m) (ht : OkTy X c t T) (hg : Gl X "isinstance" := by rfl)
    (h1 : starEach [a, t] X.env = (false, eval a X.env) :: starEach [t] X.env := by rfl) (h2 : starEach [t] X.env = (false, eval t X.env) :: starEach [] X.env := by rfl) (hpl : (backTo pos (starEach [t] X.env)).any (·.1) = false := by rfl) :
    OkV X c pn W (.Call (.Name "isinstance" p) [a, t] [] pos) (vIsI [T] m) := by
  obtain ⟨v, cv, pt⟩ := ht.ok
  refine ⟨PE.imp (pe_callB call_isi hg hm (by rfl) (pa_cons ha.ok (pa_cons pt pa_nil h2) h1) (by decide) (by decide) h1 hpl) fun σ H Q ⟨F, e, P, R, q⟩ => ⟨F, e, P, R, ?_⟩⟩
  refine chV (R := fun F x v => IRel c F σ x v) q fun x e1 u F1 H1 l1 R1 i1 q1 => ?_
  obtain ⟨F3, d, e3, l3, s3, R3, q3⟩ := chResV q1 R1 i1
  dsimp only at q3
  cases hf : tyAny [T] d with
  | none => rw [hf] at q3; exact q3.elim
  | some b =>
    rw [hf] at q3
    cases hb : isTy T d with
    | none => unfold tyAny at hf; rw [hb] at hf; cases hf
    | some b1 =>
      obtain ⟨t1, e1', e2⟩ := kit_all I s3 ht.lt hb
      have eb : b1 = b := by
        unfold tyAny at hf
        rw [hb] at hf
        cases b1 <;> (cases hf; rfl)
      subst eb
      refine ⟨u, v, t1, clV c.C T, b1, rfl, cv, by rw [← hK]; exact tyx_of s3 R3.same e1', by rw [← hK]; exact e2, ?_⟩
      exact PoV.val q3 (RelV.zero R3 rfl)
/-- isinstance(x, (T, U)) -/
theorem ok_isi2 {a t u : Expr} {p pos tpos : Pos} {x1} {T U : Ty} {m : M Item} (hK : c.K = X.K) (I : ∀ k, k < c.C.n → IsC c.K c.C k) (hm : X.mg "isinstance" = none) (ha : OkO X c pn W a m) (ht : OkTy X c t T) (hu : OkTy X c u U) (hg : Gl X "isinstance" := by rfl)
    (h1 : starEach [a, .Tuple [t, u] x1 tpos] X.env = (false, eval a X.env) :: starEach [.Tuple [t, u] x1 tpos] X.env := by rfl) (h2 : starEach [.Tuple [t, u] x1 tpos] X.env = (false, eval (.Tuple [t, u] x1 tpos) X.env) :: starEach [] X.env := by rfl)
    (h3 : starEach [t, u] X.env = (false, eval t X.env) :: starEach [u] X.env := by rfl) (h4 : starEach [u] X.env = (false, eval u X.env) :: starEach [] X.env := by rfl)
    (hpl : (backTo pos (starEach [.Tuple [t, u] x1 tpos] X.env)).any (·.1) = false := by rfl) :
    OkV X c pn W (.Call (.Name "isinstance" p) [a, .Tuple [t, u] x1 tpos] [] pos) (vIsI [T, U] m) := by
  obtain ⟨v, cv, pt⟩ := ht.ok
  obtain ⟨v', cv', pu⟩ := hu.ok
  refine ⟨PE.imp (pe_callB call_isiT hg hm (by rfl) (pa_cons ha.ok (pa_cons (pe_tup (pa_cons pt (pa_cons pu pa_nil h4) h3)) pa_nil h2) h1) (by decide) (by decide) h1 hpl) fun σ H Q ⟨F, e, P, R, q⟩ => ⟨F, e, P, R, ?_⟩⟩
  refine chV (R := fun F x v => IRel c F σ x v) q fun x e1 w F1 H1 l1 R1 i1 q1 => ?_
  refine ⟨by show 2 ≤ sizeLine; decide, fun l hl => ?_⟩
  have R1' := R1.grow (o := .tup [v, v']) hl
  have nP : ∀ a, P a → a ≠ l := fun a pa z => by
    obtain ⟨φ, _, _, _, _, _, _, r7, _⟩ := R1
    exact (r7 a pa).1 (z ▸ hl)
  have q1 := q1.later (F1 := F1) (H1 := upd H1 l (.tup [v, v'])) ⟨Same.refl _, fun a pa => upd_ne (nP a pa)⟩
  obtain ⟨F3, d, e3, l3, s3, R3, q3⟩ := chResV q1 R1' i1
  dsimp only at q3
  cases hf : tyAny [T, U] d with
  | none => rw [hf] at q3; exact q3.elim
  | some b =>
    rw [hf] at q3
    cases hb : isTy T d with
    | none => unfold tyAny at hf; rw [hb] at hf; cases hf
    | some b1 =>
      obtain ⟨t1, ht1⟩ := ty_some (c := c) hb
      refine ⟨w, l, [v, v'], t1, [clV c.C T, clV c.C U], b, rfl, upd_same, .cons cv (.cons cv' .nil), by rw [← hK]; exact tyx_of s3 R3.same ht1, by
        rw [← hK]
        exact kitA I s3 ht1 (fun Z m => by
          simp only [List.mem_cons, List.mem_nil_iff, or_false] at m
          rcases m with rfl | rfl
          · exact ht.lt
          · exact hu.lt) hf, ?_⟩
      exact PoV.val q3 (RelV.zero R3 rfl)
end
end Mini

set_option Elab.async false
set_option linter.all false
set_option maxRecDepth 100000
/-! MOps4: displays, lists and dicts that change in place, fields, own classes made. -/
namespace Mini
open PySem L2
/-! ### semantics -/
/-- (a, b, ..) -/
def vTup (ms : List (M Item)) : M Vl := bnd (seqM ms) fun xs => bnd (opt (valsOf xs)) fun ds => if ds.length ≤ sLine then ret (0, .tup ds) else stk
/-- [a, b, ..] -/
def vLst (ms : List (M Item)) : M Vl := bnd (seqM ms) fun xs => bnd (opt (valsOf xs)) fun ds => if ds.length ≤ sLine then ret (1, .lst ds) else stk
/-- {k: a, ..}, the keys constants, all different -/
def vDct (ks : List Key) (ms : List (M Item)) : M Vl := bnd (seqM ms) fun xs => bnd (opt (valsOf xs)) fun ds => if ks.length = ds.length then ret (1, .dK ks ds) else stk
/-- what stands in slot i is a list, a dict, .. -/
def sawS (p : Hd → Bool) (i : Nat) : M Unit := fun e => match getS e i with
  | some (_, .box h _) => if p h then .ok () e else .stuck
  | _ => .stuck
def isLst : Hd → Bool
  | .lst => true
  | _ => false
def appK (i : Nat) (xs : List Item) : M Vl := match xs with
  | [.val d] => fun e => match getS e i with
    | some (n + 1, .box .lst ds) => if ds.length < sLine then .ok (0, .non) (e.set i (some (1, .lst (ds ++ [d])))) else .stuck
    | _ => .stuck
  | _ => stk
/-- xs.append(e) -/
def vApp (i : Nat) (m : M Item) : M Vl := bnd (sawS isLst i) fun _ => bnd (seqM [m]) (appK i)
/-- xs.pop() -/
def vPop (i : Nat) : M Vl := fun e => match getS e i with
  | some (n + 1, .box .lst ds) => match ds[ds.length - 1]? with
    | some d => .ok (0, d) (e.set i (some (1, .lst ds.dropLast)))
    | none => .stuck
  | _ => .stuck
def popK (i : Nat) (xs : List Item) : M Vl := match xs with
  | [.val (.int k)] => fun e => match getS e i with
    | some (n + 1, .box .lst ds) => if 0 ≤ k then match ds[k.toNat]? with
        | some d => .ok (0, d) (e.set i (some (1, .lst (ds.eraseIdx k.toNat))))
        | none => .stuck
      else .stuck
    | _ => .stuck
  | _ => stk
/-- xs.pop(k) -/
def vPopAt (i : Nat) (m : M Item) : M Vl := bnd (sawS isLst i) fun _ => bnd (seqM [m]) (popK i)
section
variable {X : Cx} {c : Ctx} {pn : Pins} {W : WX} {F H : Hp} {e : Env} {σ : St} {P : Addr → Prop}
/-! ### what is one's own, changed in place -/
theorem Rel.put {i n : Nat} {hd : Hd} {ds : List D} (R : Rel c pn F e σ H P) (g : getS e i = some (n + 1, .box hd ds)) (hne : hd ≠ .tup) :
    ∃ a vs F', σ[i]? = some (some (.ref a)) ∧ Stand c.K c.C H a vs hd ∧ ds.length ≤ sizeLine ∧ Reps c.K c.C F' ds vs ∧ Later F H F' H P ∧ ∀ (o : HO) (hd' : Hd) (ds' : List D) (vs' : List V), hd' ≠ .tup → Stand c.K c.C (L2.upd H a o) a vs' hd' → ds'.length ≤ sizeLine → Reps c.K c.C F' ds' vs' →
      Later F H F' (L2.upd H a o) P ∧ Rel c pn F' (e.set i (some (1, .box hd' ds'))) σ (L2.upd H a o) P := by
  obtain ⟨v, F', fp, h1, l, o, R'⟩ := R.lower g (show 1 ≤ n + 1 by omega)
  unfold Own at o
  rw [if_neg (fun z => z.elim (fun z => absurd z (by decide)) hne)] at o
  obtain ⟨a, vs, fp', rfl, fa, st, hl, ow, rfl⟩ := o
  obtain ⟨r, rfl⟩ := ow.of_zero
  refine ⟨a, vs, F', h1, st, hl, r, l, fun o hd' ds' vs' hne' st' hl' r' => ?_⟩
  obtain ⟨φ, r1, r2, r3, r4, r5, r6, r7, r8⟩ := R'
  have hi : i < e.length := getS_lt g
  have gi : getS (e.set i (some (1, .box hd ds))) i = some (1, .box hd ds) := by rw [getS_set, if_pos ⟨rfl, hi⟩]
  obtain ⟨v', g1, g2⟩ := r3 i _ _ gi
  rw [h1] at g1
  cases g1
  have hφ : φ i = [a] := by
    unfold Own at g2
    rw [if_neg (fun z => z.elim (fun z => absurd z (by decide)) hne)] at g2
    obtain ⟨b, ws, q', e1, _, _, _, e5, e6⟩ := g2
    cases e1
    rw [e6, e5.of_zero.2]
  have aφ : ∀ j, j ≠ i → a ∉ φ j := fun j hj z => r6 j i a hj z (by rw [hφ]; exact List.mem_singleton.mpr rfl)
  have aP : ¬ P a := fun z => (r7 a z).2.2 i (by rw [hφ]; exact List.mem_singleton.mpr rfl)
  refine ⟨⟨l.F, fun b pb => upd_ne (show b ≠ a from fun z => aP (z ▸ pb))⟩, φ, by simpa using r1, fun b u h => ?_, fun j m d h => ?_, fun j h => ?_, r5, r6, fun b pb => ?_, r8⟩
  · rw [upd_ne (fun z => by rw [z, fa] at h; cases h)]
    exact r2 b u h
  · rw [getS_set] at h
    by_cases hj : i = j ∧ i < e.length
    · rw [if_pos hj] at h
      obtain ⟨rfl, _⟩ := hj
      cases h
      refine ⟨.ref a, h1, ?_⟩
      rw [hφ]
      unfold Own
      rw [if_neg (fun z => z.elim (fun z => absurd z (by decide)) hne')]
      exact ⟨a, vs', [], rfl, fa, st', hl', Owns.zero r', rfl⟩
    · rw [if_neg hj] at h
      have hji : j ≠ i := fun z => by
        subst z
        exact hj ⟨rfl, hi⟩
      obtain ⟨v, q1, q2⟩ := r3 j m d (by rw [getS_set, if_neg hj]; exact h)
      exact ⟨v, q1, q2.frame (Same.refl _) fun b hb => ⟨upd_ne fun z => aφ j hji (z ▸ hb), (q2.fp b hb).1⟩⟩
  · rw [getS_set] at h
    by_cases hj : i = j ∧ i < e.length
    · rw [if_pos hj] at h; cases h
    · rw [if_neg hj] at h
      exact r4 j (by rw [getS_set, if_neg hj]; exact h)
  · rw [upd_ne (show b ≠ a from fun z => aP (z ▸ pb))]
    exact r7 b pb
/-! ### displays -/
theorem ok_tup {es : List Expr} {ms : List (M Item)} {x1} {pos : Pos} (ha : OkA X c pn W es (seqM ms)) : OkV X c pn W (.Tuple es x1 pos) (vTup ms) := by
  refine ⟨PE.imp (pe_tupZ ha.ok) fun σ H Q ⟨F, e, P, R, q⟩ => ⟨F, e, P, R, ?_⟩⟩
  refine chV (R := fun F x v => IRels c F σ x v) q fun xs e1 vs F1 H1 l1 R1 i1 q1 => ?_
  cases hv : valsOf xs with
  | none => rw [hv] at q1; exact q1.elim
  | some ds =>
    rw [hv] at q1
    have q1 : PoV c pn W σ P F1 H1 Q ((if ds.length ≤ sLine then ret ((0, .tup ds) : Vl) else stk) e1) := q1
    by_cases hl : ds.length ≤ sLine
    · rw [if_pos hl] at q1
      have r := vals_reps hv i1
      refine ⟨by rw [← r.length]; exact hl, fun p o ho hp => ?_⟩
      obtain ⟨F', l, R'⟩ := new_tup R1 ho hp hl r
      exact q1 _ F' _ l R'
    · rw [if_neg hl] at q1; exact q1.elim
theorem ok_lst {es : List Expr} {ms : List (M Item)} {pos : Pos} (ha : OkA X c pn W es (seqM ms)) : OkV X c pn W (.List es pos) (vLst ms) := by
  refine ⟨PE.imp (pe_lst ha.ok) fun σ H Q ⟨F, e, P, R, q⟩ => ⟨F, e, P, R, ?_⟩⟩
  refine chV (R := fun F x v => IRels c F σ x v) q fun xs e1 vs F1 H1 l1 R1 i1 q1 => ?_
  cases hv : valsOf xs with
  | none => rw [hv] at q1; exact q1.elim
  | some ds =>
    rw [hv] at q1
    have q1 : PoV c pn W σ P F1 H1 Q ((if ds.length ≤ sLine then ret ((1, .lst ds) : Vl) else stk) e1) := q1
    by_cases hl : ds.length ≤ sLine
    · rw [if_pos hl] at q1
      have r := vals_reps hv i1
      refine ⟨by rw [← r.length]; exact hl, fun p hp => ?_⟩
      obtain ⟨l, R'⟩ := new_own (o := .lst vs) (h := .lst) R1 hp (fun z => nomatch z) upd_same hl r
      exact q1 _ F1 _ l R'
    · rw [if_neg hl] at q1; exact q1.elim
/-! ### lists that change -/
theorem saw_ok {p : Hd → Bool} {i : Nat} {α : Type} {f : Unit → M α} : (∃ n h ds, getS e i = some (n, .box h ds) ∧ p h = true ∧ bnd (sawS p i) f e = f () e) ∨ bnd (sawS p i) f e = .stuck := by
  unfold sawS
  cases g : getS e i with
  | none => exact .inr (bnd_stuck (by simp only [g]))
  | some z =>
    obtain ⟨n, d⟩ := z
    cases d with
    | box h ds =>
      by_cases hp : p h = true
      · exact .inl ⟨n, h, ds, rfl, hp, bnd_ok (by simp only [g, hp, if_true])⟩
      · exact .inr (bnd_stuck (by simp only [g, hp, if_false]; rfl))
    | _ => exact .inr (bnd_stuck (by simp only [g]))
theorem Rel.own_rep {i n : Nat} {d : D} (R : Rel c pn F e σ H P) (g : getS e i = some (n, d)) : ∃ v, σ[i]? = some (some v) ∧ Rep c.K c.C H d v := R.rep g
theorem ok_app (i : Nat) {x : Str} {a : Expr} {m : M Item} {p apos cpos : Pos} (ha : OkA X c pn W [a] (seqM [m])) (hN : X.N[i]? = some x := by rfl) (hv : Vis X.env.scope x := by first | exact Or.inl rfl | exact Or.inr (Or.inl rfl) | exact Or.inr (Or.inr rfl))
    (hd : (x == ("__debug__" : Str)) = false := by decide) (hcd : (x == ("__classdict__" : Str)) = false := by decide)
    (hbase : attributeBase (.Name x p) "append" X.env (eval (.Name x p) X.env) = eval (.Name x p) X.env := by rfl)
    (hfew : ((backTo cpos (starEach [a] X.env)).all (fun x => !x.1) && (backToKw cpos (keywordEach [] X.env)).all (fun x => x.1.isSome)
      && decide ([a].length + ([] : List Keyword).length + (if ([] : List Keyword).isEmpty then 0 else 1) < 30)) = true := by rfl)
    (hline : (apos.endLine == cpos.line) = true := by rfl) (hs : starEach [a] X.env = (false, eval a X.env) :: starEach [] X.env := by rfl) (hplain : (backTo cpos (starEach [] X.env)).any (·.1) = false := by rfl) :
    OkV X c pn W (.Call (.Attribute (.Name x p) "append" apos) [a] [] cpos) (vApp i m) := by
  refine ⟨PE.imp (pe_bm PySem.F.plainAttrs_list PySem.F.slot_list_append PySem.F.type_list_append mt_append (pe_var hN hv hd hcd) ha.ok hbase hfew hline hs hplain) fun σ H Q ⟨F, e, P, R, q⟩ => ?_⟩
  have q : PoV c pn W σ P F H Q (bnd (sawS isLst i) (fun _ => bnd (seqM [m]) (appK i)) e) := q
  rcases saw_ok (e := e) (p := isLst) (i := i) (f := fun _ => bnd (seqM [m]) (appK i)) with ⟨n0, h0, ds0, g0, p0, eq⟩ | eq
  · rw [eq] at q
    obtain ⟨v0, hv0, r0⟩ := R.rep g0
    cases h0 with
    | lst =>
      obtain ⟨a0, vs0, rfl, st0, _, _⟩ := r0
      refine ⟨_, hv0, .inl ⟨rfl, vs0, SqL.of st0⟩, F, e, P, R, ?_⟩
      refine chV (R := fun F x v => IRels c F σ x v) q fun xs e1 vs F1 H1 l1 R1 i1 q1 => ?_
      match xs, i1, q1 with
      | [.val d], ⟨v, t1, e0, r1, e3⟩, q1 =>
        have e3 : t1 = [] := e3
        subst e3 e0
        unfold appK at q1
        dsimp only at q1
        cases g : getS e1 i with
        | none => rw [g] at q1; exact q1.elim
        | some z =>
          obtain ⟨n, z⟩ := z
          rw [g] at q1
          cases n with
          | zero => exact q1.elim
          | succ n =>
            cases z with
            | box h ds =>
              cases h with
              | lst =>
                dsimp only at q1
                by_cases hl : ds.length < sLine
                · rw [if_pos hl] at q1
                  obtain ⟨b, ws, F', k1, k2, k3, k4, k5, k6⟩ := R1.put g (fun z => nomatch z)
                  rw [hv0] at k1
                  cases k1
                  have k2 : H1 a0 = some (.lst ws) := k2
                  refine ⟨a0, ws, v, rfl, rfl, k2, by rw [← k4.length]; exact hl, ?_⟩
                  obtain ⟨l', R'⟩ := k6 (.lst (ws ++ [v])) .lst (ds ++ [d]) (ws ++ [v]) (fun z => nomatch z) upd_same (by rw [List.length_append, List.length_singleton]; exact hl) (reps_app k4 ⟨v, [], rfl, Rep.mono k5.F r1, rfl⟩)
                  exact q1 _ F' _ l' (RelV.zero R' rfl)
                · rw [if_neg hl] at q1; exact q1.elim
              | _ => exact q1.elim
            | _ => exact q1.elim
      | [], _, q1 => exact q1.elim
      | [.bor _], _, q1 => exact q1.elim
      | .val _ :: _ :: _, _, q1 => exact q1.elim
      | .bor _ :: _ :: _, _, q1 => exact q1.elim
    | _ => cases p0
  · rw [eq] at q
    exact q.elim
end
end Mini

set_option Elab.async false
set_option linter.all false
set_option maxRecDepth 100000
/-! MOps5: pop, dicts by numbers and texts, fields. -/
namespace Mini
open PySem L2
/-! ### semantics -/
def isDK : Hd → Bool
  | .dK _ => true
  | _ => false
def putS (i : Nat) (x y : Item) : M Fl := bnd (res y) fun kd => match x with
  | .val d => fun e => match getS e i, keyD kd with
    | some (n + 1, .box (.dK ks) ds), some k => if ks.length < sLine then .ok .nx (e.set i (some (1, .dK (putK ks ds k d).1 (putK ks ds k d).2))) else .stuck
    | _, _ => .stuck
  | _ => stk
/-- d[k] = e, d a name -/
def sPutK (i : Nat) (k : M Item) (m : M Vl) : M Fl := bnd (oV m) fun x => bnd (sawS isDK i) fun _ => bnd k (putS i x)
/-- k in d, k not in d -/
def fInD (neg : Bool) : D → D → Option Vl := fun k d => match d with
  | .box (.dK ks) ds => (keyD k).map fun k => (0, .bl (if neg then !(findK ks ds k).isSome else (findK ks ds k).isSome))
  | _ => none
section
variable {X : Cx} {c : Ctx} {pn : Pins} {W : WX} {F H : Hp} {e : Env} {σ : St} {P : Addr → Prop}
/-! ### keys -/
theorem findK_some {α : Type} [DecidableEq α] {ks : List α} : ∀ {ds : List D} {vs : List V} {k : α} {d : D}, Reps c.K c.C F ds vs → findK ks ds k = some d → ∃ v, L2.valV (ks.zip vs) k = some v ∧ Rep c.K c.C F d v := by
  induction ks with
  | nil => intro ds vs k d r h; cases ds <;> cases h
  | cons q ks ih =>
    intro ds vs k d r h
    cases ds with
    | nil => cases h
    | cons d' ds =>
      obtain ⟨v, ws, rfl, r1, r2⟩ := r
      unfold findK at h
      by_cases e : q = k
      · rw [if_pos e] at h
        cases h
        exact ⟨v, L2.valV_pos e, r1⟩
      · rw [if_neg e] at h
        obtain ⟨v', h1, h2⟩ := ih r2 h
        exact ⟨v', (L2.valV_neg (p := (q, v)) e).trans h1, h2⟩
theorem findK_isSome {α : Type} [DecidableEq α] {ks : List α} : ∀ {ds : List D} {vs : List V} {k : α}, ds.length = vs.length → (findK ks ds k).isSome = (L2.valV (ks.zip vs) k).isSome := by
  induction ks with
  | nil => intro ds vs k h; cases ds <;> rfl
  | cons q ks ih =>
    intro ds vs k h
    cases ds with
    | nil => cases vs with
      | nil => rfl
      | cons _ _ => cases h
    | cons d' ds => cases vs with
      | nil => cases h
      | cons v vs =>
        unfold findK
        by_cases e : q = k
        · rw [if_pos e]
          show _ = (L2.valV ((q, v) :: ks.zip vs) k).isSome
          rw [L2.valV_pos e]; rfl
        · rw [if_neg e]
          show _ = (L2.valV ((q, v) :: ks.zip vs) k).isSome
          rw [L2.valV_neg (p := (q, v)) e]
          exact ih (by simpa using h)
theorem any_zip {α : Type} [DecidableEq α] {x : α} : ∀ {ks : List α} {vs : List V}, ks.length = vs.length → (ks.zip vs).any (fun kv => decide (kv.1 = x)) = ks.any fun k => decide (k = x)
  | [], _, _ => rfl
  | _ :: _, [], h => by cases h
  | k :: ks, v :: vs, h => by
    rw [List.zip_cons_cons, List.any_cons, List.any_cons, any_zip (by simpa using h)]
theorem putK_ok {α : Type} [DecidableEq α] {ks : List α} {ds : List D} {vs : List V} {x : α} {d : D} {v : V} (hl : ks.length = vs.length) (r : Reps c.K c.C F ds vs) (rv : Rep c.K c.C F d v) :
    ∃ vs', L2.putK (ks.zip vs) x v = (putK ks ds x d).1.zip vs' ∧ (putK ks ds x d).1.length = vs'.length ∧ Reps c.K c.C F (putK ks ds x d).2 vs' := by
  unfold L2.putK putK
  rw [any_zip hl]
  by_cases h : (ks.any fun k => decide (k = x)) = true
  · rw [if_pos h, if_pos h]
    have key : ∀ {ks : List α} {ds : List D} {vs : List V}, ks.length = vs.length → Reps c.K c.C F ds vs → ∃ vs', (ks.zip vs).map (fun kv => if kv.1 = x then (kv.1, v) else kv) = ks.zip vs' ∧ ks.length = vs'.length ∧ Reps c.K c.C F (List.zipWith (fun k d' => if k = x then d else d') ks ds) vs' := by
      intro ks
      induction ks with
      | nil =>
        intro ds vs hl r
        exact ⟨[], rfl, rfl, rfl⟩
      | cons k ks ih =>
        intro ds vs hl r
        cases ds with
        | nil =>
          have r : vs = [] := r
          subst r
          cases hl
        | cons d' ds =>
          obtain ⟨v', ws, rfl, r1, r2⟩ := r
          obtain ⟨vs', q1, q2, q3⟩ := ih (by simpa using hl) r2
          by_cases e : k = x
          · refine ⟨v :: vs', ?_, by simp [q2], v, vs', rfl, ?_, q3⟩
            · rw [List.zip_cons_cons, List.map_cons, q1, if_pos e]; rfl
            · dsimp only; rw [if_pos e]; exact rv
          · refine ⟨v' :: vs', ?_, by simp [q2], v', vs', rfl, ?_, q3⟩
            · rw [List.zip_cons_cons, List.map_cons, q1, if_neg e]; rfl
            · dsimp only; rw [if_neg e]; exact r1
    exact key hl r
  · rw [if_neg h, if_neg h]
    refine ⟨vs ++ [v], ?_, by simp [hl], reps_app r ⟨v, [], rfl, rv, rfl⟩⟩
    rw [List.zip_append hl]; rfl
theorem key_of {d : D} {k : Key} {v : V} (h : keyD d = some k) (s : Sh c F H d v) : v = kV k := by
  cases d with
  | int i => cases h; exact s
  | str x => cases h; exact s
  | _ => cases h
def rDGet : R2 := fun x y H Q => ∃ a v, x = .ref a ∧ DGet H a y (some v) ∧ Q v H
theorem o_get : Op2 c rDGet fGet := by
  intro pn F e σ H P d d' n z x y Q R sx sy hf q
  cases d with
  | box h ds =>
    cases h with
    | dK ks =>
      have hf : ((keyD d').bind fun k => (findK ks ds k).map fun d => ((0, d) : Vl)) = some (n, z) := hf
      cases hk : keyD d' with
      | none => rw [hk] at hf; cases hf
      | some k =>
        rw [hk, Option.bind_some] at hf
        obtain ⟨a, vs, rfl, s1, s2, s3, s4⟩ := sx
        have e2 := key_of hk sy
        subst e2
        cases hg : findK ks ds k with
        | none => rw [hg] at hf; cases hf
        | some d1 =>
          rw [hg] at hf
          cases hf
          obtain ⟨v, h1, h2⟩ := findK_some s3 hg
          exact ⟨a, v, rfl, by rw [← h1]; exact DGet.k s1.1, sc R q rfl h2⟩
    | _ => cases hf
  | _ => cases hf
/-- d[k] -/
theorem ok_get {a b : Expr} {ma mb : M Item} {pos : Pos} (hu : X.A.units + 1 < cLine) (ha : OkO X c pn W a ma) (hb : OkO X c pn W b mb) (hs : NoSl b) : OkV X c pn W (.Subscript a b pos) (op2 fGet ma mb) :=
  ⟨PE.imp (pe_dget hu ha.ok hb.ok hs) fun _ _ _ h => op2_rd o_get h⟩
/-- d[k] = e -/
theorem os_put (i : Nat) {x : Str} {k v : Expr} {mk : M Item} {mv : M Vl} {p pos' pos : Pos} (hu : X.A.units + 1 < cLine) (hk : OkO X c pn W k mk) (hv : OkV X c pn W v mv) (hN : X.N[i]? = some x := by rfl) (hvis : Vis X.env.scope x := by first | exact Or.inl rfl | exact Or.inr (Or.inl rfl) | exact Or.inr (Or.inr rfl))
    (hd : (x == ("__debug__" : Str)) = false := by decide) (hcd : (x == ("__classdict__" : Str)) = false := by decide) (hs : swapsWith v (some (.Subscript (.Name x p) k pos')) pos.line X.env = pure false := by rfl) :
    OkS X c pn W (.Assign [.Subscript (.Name x p) k pos'] v pos) (sPutK i mk mv) := by
  refine ⟨PS.imp (ps_dput hu (pe_var hN hvis hd hcd) hk.ok (oo_val hv).ok hs) fun D σ H ⟨F, e, P, R, q⟩ => ⟨F, e, P, R, ?_⟩⟩
  refine chS (R := fun F x v => IRel c F σ x v) q fun xi e1 y F1 H1 l1 R1 i1 q1 => ?_
  rcases saw_ok (e := e1) (p := isDK) (i := i) (f := fun _ => bnd mk (putS i xi)) with ⟨n0, h0, ds0, g0, p0, eq⟩ | eq
  · rw [eq] at q1
    obtain ⟨v0, hv0, r0⟩ := R1.rep g0
    refine ⟨v0, hv0, F1, e1, P, R1, ?_⟩
    refine chS (R := fun F x v => IRel c F σ x v) q1 fun yk e2 w F2 H2 l2 R2 i2 q2 => ?_
    rcases res_ok R2 i2 with qr | ⟨F3, kd, e3, qr, l3, s3, R3⟩
    · have q2 : PoS c pn W σ P F2 H2 D (bnd (res yk) _ e2) := q2
      rw [bnd_stuck qr] at q2
      exact q2.elim
    · have q2 : PoS c pn W σ P F2 H2 D (bnd (res yk) _ e2) := q2
      rw [bnd_ok qr] at q2
      cases xi with
      | bor _ => exact q2.elim
      | val d =>
        dsimp only at q2
        cases g : getS e3 i with
        | none => rw [g] at q2; exact q2.elim
        | some z =>
          obtain ⟨n, z⟩ := z
          cases hkd : keyD kd with
          | none =>
            rw [g, hkd] at q2
            cases n with
            | zero => exact q2.elim
            | succ n => cases z with
              | box h ds => cases h <;> exact q2.elim
              | _ => exact q2.elim
          | some k =>
            rw [g, hkd] at q2
            have e2 := key_of hkd s3
            subst e2
            cases n with
            | zero => exact q2.elim
            | succ n =>
              cases z with
              | box h ds =>
                cases h with
                | dK ks =>
                  dsimp only at q2
                  by_cases hl : ks.length < sLine
                  · rw [if_pos hl] at q2
                    obtain ⟨b, ws, F', k1, k2, k3, k4, k5, k6⟩ := R3.put g (fun z => nomatch z)
                    rw [hv0] at k1
                    cases k1
                    have rv : Rep c.K c.C F' d y := Rep.mono (l2.F.trans (l3.F.trans k5.F)) i1
                    obtain ⟨vs', p1, p2, p3⟩ := putK_ok (x := k) k2.2 k4 rv
                    have hzl : (ks.zip ws).length = ks.length := by rw [List.length_zip, k2.2]; omega
                    refine ⟨b, _, rfl, DPut.k k2.1 (by rw [hzl]; exact hl), ?_⟩
                    rw [p1]
                    have hle : (putK ks ds k d).2.length ≤ sizeLine := by
                      rw [p3.length, ← p2]
                      unfold putK
                      split
                      · exact Nat.le_of_lt hl
                      · rw [List.length_append, List.length_singleton]; exact hl
                    obtain ⟨l', R'⟩ := k6 (.dK ((putK ks ds k d).1.zip vs')) (.dK (putK ks ds k d).1) (putK ks ds k d).2 vs' (fun z => nomatch z) ⟨upd_same, p2⟩ hle p3
                    exact q2 σ F' _ (l3.trans l') R'
                  · rw [if_neg hl] at q2; exact q2.elim
                | _ => exact q2.elim
              | _ => exact q2.elim
  · rw [eq] at q1
    exact q1.elim
end
end Mini

set_option Elab.async false
set_option linter.all false
set_option maxRecDepth 100000
/-! MOps6: pop, a dict written out, fields, own classes made. -/
namespace Mini
open PySem L2
/-- o.f = e -/
def isIns : Hd → Bool
  | .ins _ _ => true
  | _ => false
def fldK (i : Nat) (f : Str) (x : Item) : M Fl := match x with
  | .val d => fun e => match getS e i with
    | some (n + 1, .box (.ins k ns) ds) => if ns.length < 1000 then .ok .nx (e.set i (some (1, .ins k (putFd f d ns ds).1 (putFd f d ns ds).2))) else .stuck
    | _ => .stuck
  | _ => stk
def sFldS (i : Nat) (f : Str) (m : M Vl) : M Fl := bnd (oV m) fun x => bnd (sawS isIns i) fun _ => fldK i f x
section
variable {X : Cx} {c : Ctx} {pn : Pins} {W : WX} {F H : Hp} {e : Env} {σ : St} {P : Addr → Prop}
theorem reps_dropLast : ∀ {ds : List D} {vs : List V}, Reps c.K c.C F ds vs → Reps c.K c.C F ds.dropLast vs.dropLast
  | [], vs, h => by
    have h : vs = [] := h
    subst h; rfl
  | [d], vs, ⟨v, ws, e, h1, h2⟩ => by
    have h2 : ws = [] := h2
    subst h2 e; rfl
  | d :: d' :: ds, vs, ⟨v, ws, e, h1, h2⟩ => by
    obtain ⟨v', ws', e', _, _⟩ := id h2
    have := reps_dropLast h2
    subst e
    subst e'
    exact ⟨v, _, rfl, h1, this⟩
theorem reps_erase : ∀ (i : Nat) {ds : List D} {vs : List V}, Reps c.K c.C F ds vs → Reps c.K c.C F (ds.eraseIdx i) (vs.eraseIdx i)
  | _, [], vs, h => by
    have h : vs = [] := h
    subst h; rfl
  | 0, _ :: _, vs, ⟨v, ws, e, h1, h2⟩ => by subst e; exact h2
  | i + 1, _ :: _, vs, ⟨v, ws, e, h1, h2⟩ => by subst e; exact ⟨v, _, rfl, h1, reps_erase i h2⟩
theorem ok_pop (i : Nat) {x : Str} {p apos cpos : Pos} (hN : X.N[i]? = some x := by rfl) (hv : Vis X.env.scope x := by first | exact Or.inl rfl | exact Or.inr (Or.inl rfl) | exact Or.inr (Or.inr rfl))
    (hd : (x == ("__debug__" : Str)) = false := by decide) (hcd : (x == ("__classdict__" : Str)) = false := by decide)
    (hbase : attributeBase (.Name x p) "pop" X.env (eval (.Name x p) X.env) = eval (.Name x p) X.env := by rfl) (hline : (apos.endLine == cpos.line) = true := by rfl) :
    OkV X c pn W (.Call (.Attribute (.Name x p) "pop" apos) [] [] cpos) (vPop i) := by
  refine ⟨PE.imp (pe_bm0 PySem.F.plainAttrs_list PySem.F.slot_list_pop PySem.F.type_list_pop mt_pop (pe_var hN hv hd hcd) hbase hline) fun σ H Q ⟨F, e, P, R, q⟩ => ?_⟩
  unfold vPop at q
  cases g : getS e i with
  | none => rw [g] at q; exact q.elim
  | some z =>
    obtain ⟨n, z⟩ := z
    rw [g] at q
    cases n with
    | zero => exact q.elim
    | succ n => cases z with
      | box h ds => cases h with
        | lst =>
          dsimp only at q
          obtain ⟨b, ws, F', k1, k2, k3, k4, k5, k6⟩ := R.put g (fun z => nomatch z)
          have k2 : H b = some (.lst ws) := k2
          cases hy : ds[ds.length - 1]? with
          | none => rw [hy] at q; exact q.elim
          | some d =>
            rw [hy] at q
            obtain ⟨v, h1, h2⟩ := k4.get hy
            obtain ⟨l', R'⟩ := k6 (.lst ws.dropLast) .lst ds.dropLast ws.dropLast (fun z => nomatch z) upd_same (by rw [List.length_dropLast]; omega) (reps_dropLast k4)
            exact ⟨_, k1, .inl ⟨rfl, ws, SqL.of k2⟩, b, ws, v, rfl, rfl, k2, by rw [← k4.length]; exact h1, q v F' _ l' (RelV.zero R' h2)⟩
        | _ => exact q.elim
      | _ => exact q.elim
theorem ok_popAt (i : Nat) {x : Str} {a : Expr} {m : M Item} {p apos cpos : Pos} (ha : OkA X c pn W [a] (seqM [m])) (hN : X.N[i]? = some x := by rfl) (hv : Vis X.env.scope x := by first | exact Or.inl rfl | exact Or.inr (Or.inl rfl) | exact Or.inr (Or.inr rfl))
    (hd : (x == ("__debug__" : Str)) = false := by decide) (hcd : (x == ("__classdict__" : Str)) = false := by decide)
    (hbase : attributeBase (.Name x p) "pop" X.env (eval (.Name x p) X.env) = eval (.Name x p) X.env := by rfl)
    (hfew : ((backTo cpos (starEach [a] X.env)).all (fun x => !x.1) && (backToKw cpos (keywordEach [] X.env)).all (fun x => x.1.isSome)
      && decide ([a].length + ([] : List Keyword).length + (if ([] : List Keyword).isEmpty then 0 else 1) < 30)) = true := by rfl)
    (hline : (apos.endLine == cpos.line) = true := by rfl) (hs : starEach [a] X.env = (false, eval a X.env) :: starEach [] X.env := by rfl) (hplain : (backTo cpos (starEach [] X.env)).any (·.1) = false := by rfl) :
    OkV X c pn W (.Call (.Attribute (.Name x p) "pop" apos) [a] [] cpos) (vPopAt i m) := by
  refine ⟨PE.imp (pe_bm PySem.F.plainAttrs_list PySem.F.slot_list_pop PySem.F.type_list_pop mt_popAt (pe_var hN hv hd hcd) ha.ok hbase hfew hline hs hplain) fun σ H Q ⟨F, e, P, R, q⟩ => ?_⟩
  have q : PoV c pn W σ P F H Q (bnd (sawS isLst i) (fun _ => bnd (seqM [m]) (popK i)) e) := q
  rcases saw_ok (e := e) (p := isLst) (i := i) (f := fun _ => bnd (seqM [m]) (popK i)) with ⟨n0, h0, ds0, g0, p0, eq⟩ | eq
  · rw [eq] at q
    obtain ⟨v0, hv0, r0⟩ := R.rep g0
    cases h0 with
    | lst =>
      obtain ⟨a0, vs0, rfl, st0, _, _⟩ := r0
      refine ⟨_, hv0, .inl ⟨rfl, vs0, SqL.of st0⟩, F, e, P, R, ?_⟩
      refine chV (R := fun F x v => IRels c F σ x v) q fun xs e1 vs F1 H1 l1 R1 i1 q1 => ?_
      match xs, i1, q1 with
      | [.val (.int k)], ⟨v, t1, e0, r1, e3⟩, q1 =>
        have e3 : t1 = [] := e3
        have r1 : v = .int k := r1
        subst e3 e0 r1
        unfold popK at q1
        dsimp only at q1
        cases g : getS e1 i with
        | none => rw [g] at q1; exact q1.elim
        | some z =>
          obtain ⟨n, z⟩ := z
          rw [g] at q1
          cases n with
          | zero => exact q1.elim
          | succ n => cases z with
            | box h ds => cases h with
              | lst =>
                dsimp only at q1
                by_cases h0 : 0 ≤ k
                · rw [if_pos h0] at q1
                  obtain ⟨b, ws, F', k1, k2, k3, k4, k5, k6⟩ := R1.put g (fun z => nomatch z)
                  have k2 : H1 b = some (.lst ws) := k2
                  rw [hv0] at k1
                  cases k1
                  cases hy : ds[k.toNat]? with
                  | none => rw [hy] at q1; exact q1.elim
                  | some d =>
                    rw [hy] at q1
                    obtain ⟨v, h1, h2⟩ := k4.get hy
                    have hlt := (List.getElem?_eq_some_iff.mp hy).1
                    have hkl : k.toNat < ws.length := by rw [← k4.length]; exact hlt
                    have hsl := sizeLine_eq
                    obtain ⟨l', R'⟩ := k6 (.lst (ws.eraseIdx k.toNat)) .lst (ds.eraseIdx k.toNat) (ws.eraseIdx k.toNat) (fun z => nomatch z) upd_same (Nat.le_trans (List.length_eraseIdx_le _ _) k3) (reps_erase _ k4)
                    exact ⟨a0, ws, k, k.toNat, v, rfl, rfl, k2, by omega, by omega, seqIndex_of h0 (by omega), h1, q1 v F' _ l' (RelV.zero R' h2)⟩
                · rw [if_neg h0] at q1; exact q1.elim
              | _ => exact q1.elim
            | _ => exact q1.elim
      | [.val .non], _, q1 => exact q1.elim
      | [.val (.bl _)], _, q1 => exact q1.elim
      | [.val (.str _)], _, q1 => exact q1.elim
      | [.val (.scr _)], _, q1 => exact q1.elim
      | [.val (.box _ _)], _, q1 => exact q1.elim
      | [], _, q1 => exact q1.elim
      | [.bor _], _, q1 => exact q1.elim
      | .val _ :: _ :: _, _, q1 => simp [popK] at q1; exact q1.elim
      | .bor _ :: _ :: _, _, q1 => exact q1.elim
    | _ => cases p0
  · rw [eq] at q
    exact q.elim
/-! ### fields -/
theorem lookup_zip {f : Str} : ∀ {ns : List Str} {ds : List D} {vs : List V} {d : D}, Reps c.K c.C F ds vs → getFd f ns ds = some d → ∃ v, (ns.zip vs).lookup f = some v ∧ Rep c.K c.C F d v
  | [], ds, vs, d, r, h => by cases ds <;> cases h
  | g :: ns, [], vs, d, r, h => by cases h
  | g :: ns, d' :: ds, vs, d, ⟨v, ws, e, r1, r2⟩, h => by
    subst e
    unfold getFd at h
    rw [List.zip_cons_cons, List.lookup_cons]
    by_cases e : f = g
    · rw [if_pos e] at h
      cases h
      have : (f == g) = true := beq_iff_eq.mpr e
      rw [this]
      exact ⟨v, rfl, r1⟩
    · rw [if_neg e] at h
      have : (f == g) = false := beq_eq_false_iff_ne.mpr e
      rw [this]
      exact lookup_zip r2 h
theorem putF_zip {f : Str} {d : D} {v : V} (rv : Rep c.K c.C F d v) : ∀ {ns : List Str} {ds : List D} {vs : List V}, ns.length = vs.length → Reps c.K c.C F ds vs →
    ∃ vs', putF f v (ns.zip vs) = (putFd f d ns ds).1.zip vs' ∧ (putFd f d ns ds).1.length = vs'.length ∧ Reps c.K c.C F (putFd f d ns ds).2 vs'
  | [], ds, vs, hl, r => by
    cases vs with
    | nil => exact ⟨[v], by cases ds <;> rfl, by cases ds <;> rfl, by cases ds <;> exact ⟨v, [], rfl, rv, rfl⟩⟩
    | cons _ _ => cases hl
  | g :: ns, [], vs, hl, r => by
    have r : vs = [] := r
    subst r; cases hl
  | g :: ns, d' :: ds, vs, hl, ⟨v', ws, e, r1, r2⟩ => by
    subst e
    by_cases e : g = f
    · refine ⟨v :: ws, ?_, ?_, ?_⟩
      · rw [List.zip_cons_cons]; unfold putF putFd; rw [if_pos e, if_pos e]; rfl
      · unfold putFd; rw [if_pos e]; simpa using hl
      · unfold putFd; rw [if_pos e]; exact ⟨v, ws, rfl, rv, r2⟩
    · obtain ⟨vs', q1, q2, q3⟩ := putF_zip rv (show ns.length = ws.length by simpa using hl) r2
      refine ⟨v' :: vs', ?_, ?_, ?_⟩
      · rw [List.zip_cons_cons]; unfold putF putFd; rw [if_neg e, if_neg e, q1]; rfl
      · unfold putFd; rw [if_neg e]; simp [q2]
      · unfold putFd; rw [if_neg e]; exact ⟨v', vs', rfl, r1, q3⟩
def rFld (K : PySem.W.Frag) (f : Str) : V → Hp → VK → Prop := fun x H Q => ∃ a C dx fs v, x = .ref a ∧ H a = some (.ins C dx fs) ∧ Cls K C ∧ NoAttr K C f ∧ fs.lookup f = some v ∧ Q v H
/-- o.f -/
theorem ok_attr {a : Expr} {f : Str} {m : M Item} {pos : Pos} (hK : c.K = X.K) (na : ∀ k, k < c.C.n → NoAttr c.K (c.C.a k) f) (ha : OkO X c pn W a m) (hb : attributeBase a f X.env (eval a X.env) = eval a X.env := by rfl) : OkV X c pn W (.Attribute a f pos) (op1 (fAttr f) m) := by
  refine ⟨PE.imp (pe_fld ha.ok hb) fun σ H Q h => op1_rd (r := rFld X.K f) ?_ h⟩
  intro pn F e σ H P d n z x Q R s hf q
  rw [← hK]
  cases d with
  | box h ds =>
    cases h with
    | ins k ns =>
      have hf : (getFd f ns ds).map (fun d => ((0, d) : Vl)) = some (n, z) := hf
      cases hg : getFd f ns ds with
      | none => rw [hg] at hf; cases hf
      | some d =>
        rw [hg] at hf
        cases hf
        obtain ⟨a, vs, rfl, ⟨⟨⟨dx, s1⟩, g⟩, s2⟩, s3, s4, _⟩ := s
        obtain ⟨v, h1, h2⟩ := lookup_zip s4 hg
        exact ⟨a, c.C.a k, dx, _, v, rfl, s1, g.cls, na k g.lt, h1, sc R q rfl h2⟩
    | _ => cases hf
  | _ => cases hf
/-- o.f = e -/
theorem os_fld (i : Nat) {x f : Str} {v : Expr} {mv : M Vl} {p pos' pos : Pos} (hK : c.K = X.K) (na : ∀ k, k < c.C.n → NoAttr c.K (c.C.a k) f) (hv : OkV X c pn W v mv) (hN : X.N[i]? = some x := by rfl) (hvis : Vis X.env.scope x := by first | exact Or.inl rfl | exact Or.inr (Or.inl rfl) | exact Or.inr (Or.inr rfl))
    (hd : (x == ("__debug__" : Str)) = false := by decide) (hcd : (x == ("__classdict__" : Str)) = false := by decide) (hs : swapsWith v (some (.Attribute (.Name x p) f pos')) pos.line X.env = pure false := by rfl) :
    OkS X c pn W (.Assign [.Attribute (.Name x p) f pos'] v pos) (sFldS i f mv) := by
  refine ⟨PS.imp (ps_fld (pe_var hN hvis hd hcd) (oo_val hv).ok hs) fun D σ H ⟨F, e, P, R, q⟩ => ⟨F, e, P, R, ?_⟩⟩
  refine chS (R := fun F x v => IRel c F σ x v) q fun xi e1 y F1 H1 l1 R1 i1 q1 => ?_
  rcases saw_ok (e := e1) (p := isIns) (i := i) (f := fun _ => fldK i f xi) with ⟨n0, h0, ds0, g0, p0, eq⟩ | eq
  · rw [eq] at q1
    unfold fldK at q1
    cases xi with
    | bor _ => exact q1.elim
    | val d =>
      dsimp only at q1
      rw [g0] at q1
      cases h0 with
      | ins k ns =>
        cases n0 with
        | zero => exact q1.elim
        | succ n =>
          dsimp only at q1
          by_cases hl : ns.length < 1000
          · rw [if_pos hl] at q1
            obtain ⟨b, ws, F', k1, ⟨⟨⟨dx, k2⟩, gd⟩, k2'⟩, k3, k4, k5, k6⟩ := R1.put g0 (fun z => nomatch z)
            have rv : Rep c.K c.C F' d y := Rep.mono k5.F i1
            obtain ⟨vs', p1, p2, p3⟩ := putF_zip (f := f) rv k2' k4
            have hzl : (ns.zip ws).length = ns.length := by rw [List.length_zip, k2']; omega
            refine ⟨_, k1, b, c.C.a k, dx, _, rfl, k2, by rw [← hK]; exact gd.cls, by rw [← hK]; exact na k gd.lt, by rw [hzl]; exact hl, ?_⟩
            rw [p1]
            have hle : (putFd f d ns ds0).2.length ≤ sizeLine := by
              have h1 : (putF f y (ns.zip ws)).length ≤ (ns.zip ws).length + 1 := by
                have key : ∀ fs : List (Str × V), (putF f y fs).length ≤ fs.length + 1 := by
                  intro fs
                  induction fs with
                  | nil => exact Nat.le_refl _
                  | cons a fs ih =>
                    obtain ⟨g, z⟩ := a
                    unfold putF
                    split
                    · simp
                    · simpa using ih
                exact key _
              rw [p1, List.length_zip, p2, Nat.min_self, hzl] at h1
              rw [p3.length]
              have : (1001 : Nat) ≤ sizeLine := by decide
              omega
            obtain ⟨l', R'⟩ := k6 (.ins (c.C.a k) dx ((putFd f d ns ds0).1.zip vs')) (.ins k (putFd f d ns ds0).1) (putFd f d ns ds0).2 vs' (fun z => nomatch z) ⟨⟨⟨dx, upd_same⟩, gd⟩, p2⟩ hle p3
            exact q1 σ F' _ l' R'
          · rw [if_neg hl] at q1; exact q1.elim
      | _ => cases p0
  · rw [eq] at q1
    exact q1.elim
end
end Mini

set_option Elab.async false
set_option linter.all false
set_option maxRecDepth 100000
/-! MOps7: a dict written out, own classes made. -/
namespace Mini
open PySem L2
section
variable {X : Cx} {c : Ctx} {pn : Pins} {W : WX} {F H : Hp} {e : Env} {σ : St} {P : Addr → Prop}
/-! ### a new object is held -/
theorem Rel.hold {p : Addr} {o : HO} (R : Rel c pn F e σ H P) (hp : H p = none) : Rel c pn F e σ (L2.upd H p o) (fun a => P a ∨ a ∈ [p]) := by
  obtain ⟨φ, r1, r2, r3, r4, r5, r6, r7, r8⟩ := R
  have fp := F_none r2 hp
  have np : ∀ {a : Addr}, H a ≠ none → a ≠ p := fun {a} h z => h (z ▸ hp)
  refine ⟨φ, r1, fun a u h => ?_, fun i n d g => ?_, r4, r5, r6, fun a ha => ?_, r8⟩
  · rw [upd_ne (fun z => by rw [z, fp] at h; cases h)]
    exact r2 a u h
  · obtain ⟨v, h1, o'⟩ := r3 i n d g
    exact ⟨v, h1, o'.frame (Same.refl _) fun a ha => ⟨upd_ne (np (o'.fp a ha).2), (o'.fp a ha).1⟩⟩
  · rcases ha with ha | ha
    · rw [upd_ne (np (r7 a ha).1)]
      exact r7 a ha
    · rw [List.mem_singleton.mp ha, upd_same]
      refine ⟨(fun z => nomatch z), fp, fun i hi => ?_⟩
      cases g : getS e i with
      | none => rw [r4 i g] at hi; cases hi
      | some z =>
        obtain ⟨n, d⟩ := z
        obtain ⟨v2, q1, o2⟩ := r3 i n d g
        exact (o2.fp p hi).2 hp
theorem PoR.up {α β : Type} {R : Hp → α → β → Prop} {P' : Addr → Prop} {Q : β → Hp → Prop} (h : ∀ a, P a → P' a) : ∀ {r : Res α}, PoR c pn W σ R P F H Q r → PoR c pn W σ R P' F H Q r
  | .ok _ _, q => fun v F' H' l' R' i => q v F' H' ⟨l'.F, fun a p => l'.P a (h a p)⟩ (R'.weak h) i
  | .exc _ _ _ _, q => fun dd σ' F' H' l' R' x => q dd σ' F' H' ⟨l'.F, fun a p => l'.P a (h a p)⟩ (R'.weak h) x
  | .stuck, q => q
theorem PoV.up {P' : Addr → Prop} {Q : VK} (h : ∀ a, P a → P' a) : ∀ {r : Res Vl}, PoV c pn W σ P F H Q r → PoV c pn W σ P' F H Q r
  | .ok (_, _) _, q => fun v F' H' l' R' => q v F' H' ⟨l'.F, fun a p => l'.P a (h a p)⟩ (by
      obtain ⟨fx, o, nd, np, r⟩ := R'
      exact ⟨fx, o, nd, fun a ha z => np a ha (h a z), r.weak fun a z => z.elim (fun z => .inl (h a z)) .inr⟩)
  | .exc _ _ _ _, q => fun dd σ' F' H' l' R' x => q dd σ' F' H' ⟨l'.F, fun a p => l'.P a (h a p)⟩ (R'.weak h) x
  | .stuck, q => q
/-- a held object is given back, frozen or not -/
theorem Rel.give {p : Addr} {o : HO} {hd : Hd} {ds : List D} {vs : List V} (R : Rel c pn F e σ H (fun a => P a ∨ a ∈ [p])) (nP : ¬ P p) (hne : hd ≠ .tup) (st : Stand c.K c.C (L2.upd H p o) p vs hd) (hl : ds.length ≤ sizeLine) (r : Reps c.K c.C F ds vs) :
    RelV c pn F e σ (L2.upd H p o) P (.ref p) 1 (.box hd ds) := by
  refine ⟨[p], ?_, List.nodup_cons.mpr ⟨by simp, List.nodup_nil⟩, fun a ha z => nP (List.mem_singleton.mp ha ▸ z), R.upd (.inr (List.mem_singleton.mpr rfl))⟩
  unfold Own
  rw [if_neg (fun z => z.elim (fun z => absurd z (by decide)) hne)]
  obtain ⟨φ, r1, r2, r3, r4, r5, r6, r7, r8⟩ := R
  exact ⟨p, vs, [], rfl, (r7 p (.inr (List.mem_singleton.mpr rfl))).2.1, st, hl, Owns.zero r, rfl⟩
/-! ### {k: a, ..} -/
inductive OkPs (X : Cx) (c : Ctx) (pn : Pins) (W : WX) : List (Option Expr) → List Expr → List Key → List (M Item) → Prop
  | nil : OkPs X c pn W [] [] [] []
  | cons {k v : Expr} {ks : List (Option Expr)} {vs : List Expr} {q : Key} {qs : List Key} {m : M Item} {ms : List (M Item)} (hk : PE X k (tC (kV q))) (hv : OkO X c pn W v m) (hr : OkPs X c pn W ks vs qs ms) : OkPs X c pn W (some k :: ks) (v :: vs) (q :: qs) (m :: ms)
def trsOf (c : Ctx) (pn : Pins) (W : WX) : List Key → List (M Item) → List (TE × TE)
  | q :: qs, m :: ms => (tC (kV q), rdO c pn W m) :: trsOf c pn W qs ms
  | _, _ => []
theorem OkPs.pps {pos : Pos} {ks : List (Option Expr)} {vs : List Expr} {qs : List Key} {ms : List (M Item)} (h : OkPs X c pn W ks vs qs ms) : PPs X pos ks vs (trsOf c pn W qs ms) := by
  induction h with
  | nil => exact pps_nil
  | cons hk hv hr ih => exact pps_cons hk hv.ok ih
theorem OkPs.len {ks : List (Option Expr)} {vs : List Expr} {qs : List Key} {ms : List (M Item)} (h : OkPs X c pn W ks vs qs ms) : qs.length = ms.length ∧ ks.length = vs.length ∧ ks.length = qs.length ∧ ks.all (·.isSome) = true := by
  induction h with
  | nil => exact ⟨rfl, rfl, rfl, rfl⟩
  | cons hk hv hr ih => exact ⟨by simp [ih.1], by simp [ih.2.1], by simp [ih.2.2.1], by simp [ih.2.2.2]⟩
theorem pairs_rd {Q : List (V × V) → Hp → Prop} : ∀ {qs : List Key} {ms : List (M Item)} {F H : Hp} {e : Env}, qs.length = ms.length → Rel c pn F e σ H P → PoR c pn W σ (fun F xs vs => IRels c F σ xs vs) P F H (fun vs H' => Q ((qs.map kV).zip vs) H') (seqM ms e) → tPairs (trsOf c pn W qs ms) σ H Q
  | [], [], F, H, e, _, R, q => q [] F H .rfl R rfl
  | [], _ :: _, _, _, _, h, _, _ => by cases h
  | _ :: _, [], _, _, _, h, _, _ => by cases h
  | k :: qs, m :: ms, F, H, e, h, R, q => by
    have q : PoR c pn W σ (fun F xs vs => IRels c F σ xs vs) P F H (fun vs H' => Q (((k :: qs).map kV).zip vs) H') (bnd m (fun b => bnd (seqM ms) fun bs => ret (b :: bs)) e) := q
    show tC (kV k) σ H fun x H1 => rdO c pn W m σ H1 fun y H2 => tPairs (trsOf c pn W qs ms) σ H2 fun ps H3 => Q ((x, y) :: ps) H3
    refine ⟨F, e, P, R, chR (R := fun F x v => IRel c F σ x v) q fun x e1 v F1 H1 l1 R1 i1 q1 => ?_⟩
    refine pairs_rd (by simpa using h) R1 (chR (R := fun F x v => IRels c F σ x v) q1 fun xs e2 vs F2 H2 l2 R2 i2 q2 => ?_)
    exact q2 (v :: vs) F2 H2 .rfl R2 ⟨v, vs, rfl, i1.mono l2.F, i2⟩
theorem mergeK_new : ∀ {more acc : List (Key × V)}, ((acc ++ more).map (·.1)).Nodup → mergeK acc more = acc ++ more
  | [], acc, _ => by simp [mergeK]
  | kv :: more, acc, h => by
    obtain ⟨k, v⟩ := kv
    have e : L2.putK acc k v = acc ++ [(k, v)] := by
      unfold L2.putK
      rw [if_neg]
      intro z
      obtain ⟨x, hx, hk⟩ := List.any_eq_true.mp z
      have hk : x.1 = k := of_decide_eq_true hk
      rw [List.map_append] at h
      exact (List.nodup_append.mp h).2.2 x.1 (List.mem_map.mpr ⟨x, hx, rfl⟩) k (by simp) hk
    show mergeK (L2.putK acc k v) more = _
    rw [e, mergeK_new (by simpa using h)]
    simp
theorem zip_map_pair : ∀ {ks : List Key} {vs : List V}, (ks.map kV).zip vs = (ks.zip vs).map fun kv => (kV kv.1, kv.2)
  | [], _ => rfl
  | _ :: _, [] => rfl
  | k :: ks, v :: vs => by simp [zip_map_pair]
theorem zip_fst : ∀ {ks : List Key} {vs : List V}, ks.length = vs.length → (ks.zip vs).map (·.1) = ks
  | [], _, _ => rfl
  | _ :: _, [], h => by cases h
  | k :: ks, v :: vs, h => by simp [zip_fst (show ks.length = vs.length by simpa using h)]
theorem ok_dct {keys : List (Option Expr)} {values : List Expr} {pos : Pos} {ks : List Key} {ms : List (M Item)} (h : OkPs X c pn W keys values ks ms) (h0 : keys ≠ []) (h15 : keys.length ≤ 15) (nd : ks.Nodup) : OkV X c pn W (.Dict keys values pos) (vDct ks ms) := by
  obtain ⟨l1, l2, l3, l4⟩ := h.len
  refine ⟨PE.imp (pe_disp h.pps l4 l2 h0 h15) fun σ H Q ⟨F, e, P, R, q⟩ p hp => ?_⟩
  have nP : ¬ P p := fun z => by
    obtain ⟨φ, _, _, _, _, _, _, r7, _⟩ := R
    exact (r7 p z).1 hp
  have RD := R.hold (o := .dK []) hp
  have fp := F_none R.same hp
  have toP : ∀ {F' H' : Hp}, Later F (L2.upd H p (.dK [])) F' H' (fun a => P a ∨ a ∈ [p]) → Later F H F' H' P := fun l => ⟨l.F, fun a pa => (l.P a (.inl pa)).trans (upd_ne (show a ≠ p from fun z => nP (z ▸ pa)))⟩
  refine pairs_rd (P := fun a => P a ∨ a ∈ [p]) l1 RD ?_
  have q : PoV c pn W σ P F H Q (bnd (seqM ms) (fun xs => bnd (opt (valsOf xs)) fun ds => if ks.length = ds.length then ret (1, .dK ks ds) else stk) e) := q
  cases hm : seqM ms e with
  | stuck => rw [bnd_stuck hm] at q; exact q
  | exc k ns xs e1 => rw [bnd_exc hm] at q; exact fun dd σ' F' H' l' R' x => q dd σ' F' H' (toP l') (R'.weak fun a z => .inl z) x
  | ok xs e1 =>
    rw [bnd_ok hm] at q
    intro vs F2 H2 l2 R2 i2
    cases hv : valsOf xs with
    | none => rw [hv] at q; exact q.elim
    | some ds =>
      rw [hv] at q
      have q : PoV c pn W σ P F H Q ((if ks.length = ds.length then ret ((1, .dK ks ds) : Vl) else stk) e1) := q
      by_cases hl : ks.length = ds.length
      · rw [if_pos hl] at q
        have r := vals_reps hv i2
        have hkv : ks.length = vs.length := hl.trans r.length
        have H2p : H2 p = some (.dK []) := (l2.P p (.inr (List.mem_singleton.mpr rfl))).trans upd_same
        have hlen : (ks.zip vs).length = ks.length := by rw [List.length_zip, ← hkv, Nat.min_self]
        refine ⟨H2p, ks.zip vs, zip_map_pair, by rw [hlen, ← l3]; exact h15, ?_⟩
        rw [mergeK_new (acc := []) (by rw [List.nil_append, zip_fst hkv]; exact nd), List.nil_append]
        have hle : ds.length ≤ sizeLine := by
          rw [← hl, ← l3]
          have : (15 : Nat) ≤ sizeLine := by decide
          omega
        have G := R2.give (o := .dK (ks.zip vs)) (hd := .dK ks) nP (fun z => nomatch z) ⟨upd_same, hkv⟩ hle r
        exact q (.ref p) F2 _ ⟨l2.F, fun a pa => (upd_ne (show a ≠ p from fun z => nP (z ▸ pa))).trans ((toP l2).P a pa)⟩ G
      · rw [if_neg hl] at q; exact q.elim
theorem ok_dct0 {pos : Pos} : OkV X c pn W (.Dict [] [] pos) (vDct [] []) := by
  refine ⟨PE.imp pe_dnewK fun σ H Q ⟨F, e, P, R, q⟩ p hp => ?_⟩
  obtain ⟨l, r⟩ := new_own (o := .dK []) (h := .dK []) (ds := []) (vs := []) R hp (fun z => nomatch z) ⟨upd_same, rfl⟩ (Nat.zero_le _) rfl
  exact q _ F _ l r
/-! ### C(..) -/
def tMakeS (C : Addr) (sp : Sp) (E : L2.St → XK) (t : TA) : TE := fun σ H Q => t σ H fun vs H1 => ∀ x dx, H1 x = none → H1 dx = none → dx ≠ x →
  sp (.ref x :: vs) (L2.upd (L2.upd H1 dx (.own x)) x (.ins C dx [])) (fun v H2 => v = .non ∧ Q (.ref x) H2) (E σ)
theorem pe_makeS {CX : CXT} {k : Nat} {f C : Addr} {fd : FuncData} {ps : List Str} {sp : Sp} {E : L2.St → XK} {x : Str} {p pos : Pos} {e : Expr} {es : List Expr} {t : TA}
    (M : Mk X.K C f) (F : FnOk X.prog X.w X.K X.mg X.base CX k f fd ps sp) (hr : Room (k + 1) X.A) (hg : Gl X x) (hm : X.mg x = some (.ref C)) (hb : Binds X.K fd ps []) (hx : ∀ σ, PassesAt CX X σ (E σ))
    (ha : PA X (e :: es) t) (hdb : (x == ("__debug__" : Str)) = false := by decide) (he : starEach (e :: es) X.env = (false, eval e X.env) :: starEach es X.env := by rfl) (hpl : (backTo pos (starEach es X.env)).any (·.1) = false := by rfl) :
    PE X (.Call (.Name x p) (e :: es) [] pos) (tMakeS C sp E t) := by
  refine ⟨fun pins s σ H Q I h => ?_⟩
  refine PySem.wpAny_Call_Name_kw (ld_glob I hg hm ?_ hdb)
  refine PySem.W.callWith_K (h₀ := X.base) I.ok.mod.kin M.kp (thn (ha.run pos pins s σ H _ I h) fun us s1 ⟨vs, H1, I1, r, q⟩ => ⟨I1.kIn, ?_⟩) he hpl
  have hq := q (s1.heap.objs.size + 1) s1.heap.objs.size (I1.hok.fresh (Nat.le_succ _)) (I1.hok.fresh (Nat.le_refl _)) (Nat.ne_of_lt (Nat.lt_succ_self _))
  have I2 := Inv.made (C := C) I1
  have r2 : Vals (V.ref (s1.heap.objs.size + 1) :: vs) (Value.ref (s1.heap.objs.size + 1) :: us) := .cons rfl r
  have hl : (Value.ref (s1.heap.objs.size + 1) :: us).length = ps.length := by
    have e := r2.length
    rw [F.len _ _ _ _ hq] at e
    exact e.symm
  have hbb := hb _ (Value.ref (s1.heap.objs.size + 1) :: us) I2.kIn (by rw [List.append_nil]; exact hl)
  rw [List.append_nil] at hbb
  refine wpAny_call (make_map (f := f) I1.kIn M.makes M.init (beq_iff_eq.mp M.fn) (codeAny_mono (F.run _ X.stack _ _ ⟨Value.ref (s1.heap.objs.size + 1) :: us, []⟩ (Value.ref (s1.heap.objs.size + 1) :: us) _ _ (E σ) (hr.make C us [])
    (I2.env0.make C us []) hbb r2 hq) fun r s' hq' => ?_))
  cases r with
  | error e => exact hx σ pins _ _ e s' I2 hq'
  | ok fl =>
    cases fl with
    | ret u =>
      obtain ⟨v, H', I3, rv, ev, q3⟩ := I2.after hq'
      subst ev
      exact ⟨rv, ⟨V.ref (s1.heap.objs.size + 1), H', I3, rfl, q3⟩⟩
    | next => exact False.elim hq'
    | brk => exact False.elim hq'
    | cont => exact False.elim hq'
end
end Mini

set_option Elab.async false
set_option linter.all false
set_option maxRecDepth 100000
/-! MOps8: own classes made. -/
namespace Mini
open PySem L2
/-- x is a class whose __init__ is f -/
structure NewOk (X : Cx) (c : Ctx) (x : Str) (kc p : Nat) (f : FSem) : Prop where
  ex : ∃ k fa fd ps, FnOk X.prog X.w X.K X.mg X.base (L2.CX X.prog X.w) k fa fd ps (spF c p f) ∧ Room (k + 1) X.A ∧ X.mg x = some (.ref (c.C.a kc)) ∧ Mk X.K (c.C.a kc) fa ∧ Binds X.K fd ps []
  good : GoodC c.K c.C kc
section
variable {X : Cx} {c : Ctx} {pn : Pins} {W : WX} {F H : Hp} {e : Env} {σ : St} {P : Addr → Prop}
theorem new_rd {f : FSem} {p kc : Nat} {ms : List (M Item)} {Q : VK} (ar : Ar p f) (gd : GoodC c.K c.C kc) {σ : St} {H : Hp} (h : rdV c pn W (vNew kc f ms) σ H Q) : tMakeS (c.C.a kc) (spF c p f) (WE W) (rdA c pn W (seqM ms)) σ H Q := by
  obtain ⟨F, e, P, R, q⟩ := h
  refine ⟨F, e, P, R, chV (R := fun F x v => IRels c F σ x v) q fun xs e1 vs F1 H1 l1 R1 i1 q1 x dx hx hdx hne => ?_⟩
  cases hv : valsOf xs with
  | none => rw [hv] at q1; exact q1.elim
  | some ds =>
    rw [hv] at q1
    have q1 : PoV c pn W σ P F1 H1 Q (match f ((9, .ins kc [] []) :: ds.map fun d => (0, d)) with
      | .ok (_, .non) (some s) => .ok s e1
      | .exc c ns fs _ => .exc c ns fs e1
      | _ => .stuck) := q1
    have r := vals_reps hv i1
    have hx2 : L2.upd H1 dx (.own x) x = none := by rw [upd_ne (Ne.symm hne)]; exact hx
    have G := (R1.grow (o := .own x) hdx).grow (o := .ins (c.C.a kc) dx []) hx2
    have nP : ∀ a, P a → a ≠ x ∧ a ≠ dx := fun a pa => by
      obtain ⟨φ, _, _, _, _, _, _, r7, _⟩ := R1
      exact ⟨fun z => (r7 a pa).1 (z ▸ hx), fun z => (r7 a pa).1 (z ▸ hdx)⟩
    have lG : Later F1 H1 F1 (L2.upd (L2.upd H1 dx (.own x)) x (.ins (c.C.a kc) dx [])) P := ⟨Same.refl _, fun a pa => by rw [upd_ne (nP a pa).1, upd_ne (nP a pa).2]⟩
    have q1 := q1.later lG
    have fx : F1 x = none := F_none R1.same hx
    obtain ⟨φ, r1, r2o, r3o, r4, r5, r6, r7o, r8⟩ := id R1
    have r2 := G.same
    have r3 : ∀ i n d, getS e1 i = some (n, d) → ∃ v, σ[i]? = some (some v) ∧ Own c.K c.C F1 (L2.upd (L2.upd H1 dx (.own x)) x (.ins (c.C.a kc) dx [])) d n v (φ i) := fun i n d g => by
      obtain ⟨v, h1, o⟩ := r3o i n d g
      exact ⟨v, h1, o.frame (Same.refl _) fun a ha => ⟨by
        have h2 := (o.fp a ha).2
        rw [upd_ne (show a ≠ x from fun z => h2 (z ▸ hx)), upd_ne (show a ≠ dx from fun z => h2 (z ▸ hdx))], (o.fp a ha).1⟩⟩
    have r7 : ∀ a, P a → L2.upd (L2.upd H1 dx (.own x)) x (.ins (c.C.a kc) dx []) a ≠ none ∧ F1 a = none ∧ ∀ i, a ∉ φ i := fun a pa => by
      rw [upd_ne (nP a pa).1, upd_ne (nP a pa).2]
      exact r7o a pa
    have xφ : ∀ i, x ∉ φ i := fun i hi => by
      cases g : getS e1 i with
      | none => rw [r4 i g] at hi; cases hi
      | some z =>
        obtain ⟨n, d⟩ := z
        obtain ⟨v', h1', o'⟩ := r3o i n d g
        exact (o'.fp x hi).2 hx
    have fr : ∀ a, (P a ∨ ∃ j, a ∈ φ j) → L2.upd (L2.upd H1 dx (.own x)) x (.ins (c.C.a kc) dx []) a ≠ none ∧ F1 a = none := fun a h => by
      rcases h with h | ⟨j, h⟩
      · exact ⟨(r7 a h).1, (r7 a h).2.1⟩
      · cases g : getS e1 j with
        | none => rw [r4 j g] at h; cases h
        | some z =>
          obtain ⟨n, d⟩ := z
          obtain ⟨v, _, o⟩ := r3 j n d g
          exact ⟨(o.fp a h).2, (o.fp a h).1⟩
    obtain ⟨φa, s1, s2, s3, s4, s5, s6, s7, s8⟩ := rel_args (P := fun a => P a ∨ ∃ j, a ∈ φ j) r2 r fr
    have RA : Rel c [] F1 (((9, D.ins kc [] []) :: ds.map fun d => ((0, d) : Vl)).map some) ((V.ref x :: vs).map some) (L2.upd (L2.upd H1 dx (.own x)) x (.ins (c.C.a kc) dx [])) (fun a => P a ∨ ∃ j, a ∈ φ j) := by
      refine ⟨fun j => match j with | 0 => [x] | _ + 1 => [], by simpa using s1, r2, fun j n d g => ?_, fun j g => ?_, fun j => ?_, fun j k a hjk ha hk => ?_, fun a p => ⟨(fr a p).1, (fr a p).2, fun j hj => ?_⟩, fun p hp => by simp at hp⟩
      · cases j with
        | zero =>
          have g : some ((9, D.ins kc [] []) : Vl) = some (n, d) := g
          cases g
          refine ⟨.ref x, rfl, ?_⟩
          unfold Own
          rw [if_neg (fun z => z.elim (fun z => absurd z (by decide)) fun z => nomatch z)]
          exact ⟨x, [], [], rfl, fx, ⟨⟨⟨dx, upd_same⟩, gd⟩, rfl⟩, Nat.zero_le _, ⟨rfl, rfl⟩, rfl⟩
        | succ j =>
          have g : getS ((ds.map fun d => ((0, d) : Vl)).map some) j = some (n, d) := g
          have g := getS_map g
          rw [List.getElem?_map] at g
          cases q : ds[j]? with
          | none => rw [q] at g; cases g
          | some x =>
            rw [q] at g
            cases g
            obtain ⟨v, h1, h2⟩ := r.get q
            exact ⟨v, by
              show (vs.map some)[j]? = _
              rw [List.getElem?_map, h1]; rfl, Own.zero h2⟩
      · cases j with
        | zero => cases g
        | succ j => rfl
      · cases j with
        | zero => exact List.nodup_cons.mpr ⟨by simp, List.nodup_nil⟩
        | succ j => exact List.nodup_nil
      · cases j with
        | zero => cases k with
          | zero => exact hjk rfl
          | succ k => cases hk
        | succ j => cases ha
      · cases j with
        | zero =>
          have hj : a ∈ [x] := hj
          have ea := List.mem_singleton.mp hj
          subst ea
          rcases p with p | ⟨k, p⟩
          · exact (nP a p).1 rfl
          · exact xφ k p
        | succ j => cases hj
    have back : ∀ {F' H' : Hp} {fx : List Addr} {e' : Env} {σ' : St}, Later F1 (L2.upd (L2.upd H1 dx (.own x)) x (.ins (c.C.a kc) dx [])) F' H' (fun a => P a ∨ ∃ i, a ∈ φ i) → (∀ a ∈ fx, ¬ (P a ∨ ∃ i, a ∈ φ i)) → Rel c [] F' e' σ' H' (fun a => P a ∨ ∃ i, a ∈ φ i) → (∀ a ∈ fx, H' a ≠ none ∧ F' a = none) → Rel c pn F' e1 σ H' (fun a => P a ∨ a ∈ fx) := by
      intro F' H' fx e' σ' l nf R' hfx
      obtain ⟨φ', t1, t2, t3, t4, t5, t6, t7, t8⟩ := R'
      refine ⟨φ, r1, t2, fun i n d g => ?_, r4, r5, r6, fun a ha => ?_, r8⟩
      · obtain ⟨v, g1, o⟩ := r3 i n d g
        exact ⟨v, g1, o.frame l.F fun a ha => ⟨l.P a (.inr ⟨i, ha⟩), (t7 a (.inr ⟨i, ha⟩)).2.1⟩⟩
      · rcases ha with ha | ha
        · exact ⟨(t7 a (.inl ha)).1, (t7 a (.inl ha)).2.1, (r7 a ha).2.2⟩
        · exact ⟨(hfx a ha).1, (hfx a ha).2, fun i hi => nf a ha (.inr ⟨i, hi⟩)⟩
    have hp : ∀ {r : FRes}, f ((9, .ins kc [] []) :: ds.map fun d => (0, d)) = r → r ≠ .stuck → ∃ p', p = p' + 1 := fun {r} e ne => by
      have := ar _ (e ▸ ne)
      exact ⟨_, this.symm.trans (List.length_cons ..)⟩
    cases hf : f ((9, .ins kc [] []) :: ds.map fun d => (0, d)) with
    | ok v ms' =>
      obtain ⟨n, d⟩ := v
      rw [hf] at q1
      cases d with
      | non =>
        cases ms' with
        | none => exact q1.elim
        | some s' =>
          obtain ⟨n', d'⟩ := s'
          have q1 : PoV c pn W σ P F1 _ Q (.ok (n', d') e1) := q1
          obtain ⟨p', rfl⟩ := hp hf (fun z => nomatch z)
          refine ⟨F1, _, _, ar _ (by rw [hf]; exact fun z => nomatch z), RA, ?_⟩
          rw [hf]
          intro v F' H' l rv
          have ev : v = .non := rv.rep
          subst ev
          obtain ⟨φ', t1, t2, t3, t4, t5, t6, t7, t8⟩ := rv.rel
          obtain ⟨v1, g1, o1⟩ := t3 0 n' d' rfl
          have g1 : some (some (V.ref x)) = some (some v1) := g1
          cases g1
          have nf : ∀ a ∈ φ' 0, ¬ (P a ∨ ∃ i, a ∈ φ i) := fun a ha z => (t7 a z).2.2 0 ha
          refine ⟨rfl, q1 _ F' H' ⟨l.F, fun a ha => l.P a (.inl ha)⟩ ⟨φ' 0, o1, t5 0, fun a ha z => nf a ha (.inl z), back l nf rv.rel fun a ha => ⟨(o1.fp a ha).2, (o1.fp a ha).1⟩⟩⟩
      | _ => exact q1.elim
    | exc k ns xs' ms' =>
      rw [hf] at q1
      obtain ⟨p', rfl⟩ := hp hf (fun z => nomatch z)
      refine ⟨F1, _, _, ar _ (by rw [hf]; exact fun z => nomatch z), RA, ?_⟩
      rw [hf]
      intro dd F' H' l R' x
      have R2 := back (fx := []) l (fun a ha => by simp at ha) R' (fun a ha => by simp at ha)
      exact q1 dd σ F' H' ⟨l.F, fun a ha => l.P a (.inl ha)⟩ (R2.weak fun a z => .inl z) x
    | stuck => rw [hf] at q1; exact q1.elim
theorem ok_new {f : FSem} {p kc : Nat} {ms : List (M Item)} {x : Str} {a : Expr} {es : List Expr} {pp pos : Pos} (D : NewOk X c x kc p f) (ar : Ar p f) (tk : Takes X W) (ha : OkA X c pn W (a :: es) (seqM ms))
    (hg : Gl X x := by rfl) (hdb : (x == ("__debug__" : Str)) = false := by decide) (he : starEach (a :: es) X.env = (false, eval a X.env) :: starEach es X.env := by rfl) (hpl : (backTo pos (starEach es X.env)).any (·.1) = false := by rfl) :
    OkV X c pn W (.Call (.Name x pp) (a :: es) [] pos) (vNew kc f ms) := by
  obtain ⟨k, fa, fd, ps, F, hr, hm, hk, hb⟩ := D.ex
  exact ⟨PE.imp (pe_makeS (E := WE W) hk F hr hg hm hb (fun σ => passAt tk σ) ha.ok hdb he hpl) fun σ H Q h => new_rd ar D.good h⟩
end
end Mini

set_option Elab.async false
set_option linter.all false
set_option maxRecDepth 100000
/-! MOps9: sorted of a tuple; built-ins. -/
namespace Mini
open PySem L2 PySem.Spec PyProof.Rows
section
variable {prog : Program} {w : World} {A : Around} {E : Value → Shared → Prop} {s : Shared}
theorem sorted_tupO {l : Addr} {vs : List Value} {ltv : Value → Value → Bool} {Q : Value → Shared → Prop} (O : SrtO.Swo ltv) (hl : IsTup s.heap l vs.toArray) (hz : vs.length ≤ sizeLine)
    (hS : 2 ≤ vs.length → ∀ (h₁ : Heap) (a : Addr), h₁.get? a = some (seqObj "list" vs.toArray 0) → (∀ b o, s.heap.get? b = some o → b ≠ a ∧ h₁.get? b = some o) → SrtO.SortableO prog w A.in1.in1 { s with heap := h₁ } a vs ltv)
    (h : ∀ (h' : Heap) (out : List Value), (∀ b o, s.heap.get? b = some o → h'.get? b = some o) → SrtO.Srtd ltv out → SrtO.Stb ltv out vs → Q (.ref h'.objs.size) { s with heap := sortedHeap (h'.push (seqObj "list" vs.toArray 0)) h'.objs.size vs out.toArray }) :
    wpAny (model prog w) A (call (.builtin "sorted") [.ref l]) Q E s := by
  refine Calls.call_function_entry kind_sorted plain_sorted entry_sorted (args_sorted1 _) ?_
  unfold Builtin.«sorted»
  refine wpAny_bind (m := checkCount "sorted" 1 1 _) (wpAny_pure ?_)
  obtain ⟨o, ho, hc, n, hd⟩ := id hl
  refine wpAny_bind (wpAny_collect_seq l (.inr rfl) ho hc hd (fun h' hk => ?_) (by simpa using hz))
  have el : vs.toArray.toList = vs := by simp
  rw [el]
  refine wpAny_bind (wpAny_newList ?_ hz)
  have hoL : (h'.push (seqObj "list" vs.toArray 0)).get? h'.objs.size = some (seqObj "list" vs.toArray 0) := Heap.get?_push_size _ rfl
  have keep : ∀ b o, s.heap.get? b = some o → b ≠ h'.objs.size ∧ (h'.push (seqObj "list" vs.toArray 0)).get? b = some o := fun b o q =>
    ⟨Nat.ne_of_lt (Heap.lt_size (hk b o q)), Heap.get?_push_of_some _ (hk b o q)⟩
  show wpAny _ _ _ _ _ { s with heap := h'.push (seqObj "list" vs.toArray 0) }
  refine wpAny_bind (wpAny_holding (wpAny_call_entry slot_list_sort ⟨_, hoL, rfl⟩ entry_list_sort (SrtO.list_sort_ord O hoL hz (fun h2 => hS h2 _ _ hoL keep) fun out hs hb => ⟨_, rfl, ?_⟩) (args_list_sort _)))
  exact wpAny_pure ⟨_, rfl, h h' out hk hs hb⟩
end
section
variable {X : Cx}
/-- sorted(xs), ints, of a list or a tuple -/
def rSortedA (K : PySem.W.Frag) : List V → Hp → VK → Prop := fun vs H Q => ∃ (a : Addr) (ns : List Int), vs = [V.ref a] ∧ (SqL K H a (ns.map V.int) ∨ SqT K H a (ns.map V.int)) ∧
  ∀ (ns' : List Int) (p : Addr), ns'.Perm ns → ns'.Pairwise (· ≤ ·) → H p = none → Q (.ref p) (upd H p (.lst (ns'.map V.int)))
theorem cr_sortedA : CallR X (.builtin "sorted") (rSortedA X.K) := by
  intro pins s σ H vs us Q I r h
  obtain ⟨a, ns, rfl, hs, q⟩ := h
  rcases hs with hs | hs
  · exact cr_sortedI pins s σ H _ us Q I r ⟨a, ns, rfl, hs, q⟩
  · obtain ⟨its, rv, hl, hz⟩ := I.tuple hs
    rw [Vals.ref1 r]
    have hi := rv.ints
    refine sorted_tupO SrtO.swo_int hl (by rw [← rv.length]; exact hz) (fun h2 h₁ a' _ _ => SrtO.ints_sortable hi h2) fun h' out hk h1 h2 => ?_
    obtain ⟨k1, k2, k3⟩ := SrtO.ints_out hi h1 h2
    obtain ⟨ep, he'⟩ := sortedHeap_at (h := h'.push (seqObj "list" its.toArray 0)) (a := h'.objs.size) (vs := its) (n := 0) (out := out.toArray) (Heap.get?_push_size _ rfl)
    have hlen : ((out.map SrtO.iv).map V.int).length ≤ sizeLine := by
      rw [List.length_map, k2.length_eq]
      rw [List.length_map] at hz
      exact hz
    have I1 : Inv X pins σ H { s with heap := h' } := I.kept (t' := s.toks) hk
    exact ⟨.ref _, upd H h'.objs.size (.lst ((out.map SrtO.iv).map V.int)), I1.laid (t' := s.toks) (fun b o e => (sortedHeap_old (Nat.ne_of_lt (Heap.lt_size e)) (by rw [size_push']; exact Nat.lt_succ_of_lt (Heap.lt_size e))).trans (Heap.get?_push_of_some _ e)) (Nat.le_refl _) ⟨hlen, out, ep, vals_of_ints k1, he'⟩, rfl, q _ _ k2 k3 (I1.hok.fresh (Nat.le_refl _))⟩
end
end Mini

set_option Elab.async false
set_option linter.all false
set_option maxRecDepth 100000
/-! MOps10: built-ins by trees. -/
namespace Mini
open PySem L2
def maxI : Int → List Int → Int
  | m, [] => m
  | m, n :: ns => maxI (if n > m then n else m) ns
def minI : Int → List Int → Int
  | m, [] => m
  | m, n :: ns => minI (if n < m then n else m) ns
def fMax : List D → Option Vl
  | [.box .lst ds] => match intsOf ds with
    | some (n :: ns) => some (0, .int (maxI n ns))
    | _ => none
  | _ => none
def fMin : List D → Option Vl
  | [.box .lst ds] => match intsOf ds with
    | some (n :: ns) => some (0, .int (minI n ns))
    | _ => none
  | _ => none
def fMax2 : List D → Option Vl
  | [.int i, .int j] => some (0, .int (if j > i then j else i))
  | _ => none
def fMin2 : List D → Option Vl
  | [.int i, .int j] => some (0, .int (if j < i then j else i))
  | _ => none
/-- xs.index(x), flat things; l: of a list -/
def fIndex (l : Bool) (d : D) (x : D) : Option Vl := match l, d with
  | true, .box .lst ds => if flatD x && ds.all flatD then (ds.findIdx? fun y => eqF y x).map fun j => (0, .int (j : Nat)) else none
  | false, .box .tup ds => if flatD x && ds.all flatD then (ds.findIdx? fun y => eqF y x).map fun j => (0, .int (j : Nat)) else none
  | _, _ => none
def kindD : D → Option Bool
  | .box .lst _ => some true
  | .box .tup _ => some false
  | _ => none
def kindI : Item → M Bool
  | .val d => opt (kindD d)
  | .bor i => fun e => match getS e i with
    | some (_, d) => opt (kindD d) e
    | none => .stuck
/-- xs.index(a): its kind is looked at first -/
def vIndex (a b : M Item) : M Vl := bnd a fun x => bnd (kindI x) fun l => bnd (seqM [b]) fun ys => match ys with
  | [y] => bnd (res x) fun d => bnd (res y) fun d' => opt (fIndex l d d')
  | _ => stk
/-- list(range(a)), tuple(range(a)), .. -/
def vRg (tup : Bool) (m : M (List D)) : M Vl := bnd m fun ds => if tup then ret (0, .tup ds) else ret (1, .lst ds)
/-- a op b op' c -/
def vChain (f g : D → D → Option Vl) (a b c : M Item) : M Vl := bnd a fun x => bnd b fun y => bnd (res x) fun d => bnd (res y) fun d' => bnd (opt (f d d')) fun v => match v.2 with
  | .bl true => bnd c fun z => bnd (res y) fun d' => bnd (res z) fun d'' => opt (g d' d'')
  | .bl false => ret (0, .bl false)
  | _ => stk
section
variable {X : Cx} {c : Ctx} {pn : Pins} {W : WX} {F H : Hp} {e : Env} {σ : St} {P : Addr → Prop}
def rListA (K : PySem.W.Frag) : List V → Hp → VK → Prop := fun xs H Q => ∃ p ys, xs = [.ref p] ∧ (SqL K H p ys ∨ SqT K H p ys) ∧ ∀ l, H l = none → Q (.ref l) (upd H l (.lst ys))
theorem o_list (hK : c.K = X.K) : OpN c (rListA X.K) fList := by
  intro pn F e σ H P ds n z xs Q R s hf q
  rw [← hK]
  rcases ds with _ | ⟨d, _ | ⟨d2, rest⟩⟩
  · cases hf
  · obtain ⟨v, rfl, s1⟩ := shs1 s rfl
    cases d with
    | box h ds => cases h with
      | lst =>
        cases hf
        obtain ⟨a, vs, rfl, s1, s2, s3, _⟩ := s1
        refine ⟨a, vs, rfl, .inl (SqL.of s1), fun p hp => ?_⟩
        obtain ⟨l, r⟩ := new_own (o := .lst vs) (h := .lst) R hp (fun z => nomatch z) upd_same s2 s3
        exact q _ F _ l r
      | tup =>
        cases hf
        obtain ⟨a, vs, rfl, s1, s2, s3, _⟩ := s1
        refine ⟨a, vs, rfl, .inr (TupS.sq s1), fun p hp => ?_⟩
        obtain ⟨l, r⟩ := new_own (o := .lst vs) (h := .lst) R hp (fun z => nomatch z) upd_same s2 s3
        exact q _ F _ l r
      | _ => cases hf
    | scr ns =>
      cases hf
      obtain ⟨a, rfl, s1, s2⟩ := s1
      refine ⟨a, _, rfl, .inl (Same.seq R.same s1), fun p hp => ?_⟩
      obtain ⟨l, r⟩ := new_own (o := .lst (ns.map V.int)) (h := .lst) R hp (fun z => nomatch z) upd_same (by simpa using s2) (reps_ints ns)
      exact q _ F _ l r
    | _ => cases hf
  · simp [fList] at hf
theorem o_tuple (hK : c.K = X.K) : OpN c (rTupZ X.K) fTuple := by
  intro pn F e σ H P ds n z xs Q R s hf q
  rw [← hK]
  rcases ds with _ | ⟨d, _ | ⟨d2, rest⟩⟩
  · cases hf
  · obtain ⟨v, rfl, s1⟩ := shs1 s rfl
    cases d with
    | box h ds => cases h with
      | lst =>
        cases hf
        obtain ⟨a, vs, rfl, s1, s2, s3, _⟩ := s1
        refine ⟨a, vs, rfl, .inl ⟨SqL.of s1, fun p o ho hp => ?_⟩⟩
        obtain ⟨F', l, r⟩ := new_tup R ho hp s2 s3
        exact q _ F' _ l r
      | tup =>
        cases hf
        obtain ⟨a, vs, rfl, s1, s2, s3, s4⟩ := s1
        exact ⟨a, vs, rfl, .inr ⟨TupS.sq s1, sc R q rfl ⟨a, vs, rfl, s4 rfl, s2, s3⟩⟩⟩
      | _ => cases hf
    | _ => cases hf
  · simp [fTuple] at hf
theorem o_int : OpN c (fun xs H Q => (∃ i, xs = [.int i] ∧ Q (.int i) H) ∨ ∃ k, xs = [.bl k] ∧ Q (.int (if k then 1 else 0)) H) fInt := by
  intro pn F e σ H P ds n z xs Q R s hf q
  rcases ds with _ | ⟨d, _ | ⟨d2, rest⟩⟩
  · cases hf
  · obtain ⟨v, rfl, s1⟩ := shs1 s rfl
    cases d with
    | int i =>
      cases hf
      have s1 : v = .int i := s1
      subst s1
      exact .inl ⟨i, rfl, sc R q rfl rfl⟩
    | bl b =>
      cases hf
      have s1 : v = .bl b := s1
      subst s1
      exact .inr ⟨b, rfl, sc R q rfl rfl⟩
    | _ => cases hf
  · simp [fInt] at hf
theorem o_abs : OpN c (fun xs H Q => ∃ i, xs = [.int i] ∧ Q (.int (if i < 0 then -i else i)) H) fAbs := by
  intro pn F e σ H P ds n z xs Q R s hf q
  rcases ds with _ | ⟨d, _ | ⟨d2, rest⟩⟩
  · cases hf
  · obtain ⟨v, rfl, s1⟩ := shs1 s rfl
    cases d with
    | int i =>
      cases hf
      have s1 : v = .int i := s1
      subst s1
      exact ⟨i, rfl, sc R q rfl rfl⟩
    | _ => cases hf
  · simp [fAbs] at hf
theorem ints_of : ∀ {ds : List D} {vs : List V} {ns : List Int}, intsOf ds = some ns → Reps c.K c.C F ds vs → vs = ns.map V.int
  | [], vs, ns, h, r => by
    cases h
    exact r
  | .int b :: ds, vs, ns, h, ⟨v, ws, e, r1, r2⟩ => by
    subst e
    unfold intsOf at h
    cases q : intsOf ds with
    | none => rw [q] at h; cases h
    | some ns' =>
      rw [q] at h
      cases h
      have r1 : v = .int b := r1
      rw [r1, ints_of q r2]; rfl
  | .non :: _, _, _, h, _ => by cases h
  | .bl _ :: _, _, _, h, _ => by cases h
  | .str _ :: _, _, _, h, _ => by cases h
  | .box _ _ :: _, _, _, h, _ => by cases h
  | .scr _ :: _, _, _, h, _ => by cases h
theorem ints_len : ∀ {ds : List D} {ns : List Int}, intsOf ds = some ns → ds.length = ns.length
  | [], ns, h => by cases h; rfl
  | .int b :: ds, ns, h => by
    unfold intsOf at h
    cases q : intsOf ds with
    | none => rw [q] at h; cases h
    | some ns' => rw [q] at h; cases h; simp [ints_len q]
  | .non :: _, _, h => by cases h
  | .bl _ :: _, _, h => by cases h
  | .str _ :: _, _, h => by cases h
  | .box _ _ :: _, _, h => by cases h
  | .scr _ :: _, _, h => by cases h
theorem o_sum (hK : c.K = X.K) : OpN c (rSum X.K) fSum := by
  intro pn F e σ H P ds n z xs Q R s hf q
  rw [← hK]
  rcases ds with _ | ⟨d, _ | ⟨d2, rest⟩⟩
  · cases hf
  · obtain ⟨v, rfl, s1⟩ := shs1 s rfl
    cases d with
    | box h ds => cases h with
      | lst =>
        obtain ⟨a, vs, rfl, s1, s2, s3, _⟩ := s1
        have hf : (intsOf ds).map (fun ns => ((0, .int ns.sum) : Vl)) = some (n, z) := hf
        cases hb : intsOf ds with
        | none => rw [hb] at hf; cases hf
        | some ns =>
          rw [hb] at hf
          cases hf
          have e := ints_of hb s3
          subst e
          exact ⟨a, ns, rfl, SqL.of s1, sc R q rfl rfl⟩
      | _ => cases hf
    | _ => cases hf
  · simp [fSum] at hf
theorem sort_uniq {ns' ns : List Int} (h1 : ns'.Perm ns) (h2 : ns'.Pairwise (· ≤ ·)) : ns' = sortI ns := by
  refine List.Perm.eq_of_pairwise (le := (· ≤ ·)) (fun a b _ _ x y => Int.le_antisymm x y) h2 ?_ (h1.trans (List.mergeSort_perm _ _).symm)
  exact (List.pairwise_mergeSort (le := fun a b => decide (a ≤ b)) (fun a b c x y => decide_eq_true (Int.le_trans (of_decide_eq_true x) (of_decide_eq_true y))) (fun a b => by
    rcases Int.le_total a b with h | h <;> simp [h]) ns).imp fun h => of_decide_eq_true h
theorem o_sorted (hK : c.K = X.K) : OpN c (rSortedA X.K) fSorted := by
  intro pn F e σ H P ds n z xs Q R s hf q
  rw [← hK]
  have key : ∀ {a : Addr} {vs : List V} {ds : List D} {ns : List Int} {p : Addr} {ns' : List Int}, intsOf ds = some ns → ds.length ≤ sizeLine → H p = none → ns'.Perm ns → ns'.Pairwise (· ≤ ·) → (n, z) = ((1, .lst ((sortI ns).map .int)) : Vl) → Q (.ref p) (upd H p (.lst (ns'.map V.int))) := by
    intro a vs ds ns p ns' hb hl hp h1 h2 e2
    have e3 := sort_uniq h1 h2
    subst e3
    cases e2
    obtain ⟨l, r⟩ := new_own (o := .lst ((sortI ns).map V.int)) (h := .lst) R hp (fun z => nomatch z) upd_same (by rw [List.length_map, h1.length_eq, ← ints_len hb]; exact hl) (reps_ints (sortI ns))
    exact q _ F _ l r
  rcases ds with _ | ⟨d, _ | ⟨d2, rest⟩⟩
  · cases hf
  · obtain ⟨v, rfl, s1⟩ := shs1 s rfl
    cases d with
    | box h ds => cases h with
      | lst =>
        obtain ⟨a, vs, rfl, s1, s2, s3, _⟩ := s1
        have hf : (intsOf ds).map (fun ns => ((1, .lst ((sortI ns).map .int)) : Vl)) = some (n, z) := hf
        cases hb : intsOf ds with
        | none => rw [hb] at hf; cases hf
        | some ns =>
          rw [hb] at hf
          have e := ints_of hb s3
          subst e
          exact ⟨a, ns, rfl, .inl (SqL.of s1), fun ns' p h1 h2 hp => key (a := a) (vs := []) hb s2 hp h1 h2 (Option.some.inj hf).symm⟩
      | tup =>
        obtain ⟨a, vs, rfl, s1, s2, s3, _⟩ := s1
        have hf : (intsOf ds).map (fun ns => ((1, .lst ((sortI ns).map .int)) : Vl)) = some (n, z) := hf
        cases hb : intsOf ds with
        | none => rw [hb] at hf; cases hf
        | some ns =>
          rw [hb] at hf
          have e := ints_of hb s3
          subst e
          exact ⟨a, ns, rfl, .inr (TupS.sq s1), fun ns' p h1 h2 hp => key (a := a) (vs := []) hb s2 hp h1 h2 (Option.some.inj hf).symm⟩
      | _ => cases hf
    | _ => cases hf
  · simp [fSorted] at hf
theorem maxI_ok : ∀ (ns : List Int) (m : Int), (∀ y, y ∈ m :: ns → y ≤ maxI m ns) ∧ maxI m ns ∈ m :: ns
  | [], m => ⟨fun y hy => by rw [List.mem_singleton.mp hy]; exact Int.le_refl _, List.mem_singleton.mpr rfl⟩
  | n :: ns, m => by
    obtain ⟨h1, h2⟩ := maxI_ok ns (if n > m then n else m)
    have h0 : (if n > m then n else m) ≤ maxI m (n :: ns) := h1 _ List.mem_cons_self
    have a1 : m ≤ (if n > m then n else m) := by split <;> omega
    have a2 : n ≤ (if n > m then n else m) := by split <;> omega
    refine ⟨fun y hy => ?_, ?_⟩
    · rcases List.mem_cons.mp hy with rfl | hy
      · exact Int.le_trans a1 h0
      · rcases List.mem_cons.mp hy with rfl | hy
        · exact Int.le_trans a2 h0
        · exact h1 y (List.mem_cons_of_mem _ hy)
    · show maxI (if n > m then n else m) ns ∈ m :: n :: ns
      rcases List.mem_cons.mp h2 with h | h
      · rw [h]; split <;> simp
      · exact List.mem_cons_of_mem _ (List.mem_cons_of_mem _ h)
theorem minI_ok : ∀ (ns : List Int) (m : Int), (∀ y, y ∈ m :: ns → minI m ns ≤ y) ∧ minI m ns ∈ m :: ns
  | [], m => ⟨fun y hy => by rw [List.mem_singleton.mp hy]; exact Int.le_refl _, List.mem_singleton.mpr rfl⟩
  | n :: ns, m => by
    obtain ⟨h1, h2⟩ := minI_ok ns (if n < m then n else m)
    have h0 : minI m (n :: ns) ≤ (if n < m then n else m) := h1 _ List.mem_cons_self
    have a1 : (if n < m then n else m) ≤ m := by split <;> omega
    have a2 : (if n < m then n else m) ≤ n := by split <;> omega
    refine ⟨fun y hy => ?_, ?_⟩
    · rcases List.mem_cons.mp hy with rfl | hy
      · exact Int.le_trans h0 a1
      · rcases List.mem_cons.mp hy with rfl | hy
        · exact Int.le_trans h0 a2
        · exact h1 y (List.mem_cons_of_mem _ hy)
    · show minI (if n < m then n else m) ns ∈ m :: n :: ns
      rcases List.mem_cons.mp h2 with h | h
      · rw [h]; split <;> simp
      · exact List.mem_cons_of_mem _ (List.mem_cons_of_mem _ h)
theorem o_max (hK : c.K = X.K) : OpN c (rMax X.K) fMax := by
  intro pn F e σ H P ds n z xs Q R s hf q
  rw [← hK]
  rcases ds with _ | ⟨d, _ | ⟨d2, rest⟩⟩
  · cases hf
  · obtain ⟨v, rfl, s1⟩ := shs1 s rfl
    cases d with
    | box h ds => cases h with
      | lst =>
        obtain ⟨a, vs, rfl, s1, s2, s3, _⟩ := s1
        unfold fMax at hf
        dsimp only at hf
        cases hb : intsOf ds with
        | none => rw [hb] at hf; cases hf
        | some ns =>
          rw [hb] at hf
          have e := ints_of hb s3
          subst e
          cases ns with
          | nil => cases hf
          | cons m ns =>
            cases hf
            refine ⟨a, m :: ns, rfl, SqL.of s1, Nat.succ_pos _, fun k h1 h2 => ?_⟩
            obtain ⟨g1, g2⟩ := maxI_ok ns m
            have ek : k = maxI m ns := Int.le_antisymm (g1 k h1) (h2 _ g2)
            subst ek
            exact sc R q rfl rfl
      | _ => cases hf
    | _ => cases hf
  · simp [fMax] at hf
theorem o_min (hK : c.K = X.K) : OpN c (rMin X.K) fMin := by
  intro pn F e σ H P ds n z xs Q R s hf q
  rw [← hK]
  rcases ds with _ | ⟨d, _ | ⟨d2, rest⟩⟩
  · cases hf
  · obtain ⟨v, rfl, s1⟩ := shs1 s rfl
    cases d with
    | box h ds => cases h with
      | lst =>
        obtain ⟨a, vs, rfl, s1, s2, s3, _⟩ := s1
        unfold fMin at hf
        dsimp only at hf
        cases hb : intsOf ds with
        | none => rw [hb] at hf; cases hf
        | some ns =>
          rw [hb] at hf
          have e := ints_of hb s3
          subst e
          cases ns with
          | nil => cases hf
          | cons m ns =>
            cases hf
            refine ⟨a, m :: ns, rfl, SqL.of s1, Nat.succ_pos _, fun k h1 h2 => ?_⟩
            obtain ⟨g1, g2⟩ := minI_ok ns m
            have ek : k = minI m ns := Int.le_antisymm (h2 _ g2) (g1 k h1)
            subst ek
            exact sc R q rfl rfl
      | _ => cases hf
    | _ => cases hf
  · simp [fMin] at hf
end
end Mini

set_option Elab.async false
set_option linter.all false
set_option maxRecDepth 100000
/-! MOps11: places, membership in all kinds; chains; ranges as lists; pairs; a, b = x, y. -/
namespace Mini
open PySem L2
/-- a list's, a tuple's, a text's, a dict's item -/
def fIxA (d k : D) : Option Vl := match d with
  | .box (.dK _) _ => fGet d k
  | _ => fIx d k
def fInA (k d : D) : Option Vl := match d with
  | .box (.dK _) _ => fInD false k d
  | _ => fIn k d
def fNotInA (k d : D) : Option Vl := match d with
  | .box (.dK _) _ => fInD true k d
  | _ => fNotIn k d
def zipK : Item → Item → M (List D)
  | .val (.box .lst ds), .val (.box .lst es) => ret (zipD ds es)
  | .val (.box .tup ds), .val (.box .tup es) => ret (zipD ds es)
  | _, _ => stk
/-- zip of two lists, of two tuples -/
def itZipA (a b : M Item) : M (List D) := bnd (seqM [a, b]) fun xs => match xs with
  | [x, y] => zipK x y
  | _ => stk
def enumK : Item → M (List D)
  | .val (.box .lst ds) => ret (enumD 0 ds)
  | _ => stk
def itEnumA (a : M Item) : M (List D) := bnd (seqM [a]) fun xs => match xs with
  | [x] => enumK x
  | _ => stk
/-- a, b = x, y -/
def sPar2 (i j : Nat) (a b : M Vl) : M Fl := bnd a fun v => bnd b fun w => bnd (setS i v) fun _ => bnd (setS j w) fun _ => ret .nx
def sPar3 (i j k : Nat) (a b c : M Vl) : M Fl := bnd a fun v => bnd b fun w => bnd c fun u => bnd (setS i v) fun _ => bnd (setS j w) fun _ => bnd (setS k u) fun _ => ret .nx
section
variable {X : Cx} {c : Ctx} {pn : Pins} {W : WX} {F H : Hp} {e : Env} {σ : L2.St} {P : Addr → Prop}
theorem ix_dict (hu : X.A.units + 1 < cLine) : IxR X rDGet := by
  intro value slice pins s σ H x y v u Q I rx ry h hs
  obtain ⟨a, z, rfl, g, q⟩ := h
  cases rx
  exact PyProof.Rows.tail_any (dict_typeIs I g) PySem.F.slot_dict_getitem.lookup (d_getItem hu I g ry fun w' s3 I3 rw' => ⟨z, H, I3, rw', q⟩) hs
def rIxA (K : PySem.W.Frag) : R2 := fun x y H Q => rIx K x y H Q ∨ rDGet x y H Q
theorem ix_all (hu : X.A.units + 1 < cLine) : IxR X (rIxA X.K) := IxR.or ix_seq (ix_dict hu)
theorem o_ixA (hK : c.K = X.K) : Op2 c (rIxA X.K) fIxA := by
  intro pn F e σ H P d d' n z x y Q R sx sy hf q
  have no : ∀ {d : D}, fIxA d d' = fIx d d' → fIxA d d' = some (n, z) → Sh c F H d x → rIxA X.K x y H Q := fun h1 h2 s => .inl (o_ix hK pn F e σ H P _ d' n z x y Q R s sy (h1 ▸ h2) q)
  cases d with
  | box h ds => cases h with
    | dK ks => exact .inr (o_get pn F e σ H P _ d' n z x y Q R sx sy hf q)
    | _ => exact no rfl hf sx
  | _ => exact no rfl hf sx
def rInD (neg : Bool) : R2 := fun y x H Q => ∃ a o, x = .ref a ∧ DGet H a y o ∧ Q (.bl (if neg then !o.isSome else o.isSome)) H
theorem op_inD (hu : X.A.units + 1 < cLine) : OpR X (compareOp .In) (rInD false) := by
  intro pins s σ H y x u v Q I ry rx h
  obtain ⟨a, o, rfl, g, q⟩ := h
  cases rx
  exact d_in hu I g ry fun s3 I3 => ⟨.bl o.isSome, H, I3, rfl, q⟩
theorem op_notInD (hu : X.A.units + 1 < cLine) : OpR X (compareOp .NotIn) (rInD true) := by
  intro pins s σ H y x u v Q I ry rx h
  obtain ⟨a, o, rfl, g, q⟩ := h
  cases rx
  exact d_notIn hu I g ry fun s3 I3 => ⟨.bl !o.isSome, H, I3, rfl, q⟩
theorem o_inD (neg : Bool) : Op2 c (rInD neg) (fInD neg) := by
  intro pn F e σ H P d d' n z x y Q R sx sy hf q
  cases d' with
  | box h ds => cases h with
    | dK ks =>
      have hf : (keyD d).map (fun k => ((0, .bl (if neg then !(findK ks ds k).isSome else (findK ks ds k).isSome)) : Vl)) = some (n, z) := hf
      cases hk : keyD d with
      | none => rw [hk] at hf; cases hf
      | some k =>
        rw [hk] at hf
        cases hf
        obtain ⟨a, vs, rfl, s1, s2, s3, s4⟩ := sy
        have e2 := key_of hk sx
        subst e2
        refine ⟨a, _, rfl, DGet.k s1.1, ?_⟩
        rw [← findK_isSome s3.length]
        exact sc R q rfl rfl
    | _ => cases hf
  | _ => cases hf
def rInA (K : PySem.W.Frag) (neg : Bool) : R2 := fun x y H Q => rIn K neg x y H Q ∨ rInD neg x y H Q
theorem op_inA (hu : X.A.units + 1 < cLine) : OpR X (compareOp .In) (rInA X.K false) := OpR.or op_in_seq (op_inD hu)
theorem op_notInA (hu : X.A.units + 1 < cLine) : OpR X (compareOp .NotIn) (rInA X.K true) := OpR.or op_notIn_seq (op_notInD hu)
theorem o_inA (hK : c.K = X.K) : Op2 c (rInA X.K false) fInA := by
  intro pn F e σ H P d d' n z x y Q R sx sy hf q
  have no : ∀ {d' : D}, fInA d d' = fIn d d' → fInA d d' = some (n, z) → Sh c F H d' y → rInA X.K false x y H Q := fun h1 h2 s => .inl (o_in hK pn F e σ H P d _ n z x y Q R sx s (h1 ▸ h2) q)
  cases d' with
  | box h ds => cases h with
    | dK ks => exact .inr (o_inD false pn F e σ H P d _ n z x y Q R sx sy hf q)
    | _ => exact no rfl hf sy
  | _ => exact no rfl hf sy
theorem o_notInA (hK : c.K = X.K) : Op2 c (rInA X.K true) fNotInA := by
  intro pn F e σ H P d d' n z x y Q R sx sy hf q
  have no : ∀ {d' : D}, fNotInA d d' = fNotIn d d' → fNotInA d d' = some (n, z) → Sh c F H d' y → rInA X.K true x y H Q := fun h1 h2 s => .inl (o_notIn hK pn F e σ H P d _ n z x y Q R sx s (h1 ▸ h2) q)
  cases d' with
  | box h ds => cases h with
    | dK ks => exact .inr (o_inD true pn F e σ H P d _ n z x y Q R sx sy hf q)
    | _ => exact no rfl hf sy
  | _ => exact no rfl hf sy
/-! ### chains -/
theorem chain_rd {r r' : R2} {f g : D → D → Option Vl} {ma mb md : M Item} (of : Op2 c r f) (og : Op2 c r' g) {σ : L2.St} {H : Hp} {Q : VK} (h : rdV c pn W (vChain f g ma mb md) σ H Q) : tChain r r' (rdO c pn W ma) (rdO c pn W mb) (rdO c pn W md) σ H Q := by
  obtain ⟨F, e, P, R, q⟩ := h
  refine ⟨F, e, P, R, ?_⟩
  refine chV (R := fun F x v => IRel c F σ x v) q fun x e1 v F1 H1 l1 R1 i1 q1 => ?_
  refine ⟨F1, e1, P, R1, chV (R := fun F x v => IRel c F σ x v) q1 fun y e2 w F2 H2 l2 R2 i2 q2 => ?_⟩
  obtain ⟨F3, d1, e3, l3, s3, R3, q3⟩ := chResV q2 R2 (i1.mono l2.F)
  obtain ⟨F4, d2, e4, l4, s4, R4, q4⟩ := chResV q3 R3 (i2.mono l3.F)
  cases hf : f d1 d2 with
  | none => rw [hf] at q4; exact q4.elim
  | some z =>
    obtain ⟨n, z⟩ := z
    rw [hf] at q4
    refine of pn F4 e4 σ H2 P d1 d2 n z v w _ R4 (s3.mono l4.F) s4 hf fun vb F5 H5 l5 R5 => ?_
    cases z with
    | bl b =>
      have rb : vb = .bl b := R5.rep
      subst rb
      refine ⟨b, rfl, ?_⟩
      cases b with
      | false =>
        have q4 : PoV c pn W σ P F4 H2 Q (.ok (0, .bl false) e4) := q4
        exact q4 (.bl false) F5 H5 l5 (RelV.zero R5.rel rfl)
      | true =>
        rw [if_pos rfl]
        have q5 : PoV c pn W σ P F5 H5 Q (bnd md (fun z => bnd (res y) fun d' => bnd (res z) fun d'' => opt (g d' d'')) e4) := PoV.later l5 (show PoV c pn W σ P F4 H2 Q (bnd md (fun z => bnd (res y) fun d' => bnd (res z) fun d'' => opt (g d' d'')) e4) from q4)
        refine ⟨F5, e4, P, R5.rel, chV (R := fun F x v => IRel c F σ x v) q5 fun zz e6 u F6 H6 l6 R6 i6 q6 => ?_⟩
        obtain ⟨F7, d3, e7, l7, s7, R7, q7⟩ := chResV q6 R6 (i2.mono (l3.F.trans (l4.F.trans (l5.F.trans l6.F))))
        obtain ⟨F8, d4, e8, l8, s8, R8, q8⟩ := chResV q7 R7 (i6.mono l7.F)
        cases hg : g d3 d4 with
        | none => rw [hg] at q8; exact q8.elim
        | some z' =>
          obtain ⟨n', z'⟩ := z'
          rw [hg] at q8
          exact og pn F8 e8 σ H6 P d3 d4 n' z' w u Q R8 (s7.mono l8.F) s8 hg q8
    | _ => exact q4.elim
theorem ok_chain {op op' : CmpOp} {r r' : R2} {f g : D → D → Option Vl} {a b d : Expr} {ma mb md : M Item} {pos : Pos} (ho : OpR X (compareOp op) r) (of : Op2 c r f) (ho' : OpR X (compareOp op') r') (og : Op2 c r' g) (ha : OkO X c pn W a ma) (hb : OkO X c pn W b mb) (hd : OkO X c pn W d md)
    (hm : lastMarks [op, op'] [b, d] = false := by with_unfolding_all rfl) : OkV X c pn W (.Compare a [op, op'] [b, d] pos) (vChain f g ma mb md) :=
  ⟨PE.imp (pe_chain ho ho' ha.ok hb.ok hd.ok hm) fun _ _ _ h => chain_rd of og h⟩
/-! ### list(range(..)), tuple(range(..)) -/
theorem seqM_one {α : Type} {m : M Item} {f : List Item → M α} : bnd (seqM [m]) f = bnd m fun x => f [x] := by
  funext e
  show bnd (bnd m fun b => bnd (ret []) fun bs => ret (b :: bs)) f e = _
  unfold bnd
  cases m e <;> rfl
theorem seqM_two {α : Type} {m m' : M Item} {f : List Item → M α} : bnd (seqM [m, m']) f = bnd m fun x => bnd m' fun y => f [x, y] := by
  funext e
  show bnd (bnd m fun b => bnd (bnd m' fun b => bnd (ret []) fun bs => ret (b :: bs)) fun bs => ret (b :: bs)) f e = _
  unfold bnd
  cases m e with
  | ok a e1 =>
    dsimp only
    cases m' e1 <;> rfl
  | _ => rfl
theorem reps_range (a b : Int) : Reps c.K c.C F (rangeL a b) (rgV a b) := by
  unfold rangeL rgV
  generalize List.range (b - a).toNat = l
  induction l with
  | nil => rfl
  | cons x xs ih => exact ⟨_, _, rfl, rfl, ih⟩
theorem rg_ok {i j : Int} (h1 : bigI i = true) (h2 : bigI j = true) (h3 : j - i ≤ 16777216) : RgOk i j := by
  unfold bigI at h1 h2
  rw [Bool.and_eq_true] at h1 h2
  have a := of_decide_eq_true h1.1
  have b := of_decide_eq_true h1.2
  have a' := of_decide_eq_true h2.1
  have b' := of_decide_eq_true h2.2
  exact ⟨by omega, by omega, by omega, by omega, by omega⟩
theorem range_len (a b : Int) : (rangeL a b).length = (b - a).toNat := by simp [rangeL]
theorem rg_end {tup : Bool} {i j : Int} {Q : VK} (ok : RgOk i j) (R : Rel c pn F e σ H P) (q : PoV c pn W σ P F H Q ((if tup then ret ((0, .tup (rangeL i j)) : Vl) else ret (1, .lst (rangeL i j))) e)) :
    if tup then NewT (rgV i j) H Q else ∀ p, H p = none → Q (.ref p) (upd H p (.lst (rgV i j))) := by
  have hl : (rangeL i j).length ≤ sizeLine := by
    rw [range_len, sizeLine_eq]
    have := ok.2.2.2.2
    omega
  cases tup with
  | false =>
    rw [if_neg Bool.false_ne_true] at q ⊢
    intro p hp
    obtain ⟨l, r⟩ := new_own (o := .lst (rgV i j)) (h := .lst) R hp (fun z => nomatch z) upd_same hl (reps_range i j)
    exact q _ F _ l r
  | true =>
    rw [if_pos rfl] at q ⊢
    intro p o ho hp
    obtain ⟨F', l, r⟩ := new_tup R ho hp hl (reps_range i j)
    exact q _ F' _ l r
def tRgA (tup : Bool) (te : L2.St → Hp → (Int → Int → Hp → Prop) → Prop) : TE := fun σ H Q => te σ H fun a b H1 => RgOk a b ∧ (if tup then NewT (rgV a b) H1 Q else ∀ p, H1 p = none → Q (.ref p) (upd H1 p (.lst (rgV a b))))
theorem rg1_rd {tup : Bool} {m : M Item} {σ : L2.St} {H : Hp} {Q : VK} (h : rdV c pn W (vRg tup (itRange1 m)) σ H Q) : tRgA tup (tRg1 (rdO c pn W m)) σ H Q := by
  obtain ⟨F, e, P, R, q⟩ := h
  have q : PoV c pn W σ P F H Q (bnd m (fun x => bnd (bnd (res x) fun d => match d with
    | .int j => if bigI j && decide (j ≤ 16777216) then ret (rangeL 0 j) else stk
    | _ => stk) fun ds => if tup then ret (0, .tup ds) else ret (1, .lst ds)) e) := by
    have e1 : vRg tup (itRange1 m) e = bnd m (fun x => bnd (bnd (res x) fun d => match d with
      | .int j => if bigI j && decide (j ≤ 16777216) then ret (rangeL 0 j) else stk
      | _ => stk) fun ds => if tup then ret (0, .tup ds) else ret (1, .lst ds)) e := by
      unfold vRg itRange1
      rw [seqM_one]
      unfold bnd
      cases m e <;> rfl
    rw [← e1]; exact q
  refine ⟨F, e, P, R, chV (R := fun F x v => IRel c F σ x v) q fun x e1 v F1 H1 l1 R1 i1 q1 => ?_⟩
  rcases res_ok R1 i1 with z | ⟨F2, d, e2, z, l2, s2, R2⟩
  · rw [bnd_stuck (bnd_stuck z)] at q1; exact q1.elim
  · have q1 : PoV c pn W σ P F1 H1 Q (bnd (bnd (res x) _) _ e1) := q1
    cases d with
    | int j =>
      by_cases hb : (bigI j && decide (j ≤ 16777216)) = true
      · rw [bnd_ok (a := rangeL 0 j) (e' := e2) (by rw [bnd_ok z]; dsimp only; rw [if_pos hb]; rfl)] at q1
        rw [Bool.and_eq_true] at hb
        have ok : RgOk 0 j := rg_ok (by decide) hb.1 (by have := of_decide_eq_true hb.2; omega)
        exact ⟨j, s2, ok, rg_end ok R2 (q1.later l2)⟩
      · rw [bnd_stuck (by rw [bnd_ok z]; dsimp only; rw [if_neg hb]; rfl)] at q1
        exact q1.elim
    | _ => rw [bnd_stuck (by rw [bnd_ok z]; rfl)] at q1; exact q1.elim
theorem rg2_rd {tup : Bool} {m m' : M Item} {σ : L2.St} {H : Hp} {Q : VK} (h : rdV c pn W (vRg tup (itRange2 m m')) σ H Q) : tRgA tup (tRg2 (rdO c pn W m) (rdO c pn W m')) σ H Q := by
  obtain ⟨F, e, P, R, q⟩ := h
  have q : PoV c pn W σ P F H Q (bnd m (fun x => bnd m' (fun y => bnd (bnd (res x) fun d => bnd (res y) fun d' => match d, d' with
    | .int i, .int j => if bigI i && bigI j && decide (j - i ≤ 16777216) then ret (rangeL i j) else stk
    | _, _ => stk) fun ds => if tup then ret (0, .tup ds) else ret (1, .lst ds))) e) := by
    have e1 : vRg tup (itRange2 m m') e = bnd m (fun x => bnd m' (fun y => bnd (bnd (res x) fun d => bnd (res y) fun d' => match d, d' with
      | .int i, .int j => if bigI i && bigI j && decide (j - i ≤ 16777216) then ret (rangeL i j) else stk
      | _, _ => stk) fun ds => if tup then ret (0, .tup ds) else ret (1, .lst ds))) e := by
      unfold vRg itRange2
      rw [seqM_two]
      unfold bnd
      cases m e with
      | ok a e1 =>
        dsimp only
        cases m' e1 <;> rfl
      | _ => rfl
    rw [← e1]; exact q
  refine ⟨F, e, P, R, chV (R := fun F x v => IRel c F σ x v) q fun x e1 v F1 H1 l1 R1 i1 q1 => ?_⟩
  refine ⟨F1, e1, P, R1, chV (R := fun F x v => IRel c F σ x v) q1 fun y e2 w F2 H2 l2 R2 i2 q2 => ?_⟩
  rcases res_ok R2 (i1.mono l2.F) with z | ⟨F3, d, e3, z, l3, s3, R3⟩
  · rw [bnd_stuck (bnd_stuck z)] at q2; exact q2.elim
  · rcases res_ok R3 (i2.mono l3.F) with z' | ⟨F4, d', e4, z', l4, s4, R4⟩
    · rw [bnd_stuck (by rw [bnd_ok z]; exact bnd_stuck z')] at q2; exact q2.elim
    · cases d with
      | int i => cases d' with
        | int j =>
          by_cases hb : (bigI i && bigI j && decide (j - i ≤ 16777216)) = true
          · rw [bnd_ok (a := rangeL i j) (e' := e4) (by rw [bnd_ok z, bnd_ok z']; dsimp only; rw [if_pos hb]; rfl)] at q2
            simp only [Bool.and_eq_true] at hb
            have ok : RgOk i j := rg_ok hb.1.1 hb.1.2 (of_decide_eq_true hb.2)
            exact ⟨i, j, s3, s4, ok, rg_end ok R4 (q2.later (l3.trans l4))⟩
          · rw [bnd_stuck (by rw [bnd_ok z, bnd_ok z']; dsimp only; rw [if_neg hb]; rfl)] at q2
            exact q2.elim
        | _ => rw [bnd_stuck (by rw [bnd_ok z, bnd_ok z']; rfl)] at q2; exact q2.elim
      | _ => rw [bnd_stuck (by rw [bnd_ok z, bnd_ok z']; rfl)] at q2; exact q2.elim
theorem ok_lstRg1 {a : Expr} {p pos p' pos' : Pos} {m : M Item} (hc : X.calm = true) (hm : X.mg "list" = none) (hm' : X.mg "range" = none) (ha : OkO X c pn W a m) (hg : Gl X "list" := by rfl) (hg' : Gl X "range" := by rfl)
    (na : starEach [a] X.env = (false, eval a X.env) :: starEach [] X.env := by rfl) (na' : starEach [.Call (.Name "range" p) [a] [] pos] X.env = (false, eval (.Call (.Name "range" p) [a] [] pos) X.env) :: starEach [] X.env := by rfl) :
    OkV X c pn W (.Call (.Name "list" p') [.Call (.Name "range" p) [a] [] pos] [] pos') (vRg false (itRange1 m)) :=
  ⟨PE.imp (pe_listRg hc hg hm (prg_1 hg' hm' ha.ok na) na') fun σ H Q h => rg1_rd (tup := false) h⟩
theorem ok_lstRg2 {a b : Expr} {p pos p' pos' : Pos} {m m' : M Item} (hc : X.calm = true) (hm : X.mg "list" = none) (hm' : X.mg "range" = none) (ha : OkO X c pn W a m) (hb : OkO X c pn W b m') (hg : Gl X "list" := by rfl) (hg' : Gl X "range" := by rfl)
    (na : starEach [a, b] X.env = (false, eval a X.env) :: starEach [b] X.env := by rfl) (nb : starEach [b] X.env = (false, eval b X.env) :: starEach [] X.env := by rfl) (hp : (backTo pos (starEach [b] X.env)).any (·.1) = false := by rfl)
    (na' : starEach [.Call (.Name "range" p) [a, b] [] pos] X.env = (false, eval (.Call (.Name "range" p) [a, b] [] pos) X.env) :: starEach [] X.env := by rfl) :
    OkV X c pn W (.Call (.Name "list" p') [.Call (.Name "range" p) [a, b] [] pos] [] pos') (vRg false (itRange2 m m')) :=
  ⟨PE.imp (pe_listRg hc hg hm (prg_2 hg' hm' ha.ok hb.ok na nb hp) na') fun σ H Q h => rg2_rd (tup := false) h⟩
theorem ok_tupRg1 {a : Expr} {p pos p' pos' : Pos} {m : M Item} (hc : X.calm = true) (hm : X.mg "tuple" = none) (hm' : X.mg "range" = none) (ha : OkO X c pn W a m) (hg : Gl X "tuple" := by rfl) (hg' : Gl X "range" := by rfl)
    (na : starEach [a] X.env = (false, eval a X.env) :: starEach [] X.env := by rfl) (na' : starEach [.Call (.Name "range" p) [a] [] pos] X.env = (false, eval (.Call (.Name "range" p) [a] [] pos) X.env) :: starEach [] X.env := by rfl) :
    OkV X c pn W (.Call (.Name "tuple" p') [.Call (.Name "range" p) [a] [] pos] [] pos') (vRg true (itRange1 m)) :=
  ⟨PE.imp (pe_tupRgZ hc hg hm (prg_1 hg' hm' ha.ok na) na') fun σ H Q h => rg1_rd (tup := true) h⟩
theorem ok_tupRg2 {a b : Expr} {p pos p' pos' : Pos} {m m' : M Item} (hc : X.calm = true) (hm : X.mg "tuple" = none) (hm' : X.mg "range" = none) (ha : OkO X c pn W a m) (hb : OkO X c pn W b m') (hg : Gl X "tuple" := by rfl) (hg' : Gl X "range" := by rfl)
    (na : starEach [a, b] X.env = (false, eval a X.env) :: starEach [b] X.env := by rfl) (nb : starEach [b] X.env = (false, eval b X.env) :: starEach [] X.env := by rfl) (hp : (backTo pos (starEach [b] X.env)).any (·.1) = false := by rfl)
    (na' : starEach [.Call (.Name "range" p) [a, b] [] pos] X.env = (false, eval (.Call (.Name "range" p) [a, b] [] pos) X.env) :: starEach [] X.env := by rfl) :
    OkV X c pn W (.Call (.Name "tuple" p') [.Call (.Name "range" p) [a, b] [] pos] [] pos') (vRg true (itRange2 m m')) :=
  ⟨PE.imp (pe_tupRgZ hc hg hm (prg_2 hg' hm' ha.ok hb.ok na nb hp) na') fun σ H Q h => rg2_rd (tup := true) h⟩
end
end Mini

set_option Elab.async false
set_option linter.all false
set_option maxRecDepth 100000
/-! MOps12: places of items, turned round, pairs, a, b = x, y. -/
namespace Mini
open PySem L2
section
variable {X : Cx} {c : Ctx} {pn : Pins} {W : WX} {F H : Hp} {e : Env} {σ : L2.St} {P : Addr → Prop}
/-! ### xs.index(x) -/
def rIndexT (K : PySem.W.Frag) : V → List V → Hp → VK → Prop := fun x xs H Q => ∃ (a : Addr) (ys : List V) (y : V) (j : Nat) (z : V), x = V.ref a ∧ xs = [y] ∧ SqT K H a ys ∧ flatV y = true ∧ ys.all flatV = true ∧ ys[j]? = some z ∧ eqV z y = true ∧
  (∀ (m : Nat) (z' : V), m < j → ys[m]? = some z' → eqV z' y = false) ∧ Q (.int (j : Nat)) H
theorem mt_indexT : MtR X "tuple.index" (rIndexT X.K) := by
  intro pins s σ H x xs v us Q I rx rs h
  obtain ⟨p, ys, y, j, z, rfl, rfl, hq, fy, fys, hz, hzj, hno, q⟩ := h
  cases rx
  obtain ⟨u, rfl, ry⟩ := vals1 rs
  obtain ⟨its, r, pl, hlen⟩ := I.tuple hq
  obtain ⟨⟨cls, dd, dt, sl⟩, ho, hc, n, hd⟩ := pl
  simp only at hc hd
  subst hc
  subst hd
  have hl : its.toArray.size = ys.length := by rw [List.size_toArray, ← r.length]
  obtain ⟨w, hw, rw'⟩ := r.get hz
  obtain ⟨hjl, hje⟩ := List.getElem?_eq_some_iff.mp hw
  have hj : j < its.toArray.size := by simpa using hjl
  refine call_meets PySem.F.slot_tuple_index ⟨_, ho, rfl⟩ PySem.F.entry_tuple_index (PySem.F.args_tuple_index_2 _ _) (TI.tuple_indexAt p its.toArray n dd sl u (eqU y) j hj ?_ ?_)
    ⟨ho, fun w hw => mem_eqAt ry fy r fys w (by simpa using hw), ⟨.int (j : Nat), H, I.tok _, ⟨_, rfl⟩, q⟩⟩
  · have e1 : its.toArray[j] = w := by simpa using hje
    rw [e1, eqU_of rw' (flat_at fys hz)]
    exact hzj
  · intro m hm hmj
    have hmy : m < ys.length := by rw [← hl]; exact hm
    have hy' : ys[m]? = some ys[m] := List.getElem?_eq_getElem hmy
    obtain ⟨u2, hu2, ru2⟩ := r.get hy'
    obtain ⟨_, hme⟩ := List.getElem?_eq_some_iff.mp hu2
    have e1 : its.toArray[m] = u2 := by simpa using hme
    rw [e1, eqU_of ru2 (flat_at fys hy')]
    exact hno m _ hmj hy'
def tIndex (K : PySem.W.Frag) (to : TE) (t : TA) : TE := fun σ H Q => to σ H fun x H1 => (tyV K "list" x H1 ∧ t σ H1 fun xs H2 => rIndex K x xs H2 Q) ∨ ((∃ a ys, x = .ref a ∧ TupS K H1 a ys) ∧ t σ H1 fun xs H2 => rIndexT K x xs H2 Q)
theorem pe_index {o e : Expr} {to : TE} {t : TA} {apos cpos : Pos} (ho : PE X o to) (ha : PA X [e] t) (hbase : attributeBase o "index" X.env (eval o X.env) = eval o X.env)
    (hfew : ((backTo cpos (starEach [e] X.env)).all (fun x => !x.1) && (backToKw cpos (keywordEach [] X.env)).all (fun x => x.1.isSome)
      && decide ([e].length + ([] : List Keyword).length + (if ([] : List Keyword).isEmpty then 0 else 1) < 30)) = true)
    (hline : (apos.endLine == cpos.line) = true) (hs : starEach [e] X.env = (false, eval e X.env) :: starEach [] X.env) (hplain : (backTo cpos (starEach [] X.env)).any (·.1) = false) :
    PE X (.Call (.Attribute o "index" apos) [e] [] cpos) (tIndex X.K to t) := by
  refine ⟨fun pins s σ H Q I h => ?_⟩
  refine wpAny_Call_method_late hbase hfew hline rfl (thn (ho.run pins s σ H _ I h) fun v s1 ⟨x, H1, I1, r1, q1⟩ => ?_)
  have fin : ∀ {id : String} {r : V → List V → Hp → VK → Prop}, MtR X id r → (t σ H1 fun xs H2 => r x xs H2 Q) → wpAny (model X.prog X.w) X.A (callWith cpos (.builtin id) [v] (backTo cpos (starEach [e] X.env)) []) (EP X pins σ Q) X.xe s1 := by
    intro id r hm q
    have hA := ha.run cpos pins s1 σ H1 _ I1 q
    rw [hs] at hA ⊢
    refine Calls.callWith_builtin (by show (false || (backTo cpos (starEach [] X.env)).any (·.1)) = false; rw [hplain] <;> rfl) (Calls.evalArgs_plain ?_)
    exact thn hA fun us s2 ⟨vs, H2, I2, r2, q2⟩ => hm pins s2 σ H2 x vs v us Q I2 r1 r2 q2
  rcases q1 with ⟨ty, q1⟩ | ⟨⟨a, ys, ex, ty⟩, q1⟩
  · obtain ⟨h1, h2⟩ := tyV_is I1 r1 ty
    exact ⟨"list", "list.index", PySem.F.plainAttrs_list, PySem.F.slot_list_index, PySem.F.type_list_index, h1, h2, fin mt_index q1⟩
  · subst ex
    cases r1
    obtain ⟨its, rv, ⟨o', ho', hc', n', hd'⟩, _⟩ := I1.tuple (TupS.sq ty)
    refine ⟨"tuple", "tuple.index", PySem.F.plainAttrs_tuple, PySem.F.slot_tuple_index, PySem.F.type_tuple_index, ⟨o', ho', hc'⟩, fun b eb => ?_, fin mt_indexT q1⟩
    cases eb
    rcases ty with ⟨ob, hf, hdn⟩ | ⟨ob, its', n2, hk, _, hdn, _⟩
    · obtain ⟨hg, _⟩ := (show ObjOk X.prog X.w H1 s1.heap a (.frz ob (.tup ys)) from I1.hok a _ hf)
      exact ⟨ob, hg, hdn⟩
    · exact ⟨ob, I1.kIn a ob hk, hdn⟩
theorem find_at {d : D} : ∀ {ds : List D} {j : Nat}, ds.findIdx? (fun y => eqF y d) = some j → ∃ z, ds[j]? = some z ∧ eqF z d = true ∧ ∀ m z', m < j → ds[m]? = some z' → eqF z' d = false := by
  intro ds j h
  obtain ⟨h1, h2, h3⟩ := List.findIdx?_eq_some_iff_getElem.mp h
  refine ⟨ds[j], List.getElem?_eq_getElem h1, h2, fun m z' hm hz => ?_⟩
  obtain ⟨h4, rfl⟩ := List.getElem?_eq_some_iff.mp hz
  have := h3 m hm
  simpa using this
theorem kind_ok {x : Item} {v : V} {α : Type} {f : Bool → M α} (R : Rel c pn F e σ H P) (i : IRel c F σ x v) : bnd (kindI x) f e = .stuck ∨ ∃ l d, kindD d = some l ∧ Rep c.K c.C H d v ∧ bnd (kindI x) f e = f l e := by
  cases x with
  | val d =>
    cases h : kindD d with
    | some l => exact .inr ⟨l, d, h, Rep.mono R.same i, bnd_ok (by simp only [kindI, h]; rfl)⟩
    | none => exact .inl (bnd_stuck (by simp only [kindI, h]; rfl))
  | bor j =>
    cases g : getS e j with
    | none => exact .inl (bnd_stuck (by simp only [kindI, g]))
    | some z =>
      obtain ⟨n, d⟩ := z
      cases h : kindD d with
      | some l =>
        obtain ⟨v', h1, h2⟩ := R.rep g
        have i : σ[j]? = some (some v) := i
        rw [i] at h1
        cases h1
        exact .inr ⟨l, d, h, h2, bnd_ok (by simp only [kindI, g, h]; rfl)⟩
      | none => exact .inl (bnd_stuck (by simp only [kindI, g, h]; rfl))
theorem sh_eqF {d d' : D} {v v' : V} (h : flatD d = true) (h' : flatD d' = true) (r : Rep c.K c.C F d v) (r' : Rep c.K c.C F d' v') : eqV v v' = eqF d d' := eqF_of h h' r r'
theorem ok_index {o a : Expr} {mo m : M Item} {apos cpos : Pos} (hK : c.K = X.K) (ho : OkO X c pn W o mo) (ha : OkA X c pn W [a] (seqM [m])) (hbase : attributeBase o "index" X.env (eval o X.env) = eval o X.env := by rfl)
    (hfew : ((backTo cpos (starEach [a] X.env)).all (fun x => !x.1) && (backToKw cpos (keywordEach [] X.env)).all (fun x => x.1.isSome)
      && decide ([a].length + ([] : List Keyword).length + (if ([] : List Keyword).isEmpty then 0 else 1) < 30)) = true := by rfl)
    (hline : (apos.endLine == cpos.line) = true := by rfl) (hs : starEach [a] X.env = (false, eval a X.env) :: starEach [] X.env := by rfl) (hplain : (backTo cpos (starEach [] X.env)).any (·.1) = false := by rfl) :
    OkV X c pn W (.Call (.Attribute o "index" apos) [a] [] cpos) (vIndex mo m) := by
  refine ⟨PE.imp (pe_index ho.ok ha.ok hbase hfew hline hs hplain) fun σ H Q ⟨F, e, P, R, q⟩ => ⟨F, e, P, R, ?_⟩⟩
  refine chV (R := fun F x v => IRel c F σ x v) q fun x e1 v F1 H1 l1 R1 i1 q1 => ?_
  rcases kind_ok (f := fun l => bnd (seqM [m]) fun ys => match ys with
    | [y] => bnd (res x) fun d => bnd (res y) fun d' => opt (fIndex l d d')
    | _ => stk) R1 i1 with z | ⟨l, d0, p0, r0, z⟩
  · have q1 : PoV c pn W σ P F1 H1 Q (bnd (kindI x) (fun l => bnd (seqM [m]) fun ys => match ys with
      | [y] => bnd (res x) fun d => bnd (res y) fun d' => opt (fIndex l d d')
      | _ => stk) e1) := q1
    rw [z] at q1; exact q1.elim
  · have q1 : PoV c pn W σ P F1 H1 Q (bnd (kindI x) (fun l => bnd (seqM [m]) fun ys => match ys with
      | [y] => bnd (res x) fun d => bnd (res y) fun d' => opt (fIndex l d d')
      | _ => stk) e1) := q1
    rw [z] at q1
    have go : ∀ (r : V → List V → Hp → VK → Prop), (∀ F4 H2 e4 a vs (ds : List D) (y : V) d' j, Rel c pn F4 e4 σ H2 P → v = .ref a → Stand c.K c.C H2 a vs (if l then .lst else .tup) → Reps c.K c.C F4 ds vs → Rep c.K c.C F4 d' y → flatD d' = true → ds.all flatD = true → ds.findIdx? (fun y => eqF y d') = some j → PoV c pn W σ P F4 H2 Q (.ok (0, .int (j : Nat)) e4) → r v [y] H2 Q) →
        rdA c pn W (seqM [m]) σ H1 fun xs H2 => r v xs H2 Q := by
      intro r k
      refine ⟨F1, e1, P, R1, chV (R := fun F x v => IRels c F σ x v) q1 fun ys e2 ws F2 H2 l2 R2 i2 q2 => ?_⟩
      match ys, i2, q2 with
      | [y], ⟨w, t1, e0, r1, e3⟩, q2 =>
        have e3 : t1 = [] := e3
        subst e3 e0
        obtain ⟨F3, d, e3, l3, s3, R3, q3⟩ := chResV q2 R2 (i1.mono l2.F)
        obtain ⟨F4, d', e4, l4, s4, R4, q4⟩ := chResV q3 R3 (r1.mono l3.F)
        have s3 := s3.mono l4.F
        have fin : ∀ {ds : List D} {a : Addr} {vs : List V}, v = .ref a → Stand c.K c.C H2 a vs (if l then .lst else .tup) → Reps c.K c.C F4 ds vs → PoV c pn W σ P F4 H2 Q (opt (if flatD d' && ds.all flatD then (ds.findIdx? fun y => eqF y d').map fun j => ((0, .int (j : Nat)) : Vl) else none) e4) → r v [w] H2 Q := by
          intro ds a vs ev s5 s7 q4
          by_cases hb : (flatD d' && ds.all flatD) = true
          · rw [if_pos hb] at q4
            rw [Bool.and_eq_true] at hb
            cases hj : ds.findIdx? (fun y => eqF y d') with
            | none => rw [hj] at q4; exact q4.elim
            | some j =>
              rw [hj] at q4
              exact k F4 H2 e4 a vs ds w d' j R4 ev s5 s7 (sh_flat hb.1 s4) hb.1 hb.2 hj q4
          · rw [if_neg hb] at q4; exact q4.elim
        cases d with
        | box h ds =>
          obtain ⟨a, vs, ev, s5, s6, s7, s8⟩ := s3
          cases h with
          | lst =>
            cases l with
            | true => exact fin ev s5 s7 q4
            | false => exact q4.elim
          | tup =>
            cases l with
            | true => exact q4.elim
            | false => exact fin ev s5 s7 q4
          | _ => cases l <;> exact q4.elim
        | _ => cases l <;> exact q4.elim
      | [], _, q2 => exact q2.elim
      | _ :: _ :: _, _, q2 => exact q2.elim
    have fz : ∀ {ds : List D} {vs : List V} {F4 : Hp} {d' : D} {y : V} {j : Nat}, Reps c.K c.C F4 ds vs → Rep c.K c.C F4 d' y → flatD d' = true → ds.all flatD = true → ds.findIdx? (fun y => eqF y d') = some j →
        ∃ z, vs[j]? = some z ∧ eqV z y = true ∧ ∀ m z', m < j → vs[m]? = some z' → eqV z' y = false := by
      intro ds vs F4 d' y j rs ry f1 f2 hj
      obtain ⟨z, h1, h2, h3⟩ := find_at hj
      obtain ⟨v, g1, g2⟩ := rs.get h1
      have fd : ∀ {m : Nat} {z : D}, ds[m]? = some z → flatD z = true := fun h => List.all_eq_true.mp f2 _ (List.mem_of_getElem? h)
      refine ⟨v, g1, by rw [eqF_of (fd h1) f1 g2 ry]; exact h2, fun m z' hm hz => ?_⟩
      have hml : m < ds.length := by
        have := (List.getElem?_eq_some_iff.mp hz).1
        rw [rs.length]; exact this
      obtain ⟨v', k1, k2⟩ := rs.get (List.getElem?_eq_getElem hml)
      rw [hz] at k1
      cases k1
      rw [eqF_of (fd (List.getElem?_eq_getElem hml)) f1 k2 ry]
      exact h3 m _ hm (List.getElem?_eq_getElem hml)
    cases d0 with
    | box h ds => cases h with
      | lst =>
        cases p0
        obtain ⟨a, vs, ev, s5, _, _⟩ := r0
        refine .inl ⟨by rw [ev]; exact .inl ⟨rfl, vs, SqL.of s5⟩, go (rIndex X.K) fun F4 H2 e4 a vs ds y d' j R4 ev s5 rs ry f1 f2 hj q4 => ?_⟩
        obtain ⟨z, g1, g2, g3⟩ := fz rs ry f1 f2 hj
        exact ⟨a, vs, y, j, z, ev, rfl, SqL.of s5, flat_of f1 ry, flats_of f2 rs, g1, g2, g3, PoV.val q4 (RelV.zero R4 rfl)⟩
      | tup =>
        cases p0
        obtain ⟨a, vs, ev, s5, _, _⟩ := r0
        refine .inr ⟨⟨a, vs, ev, by rw [← hK]; exact s5⟩, go (rIndexT X.K) fun F4 H2 e4 a vs ds y d' j R4 ev s5 rs ry f1 f2 hj q4 => ?_⟩
        obtain ⟨z, g1, g2, g3⟩ := fz rs ry f1 f2 hj
        exact ⟨a, vs, y, j, z, ev, rfl, by rw [← hK]; exact TupS.sq s5, flat_of f1 ry, flats_of f2 rs, g1, g2, g3, PoV.val q4 (RelV.zero R4 rfl)⟩
      | _ => cases p0
    | _ => cases p0
end
end Mini

set_option Elab.async false
set_option linter.all false
set_option maxRecDepth 100000
/-! MOps13: turned round, pairs, a, b = x, y. -/
namespace Mini
open PySem L2 PySem.Spec PyProof.Rows
section
variable {X : Cx} {c : Ctx} {pn : Pins} {W : WX} {F H : Hp} {e : Env} {σ : L2.St} {P : Addr → Prop}
/-! ### x[::-1] -/
def tRevA (K : PySem.W.Frag) (te : TE) : TE := fun σ H Q => te σ H fun x H1 => (∃ a xs, x = .ref a ∧ SqL K H1 a xs ∧ ∀ p, H1 p = none → Q (.ref p) (L2.upd H1 p (.lst xs.reverse))) ∨ ∃ a xs, x = .ref a ∧ SqT K H1 a xs ∧ NewT xs.reverse H1 Q
theorem pe_revA {e : Expr} {te : TE} {k : Nat} {p1 p2 p3 pos : Pos} (he : PE X e te) : PE X (.Subscript e (.Slice none none (some (.UnaryOp .USub (.Constant (.int 1) k p1) p2)) p3) pos) (tRevA X.K te) := by
  refine ⟨fun pins s σ H Q I h => ?_⟩
  refine Subscript_ (thn (he.run pins s σ H _ I h) fun v s1 ⟨x, H1, I1, r1, q1⟩ => ?_)
  have hst : PO X (some (.UnaryOp .USub (.Constant (.int 1) k p1) p2)) (tPart (tUn (rU fun i => .int (-i)) (tC (.int 1)))) := po_some (pe_un un_neg pe_int)
  refine wpAny_Slice (thn (po_none.run pins s1 σ H1 (fun o H2 => o = none ∧ H2 = H1) I1 ⟨rfl, rfl⟩) fun vl s2 ⟨l, H2, I2, pl, el, e2⟩ => ?_)
  subst el e2
  refine thn (po_none.run pins s2 σ H2 (fun o H3 => o = none ∧ H3 = H2) I2 ⟨rfl, rfl⟩) fun vu s3 ⟨u, H3, I3, pu, eu, e3⟩ => ?_
  subst eu e3
  refine thn (hst.run pins s3 σ H3 (fun o H4 => o = some (-1) ∧ H4 = H3) I3 ⟨1, rfl, -1, rfl, rfl, rfl⟩) fun vs s4 ⟨o, H4, I4, ps, eo, e4⟩ => ?_
  subst eo e4
  have I5 : Inv X pins σ H4 { s4 with heap := s4.heap.push { cls := .type "slice", data := .fields #[vl, vu, vs] } } := I4.kept (t' := s4.toks) fun b ob q => Heap.get?_push_of_some _ q
  show wpAny (model X.prog X.w) X.A (subscriptTail e (.Slice none none (some (.UnaryOp .USub (.Constant (.int 1) k p1) p2)) p3) v (.ref s4.heap.objs.size)) (EP X pins σ Q) X.xe { s4 with heap := s4.heap.push { cls := .type "slice", data := .fields #[vl, vu, vs] } }
  rcases q1 with ⟨a, xs, ex, hx, q⟩ | ⟨a, xs, ex, hx, q⟩
  · subst ex
    cases r1
    obtain ⟨its, r, ht, hz⟩ := I5.list hx
    have hlen := r.length
    refine tail_any (ops := [.ref a, .ref s4.heap.objs.size]) ht.isList.typeIs (PySem.slot_list_getitem.lookup) ?_ (by with_unfolding_all rfl)
    refine wpAny_getItem_list_slice ht.isList (Heap.IsSliceOf.new _ vl vu vs) pl pu ps (by decide) ?_ (by rw [List.size_toArray]; omega)
    rw [PySem.W.krv_pick]
    refine ⟨.ref _, _, I5.laid (t' := s4.toks) (o := .lst xs.reverse) (fun b ob q => Heap.get?_push_of_some _ q) (Nat.le_refl _) ?_, rfl, q _ (I5.hok.fresh (Nat.le_refl _))⟩
    exact ⟨by rw [List.length_reverse]; exact hz, _, 0, r.reverse, Heap.get?_push_size _ rfl⟩
  · subst ex
    cases r1
    obtain ⟨its, r, ht, hz⟩ := I5.tuple hx
    have hlen := r.length
    cases pl
    cases pu
    cases ps
    refine tail_any (ops := [.ref a, .ref s4.heap.objs.size]) (show Shared.TypeIs _ (.ref a) "tuple" from ht.typeIs) (PyProof.Rows.slot_tuple_getitem.lookup) ?_ (by with_unfolding_all rfl)
    refine getItem_tuple_rev ht (Heap.IsSliceOf.new ..) ?_ (by rw [List.size_toArray]; omega)
    have e5 : its.toArray.toList.reverse = its.reverse := by simp
    rw [e5]
    exact tup_done I5 r.reverse (by rw [List.length_reverse]; exact hz) q
theorem reps_rev : ∀ {ds : List D} {vs : List V}, Reps c.K c.C F ds vs → Reps c.K c.C F ds.reverse vs.reverse
  | [], vs, h => by
    have h : vs = [] := h
    subst h; rfl
  | d :: ds, vs, ⟨v, ws, e, h1, h2⟩ => by
    subst e
    rw [List.reverse_cons, List.reverse_cons]
    exact reps_app (reps_rev h2) ⟨v, [], rfl, h1, rfl⟩
theorem ok_rev {a : Expr} {m : M Item} {k : Nat} {p1 p2 p3 pos : Pos} (hK : c.K = X.K) (ha : OkO X c pn W a m) : OkV X c pn W (.Subscript a (.Slice none none (some (.UnaryOp .USub (.Constant (.int 1) k p1) p2)) p3) pos) (op1 fRev m) := by
  refine ⟨PE.imp (pe_revA ha.ok) fun σ H Q ⟨F, e, P, R, q⟩ => ⟨F, e, P, R, ?_⟩⟩
  refine chV (R := fun F x v => IRel c F σ x v) q fun x e1 v F1 H1 l1 R1 i1 q1 => ?_
  obtain ⟨F3, d, e3, l3, s3, R3, q3⟩ := chResV q1 R1 i1
  rw [← hK]
  cases d with
  | box h ds =>
    obtain ⟨a, vs, rfl, s1, s2, s4, _⟩ := s3
    cases h with
    | lst =>
      refine .inl ⟨a, vs, rfl, SqL.of s1, fun p hp => ?_⟩
      obtain ⟨l, r⟩ := new_own (o := .lst vs.reverse) (h := .lst) R3 hp (fun z => nomatch z) upd_same (by rw [List.length_reverse]; exact s2) (reps_rev s4)
      exact q3 _ F3 _ l r
    | tup =>
      refine .inr ⟨a, vs, rfl, TupS.sq s1, fun p o ho hp => ?_⟩
      obtain ⟨F', l, r⟩ := new_tup R3 ho hp (by rw [List.length_reverse]; exact s2) (reps_rev s4)
      exact q3 _ F' _ l r
    | _ => exact q3.elim
  | _ => exact q3.elim
/-! ### pairs walked -/
theorem new_fz {p : Addr} {o : HO} (R : Rel c pn F e σ H P) (hp : H p = none) : Later F H (L2.upd F p o) (L2.upd H p o) P ∧ Rel c pn (L2.upd F p o) e σ (L2.upd H p o) P := by
  obtain ⟨φ, r1, r2, r3, r4, r5, r6, r7, r8⟩ := id R
  have nP : ∀ a, P a → a ≠ p := fun a pa z => (r7 a pa).1 (z ▸ hp)
  have fp := F_none r2 hp
  have np : ∀ {a : Addr}, H a ≠ none → a ≠ p := fun {a} h z => h (z ▸ hp)
  have s1 : Same F (L2.upd F p o) := fun a u h => by rw [upd_ne (fun z => by rw [z, fp] at h; cases h)]; exact h
  refine ⟨⟨s1, fun a pa => upd_ne (nP a pa)⟩, φ, r1, fun a u h => ?_, fun i n d g => ?_, r4, r5, r6, fun a pa => ?_, r8⟩
  · by_cases ha : a = p
    · rw [ha, upd_same] at h; rw [ha, upd_same]; exact h
    · rw [upd_ne ha] at h; rw [upd_ne ha]; exact r2 a u h
  · obtain ⟨v, h1, o'⟩ := r3 i n d g
    exact ⟨v, h1, o'.frame s1 fun a ha => ⟨upd_ne (np (o'.fp a ha).2), by rw [upd_ne (np (o'.fp a ha).2)]; exact (o'.fp a ha).1⟩⟩
  · rw [upd_ne (nP a pa), upd_ne (nP a pa)]
    exact r7 a pa
theorem zip_get : ∀ {ds es : List D} {i : Nat} {d : D}, (zipD ds es)[i]? = some d → ∃ x y, ds[i]? = some x ∧ es[i]? = some y ∧ d = .tup [x, y]
  | [], _, _, _, h => by simp [zipD] at h
  | _ :: _, [], _, _, h => by simp [zipD] at h
  | x :: _, y :: _, 0, _, h => by
    simp [zipD] at h
    exact ⟨x, y, rfl, rfl, h.symm⟩
  | _ :: ds, _ :: es, i + 1, d, h => by
    have h : (zipD ds es)[i]? = some d := by simpa [zipD] using h
    obtain ⟨x, y, h1, h2, h3⟩ := zip_get h
    exact ⟨x, y, by simpa using h1, by simpa using h2, h3⟩
theorem zip_len : ∀ {ds es : List D}, (zipD ds es).length = min ds.length es.length
  | [], _ => by simp [zipD]
  | _ :: _, [] => by simp [zipD]
  | _ :: ds, _ :: es => by simp [zipD, zip_len (ds := ds) (es := es)]
theorem enum_get : ∀ {ds : List D} {k i : Nat} {d : D}, (enumD k ds)[i]? = some d → ∃ x, ds[i]? = some x ∧ d = .tup [.int ((k + i : Nat)), x]
  | [], _, _, _, h => by simp [enumD] at h
  | x :: _, k, 0, _, h => by
    simp [enumD] at h
    exact ⟨x, rfl, h.symm⟩
  | _ :: ds, k, i + 1, d, h => by
    have h : (enumD (k + 1) ds)[i]? = some d := by simpa [enumD] using h
    obtain ⟨x, h1, h2⟩ := enum_get h
    refine ⟨x, by simpa using h1, ?_⟩
    rw [h2]
    have : k + 1 + i = k + (i + 1) := by omega
    rw [this]
theorem enum_len : ∀ {ds : List D} {k : Nat}, (enumD k ds).length = ds.length
  | [], _ => rfl
  | _ :: ds, k => by simp [enumD, enum_len (ds := ds)]
theorem walks_zip {a b : Addr} {ds es : List D} {vs ws : List V} {F : Hp} (hl : ds.length ≤ sizeLine) (h : SqL c.K F a vs) (h' : SqL c.K F b ws) (r : Reps c.K c.C F ds vs) (r' : Reps c.K c.C F es ws) : Walks c true (Itz c.K a b) (zipD ds es) F where
  len := by rw [zip_len]; omega
  stop := fun F' H s1 s2 => ⟨vs, ws, Same.seq (s1.trans s2) h, Same.seq (s1.trans s2) h', by rw [zip_len, ← r.length, ← r'.length]; omega⟩
  go := fun i d F' H hi s1 s2 => by
    obtain ⟨x, y, g1, g2, _⟩ := zip_get hi
    obtain ⟨v, hv, _⟩ := r.get g1
    obtain ⟨w, hw, _⟩ := r'.get g2
    exact ⟨vs, ws, v, w, Same.seq (s1.trans s2) h, Same.seq (s1.trans s2) h', hv, hw⟩
  yld := fun i d F' H x H' pn e σ P hi s1 R y => by
    obtain ⟨T, v, w, rfl, hT, rfl, y1, y2⟩ := y
    obtain ⟨x', y', g1, g2, rfl⟩ := zip_get hi
    obtain ⟨v', hv, rv⟩ := r.get g1
    obtain ⟨w', hw, rw'⟩ := r'.get g2
    have q1 := y1 vs (Same.seq (s1.trans R.same) h)
    have q2 := y2 ws (Same.seq (s1.trans R.same) h')
    rw [hv] at q1
    rw [hw] at q2
    cases q1
    cases q2
    obtain ⟨l, R'⟩ := new_fz (o := .tup [v, w]) R hT
    exact ⟨_, l, R', .inr ⟨rfl, _, T, [v, w], rfl, rfl, SqT.of upd_same, v, [w], rfl, rv.mono (s1.trans l.F), w, [], rfl, rw'.mono (s1.trans l.F), rfl⟩⟩
theorem walks_zipT {a b : Addr} {ds es : List D} {vs ws : List V} {F : Hp} (hl : ds.length ≤ sizeLine) (h : SqT c.K F a vs) (h' : SqT c.K F b ws) (r : Reps c.K c.C F ds vs) (r' : Reps c.K c.C F es ws) : Walks c true (RZ.ItzT c.K a b) (zipD ds es) F where
  len := by rw [zip_len]; omega
  stop := fun F' H s1 s2 => ⟨vs, ws, SqT.mono (s1.trans s2) h, SqT.mono (s1.trans s2) h', by rw [zip_len, ← r.length, ← r'.length]; omega⟩
  go := fun i d F' H hi s1 s2 => by
    obtain ⟨x, y, g1, g2, _⟩ := zip_get hi
    obtain ⟨v, hv, _⟩ := r.get g1
    obtain ⟨w, hw, _⟩ := r'.get g2
    exact ⟨vs, ws, v, w, SqT.mono (s1.trans s2) h, SqT.mono (s1.trans s2) h', hv, hw⟩
  yld := fun i d F' H x H' pn e σ P hi s1 R y => by
    obtain ⟨T, v, w, rfl, hT, rfl, y1, y2⟩ := y
    obtain ⟨x', y', g1, g2, rfl⟩ := zip_get hi
    obtain ⟨v', hv, rv⟩ := r.get g1
    obtain ⟨w', hw, rw'⟩ := r'.get g2
    have q1 := y1 vs (SqT.mono (s1.trans R.same) h)
    have q2 := y2 ws (SqT.mono (s1.trans R.same) h')
    rw [hv] at q1
    rw [hw] at q2
    cases q1
    cases q2
    obtain ⟨l, R'⟩ := new_fz (o := .tup [v, w]) R hT
    exact ⟨_, l, R', .inr ⟨rfl, _, T, [v, w], rfl, rfl, SqT.of upd_same, v, [w], rfl, rv.mono (s1.trans l.F), w, [], rfl, rw'.mono (s1.trans l.F), rfl⟩⟩
theorem walks_enum {a : Addr} {ds : List D} {vs : List V} {F : Hp} (hl : ds.length ≤ sizeLine) (h : SqL c.K F a vs) (r : Reps c.K c.C F ds vs) : Walks c true (Ite c.K a) (enumD 0 ds) F where
  len := by rw [enum_len]; exact hl
  stop := fun F' H s1 s2 => ⟨vs, Same.seq (s1.trans s2) h, by rw [enum_len, ← r.length]; exact Nat.le_refl _⟩
  go := fun i d F' H hi s1 s2 => by
    obtain ⟨x, g1, _⟩ := enum_get hi
    obtain ⟨v, hv, _⟩ := r.get g1
    exact ⟨vs, v, Same.seq (s1.trans s2) h, hv⟩
  yld := fun i d F' H x H' pn e σ P hi s1 R y => by
    obtain ⟨T, v, rfl, hT, rfl, y1⟩ := y
    obtain ⟨x', g1, rfl⟩ := enum_get hi
    obtain ⟨v', hv, rv⟩ := r.get g1
    have q1 := y1 vs (Same.seq (s1.trans R.same) h)
    rw [hv] at q1
    cases q1
    obtain ⟨l, R'⟩ := new_fz (o := .tup [.int (i : Nat), v]) R hT
    exact ⟨_, l, R', .inr ⟨rfl, _, T, _, rfl, rfl, SqT.of upd_same, _, [v], rfl, by rw [Nat.zero_add]; rfl, v, [], rfl, rv.mono (s1.trans l.F), rfl⟩⟩
theorem oi_zip {elts : List Expr} {kk : Nat} {a b : Expr} {p pos tpos : Pos} {m m' : M Item} (hK : c.K = X.K) (hm : X.mg "zip" = none) (ha : OkA X c pn W [a, b] (seqM [m, m'])) (hg : Gl X "zip" := by rfl) (hs : starEach [a, b] X.env = (false, eval a X.env) :: starEach [b] X.env := by rfl)
    (hpl : (backTo pos (starEach [b] X.env)).any (·.1) = false := by rfl) : OkI X c pn W true (.Tuple elts kk tpos) (.Call (.Name "zip" p) [a, b] [] pos) (itZipA m m') := by
  refine ⟨PI.imp (RZ.pi_zipA hg hm ha.ok hs hpl) fun σ H R ⟨F, e, P, R0, q⟩ => ⟨F, e, P, R0, ?_⟩⟩
  refine chR (R := fun F x v => IRels c F σ x v) q fun xs e1 vs F1 H1 l1 R1 i1 q1 => ?_
  match xs, i1, q1 with
  | [x, y], ⟨v, t1, e0, r1, w, t2, e3, r2, e4⟩, q1 =>
    have e4 : t2 = [] := e4
    subst e4 e3 e0
    have q1 : PoR c pn W σ (fun F ds J => Walks c true J ds F) P F1 H1 R (zipK x y e1) := q1
    cases x with
    | bor _ => exact q1.elim
    | val d => cases y with
      | bor _ => cases d with
        | box h _ => cases h <;> exact q1.elim
        | _ => exact q1.elim
      | val d' => cases d with
        | box h ds => cases d' with
          | box h' es => cases h with
            | lst => cases h' with
              | lst =>
                obtain ⟨a, vs, rfl, s1, s2, s3⟩ := r1
                obtain ⟨b, ws, rfl, t1, t2, t3⟩ := r2
                have s1 : F1 a = some (.lst vs) := s1
                have t1 : F1 b = some (.lst ws) := t1
                refine ⟨a, b, vs, ws, rfl, .inl ⟨SqL.of (R1.same _ _ s1), SqL.of (R1.same _ _ t1), ?_⟩⟩
                rw [← hK]
                exact q1 _ F1 H1 .rfl R1 (walks_zip s2 (SqL.of s1) (SqL.of t1) s3 t3)
              | _ => exact q1.elim
            | tup => cases h' with
              | tup =>
                obtain ⟨a, vs, rfl, s1, s2, s3⟩ := r1
                obtain ⟨b, ws, rfl, t1, t2, t3⟩ := r2
                have s1 : SqT c.K F1 a vs := TupS.sq s1
                have t1 : SqT c.K F1 b ws := TupS.sq t1
                refine ⟨a, b, vs, ws, rfl, .inr ⟨by rw [← hK]; exact SqT.mono R1.same s1, by rw [← hK]; exact SqT.mono R1.same t1, ?_⟩⟩
                rw [← hK]
                exact q1 _ F1 H1 .rfl R1 (walks_zipT s2 s1 t1 s3 t3)
              | _ => exact q1.elim
            | _ => exact q1.elim
          | _ => cases h <;> exact q1.elim
        | _ => exact q1.elim
  | [], _, q1 => exact q1.elim
  | [_], _, q1 => exact q1.elim
  | _ :: _ :: _ :: _, _, q1 => exact q1.elim
theorem oi_enum {elts : List Expr} {kk : Nat} {a : Expr} {p pos tpos : Pos} {m : M Item} (hK : c.K = X.K) (hm : X.mg "enumerate" = none) (ha : OkA X c pn W [a] (seqM [m])) (hg : Gl X "enumerate" := by rfl) (hs : starEach [a] X.env = [(false, eval a X.env)] := by rfl) :
    OkI X c pn W true (.Tuple elts kk tpos) (.Call (.Name "enumerate" p) [a] [] pos) (itEnumA m) := by
  refine ⟨PI.imp (pi_enum hg hm ha.ok hs) fun σ H R ⟨F, e, P, R0, q⟩ => ⟨F, e, P, R0, ?_⟩⟩
  refine chR (R := fun F x v => IRels c F σ x v) q fun xs e1 vs F1 H1 l1 R1 i1 q1 => ?_
  match xs, i1, q1 with
  | [x], ⟨v, t1, e0, r1, e4⟩, q1 =>
    have e4 : t1 = [] := e4
    subst e4 e0
    have q1 : PoR c pn W σ (fun F ds J => Walks c true J ds F) P F1 H1 R (enumK x e1) := q1
    cases x with
    | bor _ => exact q1.elim
    | val d => cases d with
      | box h ds => cases h with
        | lst =>
          obtain ⟨a, vs, rfl, s1, s2, s3⟩ := r1
          have s1 : F1 a = some (.lst vs) := s1
          refine ⟨a, vs, rfl, SqL.of (R1.same _ _ s1), ?_⟩
          rw [← hK]
          exact q1 _ F1 H1 .rfl R1 (walks_enum s2 (SqL.of s1) s3)
        | _ => exact q1.elim
      | _ => exact q1.elim
  | [], _, q1 => exact q1.elim
  | _ :: _ :: _, _, q1 => exact q1.elim
end
end Mini

set_option Elab.async false
set_option linter.all false
set_option maxRecDepth 100000
/-! MOps14: a, b = x, y. -/
namespace Mini
open PySem L2
section
variable {X : Cx} {c : Ctx} {pn : Pins} {W : WX} {F H : Hp} {e : Env} {σ : L2.St} {P : Addr → Prop}
theorem Exc.down {P' : Addr → Prop} {k : Nat} {ns : List Str} {ds : List D} (h : ∀ a, P a → P' a) (q : Exc c pn W F H P σ k ns ds e) : Exc c pn W F H P' σ k ns ds e :=
  fun dd σ' F' H' l' R' x => q dd σ' F' H' ⟨l'.F, fun a p => l'.P a (h a p)⟩ (R'.weak h) x
/-- a value that is held while another is made -/
theorem hold_val {m : M Vl} {f : Vl → M Fl} {D : Ends} {Q1 : VK} {P0 : Addr → Prop} (hP : ∀ a, P0 a → P a) (q : PoS c pn W σ P0 F H D (bnd m f e))
    (k : ∀ n' d' e2 w F2 H2, Later F H F2 H2 P → RelV c pn F2 e2 σ H2 P w n' d' → PoS c pn W σ P0 F2 H2 D (f (n', d') e2) → Q1 w H2) : PoV c pn W σ P F H Q1 (m e) := by
  cases hm : m e with
  | ok x e1 =>
    obtain ⟨n', d'⟩ := x
    rw [bnd_ok hm] at q
    exact fun w F1 H1 l R1 => k n' d' e1 w F1 H1 l R1 (q.later ⟨l.F, fun a p => l.P a (hP a p)⟩)
  | exc k' ns ds e1 => rw [bnd_exc hm] at q; exact Exc.down (σ := σ) hP q
  | stuck => rw [bnd_stuck hm] at q; exact q
theorem setS_ok {i : Nat} {v : Vl} {D : Ends} {f : Unit → M Fl} (q : PoS c pn W σ P F H D (bnd (setS i v) f e)) : i < e.length ∧ PoS c pn W σ P F H D (f () (e.set i (some v))) := by
  by_cases hl : i < e.length
  · rw [bnd_ok (show setS i v e = Res.ok () (e.set i (some v)) by simp only [setS, if_pos hl])] at q
    exact ⟨hl, q⟩
  · rw [bnd_stuck (show setS i v e = Res.stuck by simp only [setS, if_neg hl])] at q
    exact q.elim
theorem PoS.anyσ {σ' : L2.St} {D : Ends} : ∀ {r : Res Fl}, PoS c pn W σ P F H D r → PoS c pn W σ' P F H D r
  | .ok .nx _, h => h
  | .ok .bk _, h => h
  | .ok .ct _, h => h
  | .ok (.rt (_, _)) _, h => h
  | .exc _ _ _ _, h => h
  | .stuck, h => h
theorem os_par2 {i j : Nat} {x y : Str} {a b : Expr} {ma mb : M Vl} {px py pt : Pos} {kt k2 pt2} {pos : Pos} (hc : X.calm = true) (hN : X.N.Nodup) (hpi : ∀ p ∈ pn, p.1 ≠ i) (hpj : ∀ p ∈ pn, p.1 ≠ j) (hij : i ≠ j) (ha : OkV X c pn W a ma) (hb : OkV X c pn W b mb)
    (hw : swappedStores [.Tuple [.Name x px, .Name y py] kt pt] (.Tuple [a, b] k2 pt2) X.env = pure (some [x, y]) := by rfl)
    (hi : X.N[i]? = some x := by rfl) (hj : X.N[j]? = some y := by rfl) (hx : X.env.scope.names.lookup x = some .local := by rfl) (hy : X.env.scope.names.lookup y = some .local := by rfl)
    (h1 : starEach [a, b] X.env = (false, eval a X.env) :: starEach [b] X.env := by rfl) (h2 : starEach [b] X.env = (false, eval b X.env) :: starEach [] X.env := by rfl)
    (hs : swapsWithSole [.Tuple [.Name x px, .Name y py] kt pt] (.Tuple [a, b] k2 pt2) pos.line X.env = pure false := by rfl) :
    OkS X c pn W (.Assign [.Tuple [.Name x px, .Name y py] kt pt] (.Tuple [a, b] k2 pt2) pos) (sPar2 i j ma mb) := by
  refine ⟨PS.imp (ps_par hc hN hi hj hij hx hy (pa_cons ha.ok (pa_cons hb.ok pa_nil h2) h1) hw hs) fun D σ H ⟨F, e, P, R, q⟩ => ⟨F, e, P, R, ?_⟩⟩
  refine cvS q fun n d e1 v F1 H1 l1 R1 q1 => ?_
  obtain ⟨fx, o, nd, np, Rx⟩ := R1
  refine ⟨F1, e1, fun a => P a ∨ a ∈ fx, Rx, hold_val (fun a p => .inl p) q1 fun n' d' e2 w F2 H2 l2 R2 q2 => ?_⟩
  obtain ⟨fy, o', nd', np', Ry⟩ := R2
  refine ⟨v, w, rfl, ?_⟩
  obtain ⟨hli, q2⟩ := setS_ok q2
  obtain ⟨hlj, q2⟩ := setS_ok q2
  have Fn : ∀ a ∈ fx, F2 a = none := fun a ha => by
    obtain ⟨φ, _, _, _, _, _, _, r7, _⟩ := Ry
    exact (r7 a (.inl (.inr ha))).2.1
  have o1 : Own c.K c.C F2 H2 d n v fx := o.frame l2.F fun a ha => ⟨l2.P a (.inr ha), Fn a ha⟩
  have V1 : RelV c pn F2 e2 σ H2 (fun a => P a ∨ a ∈ fy) v n d := ⟨fx, o1, nd, fun a ha z => z.elim (np a ha) fun z => np' a z (.inr ha), Ry.weak fun a z => by
    rcases z with (z | z) | z
    · exact .inl (.inl z)
    · exact .inr z
    · exact .inl (.inr z)⟩
  have S1 := V1.store hli hpi
  have V2 : RelV c pn F2 (e2.set i (some (n, d))) (σ.set i (some v)) H2 P w n' d' := ⟨fy, o', nd', fun a ha z => np' a ha (.inl z), S1⟩
  exact q2 _ F2 H2 .rfl (V2.store hlj hpj)
theorem os_par3 {i j k : Nat} {x y z : Str} {a b b' : Expr} {ma mb mc : M Vl} {px py pz pt : Pos} {kt k2 pt2} {pos : Pos} (hc : X.calm = true) (hN : X.N.Nodup) (hpi : ∀ p ∈ pn, p.1 ≠ i) (hpj : ∀ p ∈ pn, p.1 ≠ j) (hpk : ∀ p ∈ pn, p.1 ≠ k) (hij : i ≠ j) (hik : i ≠ k) (hjk : j ≠ k) (ha : OkV X c pn W a ma) (hb : OkV X c pn W b mb) (hb' : OkV X c pn W b' mc)
    (hw : swappedStores [.Tuple [.Name x px, .Name y py, .Name z pz] kt pt] (.Tuple [a, b, b'] k2 pt2) X.env = pure (some [x, y, z]) := by rfl)
    (hi : X.N[i]? = some x := by rfl) (hj : X.N[j]? = some y := by rfl) (hk : X.N[k]? = some z := by rfl) (hx : X.env.scope.names.lookup x = some .local := by rfl) (hy : X.env.scope.names.lookup y = some .local := by rfl) (hz : X.env.scope.names.lookup z = some .local := by rfl)
    (h1 : starEach [a, b, b'] X.env = (false, eval a X.env) :: starEach [b, b'] X.env := by rfl) (h2 : starEach [b, b'] X.env = (false, eval b X.env) :: starEach [b'] X.env := by rfl) (h3 : starEach [b'] X.env = (false, eval b' X.env) :: starEach [] X.env := by rfl)
    (hs : swapsWithSole [.Tuple [.Name x px, .Name y py, .Name z pz] kt pt] (.Tuple [a, b, b'] k2 pt2) pos.line X.env = pure false := by rfl) :
    OkS X c pn W (.Assign [.Tuple [.Name x px, .Name y py, .Name z pz] kt pt] (.Tuple [a, b, b'] k2 pt2) pos) (sPar3 i j k ma mb mc) := by
  refine ⟨PS.imp (ps_par3 hc hN hi hj hk hij hik hjk hx hy hz (pa_cons ha.ok (pa_cons hb.ok (pa_cons hb'.ok pa_nil h3) h2) h1) hw hs) fun D σ H ⟨F, e, P, R, q⟩ => ⟨F, e, P, R, ?_⟩⟩
  refine cvS q fun n d e1 v F1 H1 l1 R1 q1 => ?_
  obtain ⟨fx, o, nd, np, Rx⟩ := R1
  refine ⟨F1, e1, fun a => P a ∨ a ∈ fx, Rx, hold_val (fun a p => .inl p) q1 fun n' d' e2 w F2 H2 l2 R2 q2 => ?_⟩
  obtain ⟨fy, o', nd', np', Ry⟩ := R2
  refine ⟨F2, e2, fun a => (P a ∨ a ∈ fx) ∨ a ∈ fy, Ry, hold_val (fun a p => .inl (.inl p)) q2 fun n'' d'' e3 u F3 H3 l3 R3 q3 => ?_⟩
  obtain ⟨fz, o'', nd'', np'', Rz⟩ := R3
  refine ⟨v, w, u, rfl, ?_⟩
  obtain ⟨hli, q3⟩ := setS_ok q3
  obtain ⟨hlj, q3⟩ := setS_ok q3
  obtain ⟨hlk, q3⟩ := setS_ok q3
  have Fn : ∀ a, (a ∈ fx ∨ a ∈ fy) → F3 a = none := fun a ha => by
    obtain ⟨φ, _, _, _, _, _, _, r7, _⟩ := Rz
    exact (r7 a (.inl (ha.elim (fun z => .inl (.inr z)) .inr))).2.1
  have o1 : Own c.K c.C F3 H3 d n v fx := o.frame (l2.F.trans l3.F) fun a ha => ⟨(l3.P a (.inl (.inr ha))).trans (l2.P a (.inr ha)), Fn a (.inl ha)⟩
  have o2 : Own c.K c.C F3 H3 d' n' w fy := o'.frame l3.F fun a ha => ⟨l3.P a (.inr ha), Fn a (.inr ha)⟩
  have V1 : RelV c pn F3 e3 σ H3 (fun a => (P a ∨ a ∈ fz) ∨ a ∈ fy) v n d := ⟨fx, o1, nd, fun a ha z => by
    rcases z with (z | z) | z
    · exact np a ha z
    · exact np'' a z (.inl (.inr ha))
    · exact np' a z (.inr ha), Rz.weak fun a z => by
    rcases z with ((z | z) | z) | z
    · exact .inl (.inl (.inl z))
    · exact .inr z
    · exact .inl (.inr z)
    · exact .inl (.inl (.inr z))⟩
  have S1 := V1.store hli hpi
  have V2 : RelV c pn F3 (e3.set i (some (n, d))) (σ.set i (some v)) H3 (fun a => P a ∨ a ∈ fz) w n' d' := ⟨fy, o2, nd', fun a ha z => by
    rcases z with z | z
    · exact np' a ha (.inl z)
    · exact np'' a z (.inr ha), S1⟩
  have S2 := V2.store hlj hpj
  have V3 : RelV c pn F3 ((e3.set i (some (n, d))).set j (some (n', d'))) ((σ.set i (some v)).set j (some w)) H3 P u n'' d'' := ⟨fz, o'', nd'', fun a ha z => np'' a ha (.inl (.inl z)), S2⟩
  exact q3 _ F3 H3 .rfl (V3.store hlk hpk)
/-! ### what is never reached -/
theorem os_stk {st : Stmt} : OkS X c pn W st stk := ⟨⟨fun pins s σ H D I ⟨F, e, P, R, q⟩ => q.elim⟩⟩
theorem ov_stk {ex : Expr} : OkV X c pn W ex stk := ⟨⟨fun pins s σ H Q I ⟨F, e, P, R, q⟩ => q.elim⟩⟩
end
end Mini

set_option Elab.async false
set_option linter.all false
set_option maxRecDepth 100000
/-! MDict: {k: v for ..}; how many different ones. -/
namespace Mini
open PySem L2
def dcL (own : List Nat) (g : Tg) (t : M Bool) (k v : M Vl) : List D → List Key × List D → M (List Key × List D)
  | [], acc => ret acc
  | d :: ds, acc => fun e => bnd (tgM g d) (fun _ => bnd t fun b => if b then bnd (oV k) fun x => bnd (oV v) fun y => match x, y with
      | .val kd, .val vd => bnd (opt (keyD kd)) fun q => if acc.1.length < sLine then dcL own g t k v ds (putK acc.1 acc.2 q vd) else stk
      | _, _ => stk
    else dcL own g t k v ds acc) (hide own e)
def vDComp (own : List Nat) (it : M (List D)) (g : Tg) (t : M Bool) (k v : M Vl) : M Vl := bnd it fun ds e1 =>
  if own.all (calmS e1) then
    match dcL own g t k v ds ([], []) e1 with
    | .ok r e2 => .ok (1, .dK r.1 r.2) (back e1 own e2)
    | _ => .stuck
  else .stuck
section
variable {X : Cx} {c : Ctx} {pn : Pins} {W : WX} {F H : Hp} {e : Env} {σ : L2.St} {P : Addr → Prop}
theorem rel_back {own : List Nat} {e1 : Env} {F1 H1 : Hp} {P1 : Addr → Prop} (R1 : Rel c pn F1 e1 σ H1 P1) (s : Same F1 F) (hc : own.all (calmS e1) = true) (R : Rel c pn F (hide own e) (wipe σ own) H P) : Rel c pn F (Mini.back e1 own e) σ H P := by
  obtain ⟨φ, r1, r2, r3, r4, r5, r6, r7, r8⟩ := R
  have le : e.length = σ.length := by rw [hide_len, wipe_length] at r1; exact r1
  refine ⟨fun j => if j ∈ own then [] else φ j, by rw [back_len, le], r2, fun j n d g => ?_, fun j g => ?_, fun j => ?_, fun j k a hjk ha hk => ?_, fun a ha => ⟨(r7 a ha).1, (r7 a ha).2.1, fun j hj => ?_⟩, fun p hp => R1.choose_spec.2.2.2.2.2.2.2 p hp⟩
  · have hj : j < e.length := by
      have := getS_lt g
      rw [back_len] at this
      exact this
    rw [getS_back own e j hj] at g
    by_cases ho : j ∈ own
    · rw [if_pos ho] at g
      have hcj := List.all_eq_true.mp hc j ho
      unfold calmS at hcj
      rw [g] at hcj
      obtain ⟨φ1, t1, t2, t3, t4⟩ := R1
      obtain ⟨v, h1, o⟩ := t3 j n d g
      refine ⟨v, h1, ?_⟩
      dsimp only
      rw [if_pos ho]
      cases n with
      | zero => exact Own.zero (o.of_zero.1.mono s)
      | succ n => exact nomatch hcj
    · rw [if_neg ho] at g
      obtain ⟨v, h1, o⟩ := r3 j n d (by rw [getS_hide, if_neg ho]; exact g)
      refine ⟨v, by rw [wipe_out ho] at h1; exact h1, ?_⟩
      dsimp only
      rw [if_neg ho]
      exact o
  · dsimp only
    split
    · rfl
    · rename_i ho
      by_cases hj : j < e.length
      · rw [getS_back own e j hj, if_neg ho] at g
        exact r4 j (by rw [getS_hide, if_neg ho]; exact g)
      · exact r4 j (getS_out (by rw [hide_len]; omega))
  · dsimp only
    split
    · exact List.nodup_nil
    · exact r5 j
  · dsimp only at ha hk
    split at ha
    · cases ha
    · split at hk
      · cases hk
      · exact r6 j k a hjk ha hk
  · dsimp only at hj
    split at hj
    · cases hj
    · exact (r7 a ha).2.2 j hj
theorem dcomp_rd {z : Bool} {own T : List Nat} {mi : M (List D)} {g : Tg} {mt : M Bool} {mk mv : M Vl} (hT : ∀ i ∈ T, i ∈ own) (hp : ∀ p ∈ pn, p.1 ∉ own) {σ : L2.St} {H : Hp} {Q : VK} (h : rdV c pn W (vDComp own mi g mt mk mv) σ H Q) :
    tDc (rdI c pn W z mi) (rdG c pn z T g) (rdT c pn W0 mt) (rdO c pn W0 (oV mk)) (rdO c pn W0 (oV mv)) own σ H Q := by
  obtain ⟨F, e, P, R, q⟩ := h
  refine ⟨F, e, P, R, chV (R := fun F ds J => Walks c z J ds F) q fun ds e1 J F1 H1 l1 R1 w q1 D hD => ?_⟩
  have q1 : PoV c pn W σ P F1 H1 Q (if own.all (calmS e1) then
    match dcL own g mt mk mv ds ([], []) e1 with
    | .ok r e2 => .ok (1, .dK r.1 r.2) (back e1 own e2)
    | _ => .stuck
  else .stuck) := q1
  by_cases hc : own.all (calmS e1) = true
  · rw [if_pos hc] at q1
    have nPD : ¬ P D := fun z => by
      obtain ⟨φ, _, _, _, _, _, _, r7, _⟩ := R1
      exact (r7 D z).1 hD
    have RD := R1.hold (o := .dK []) hD
    have toP : ∀ {F H F' H' : Hp}, Later F H F' H' (fun a => P a ∨ a ∈ [D]) → Later F H F' H' P := fun l => ⟨l.F, fun a p => l.P a (.inl p)⟩
    refine ⟨fun i m H => m = ds.length - i ∧ i ≤ ds.length ∧ ∃ F e ks xs vs, Later F1 H1 F H P ∧ H D = some (.dK (ks.zip vs)) ∧ ks.length = vs.length ∧ Reps c.K c.C F xs vs ∧ xs.length ≤ i ∧ Rel c pn F (hide own e) (wipe σ own) H (fun a => P a ∨ a ∈ [D]) ∧
      ∃ r e2, dcL own g mt mk mv (ds.drop i) (ks, xs) e = .ok r e2 ∧ PoV c pn W σ P F1 H1 Q (.ok (1, .dK r.1 r.2) (back e1 own e2)), ⟨ds.length, rfl, Nat.zero_le _, F1, e1, [], [], [], ⟨Same.refl _, fun a ha => upd_ne (show a ≠ D from fun z => nPD (z ▸ ha))⟩, upd_same, rfl, rfl, Nat.zero_le _, RD.hide rfl hp, ?_⟩, ?_⟩
    · cases hcl : dcL own g mt mk mv ds ([], []) e1 with
      | ok vs e2 => rw [hcl] at q1; exact ⟨vs, e2, hcl, q1⟩
      | exc _ _ _ _ => rw [hcl] at q1; exact q1.elim
      | stuck => rw [hcl] at q1; exact q1.elim
    · rintro i m H2 ⟨rfl, hi, F2, e2, ks, xs, vs, l2, aD, hkl, rx, hxl, R2, rr, e3, hcl, q2⟩
      by_cases hlt : i < ds.length
      · have hd : ds[i]? = some ds[i] := List.getElem?_eq_getElem hlt
        rw [List.drop_eq_getElem_cons hlt] at hcl
        refine .inr ⟨w.go i _ F2 H2 hd l2.F R2.same, fun H' => i + 1 ≤ ds.length ∧ ∃ F e ks xs vs, Later F1 H1 F H' P ∧ H' D = some (.dK (ks.zip vs)) ∧ ks.length = vs.length ∧ Reps c.K c.C F xs vs ∧ xs.length ≤ i + 1 ∧ Rel c pn F (hide own e) (wipe σ own) H' (fun a => P a ∨ a ∈ [D]) ∧
          ∃ r e2, dcL own g mt mk mv (ds.drop (i + 1)) (ks, xs) e = .ok r e2 ∧ PoV c pn W σ P F1 H1 Q (.ok (1, .dK r.1 r.2) (back e1 own e2)), fun H' z => ⟨ds.length - (i + 1), by omega, rfl, z.1, z.2⟩, fun x H3 y => ?_⟩
        obtain ⟨F3, l3, R3, r3⟩ := w.yld i _ F2 H2 x H3 pn _ _ _ hd l2.F R2 y
        have hcl : bnd (tgM g ds[i]) (fun _ => bnd mt fun b => if b then bnd (oV mk) fun x => bnd (oV mv) fun y => match x, y with
          | .val kd, .val vd => bnd (opt (keyD kd)) fun q => if ks.length < sLine then dcL own g mt mk mv (ds.drop (i + 1)) (putK ks xs q vd) else stk
          | _, _ => stk
        else dcL own g mt mk mv (ds.drop (i + 1)) (ks, xs)) (hide own e2) = .ok rr e3 := hcl
        refine ⟨F3, hide own e2, _, ds[i], R3, r3, ?_⟩
        cases hg : g ds[i] (hide own e2) with
        | none => rw [bnd_stuck (show tgM g ds[i] (hide own e2) = .stuck by simp only [tgM, hg])] at hcl; cases hcl
        | some e4 =>
          rw [bnd_ok (show tgM g ds[i] (hide own e2) = .ok () e4 by simp only [tgM, hg])] at hcl
          intro σ4 F4 H4 l4 R4 hl4 hk4
          have hw4 : wipe σ4 own = wipe σ own := (wipe_same hT hl4 hk4).trans wipe_wipe
          refine ⟨hw4, F4, e4, _, R4, ?_⟩
          cases ht : mt e4 with
          | stuck => rw [bnd_stuck ht] at hcl; cases hcl
          | exc k ns dd e5 => rw [bnd_exc ht] at hcl; cases hcl
          | ok b e5 =>
            rw [bnd_ok ht] at hcl
            intro b' F5 H5 l5 R5 hb
            subst hb
            have lD : Later F2 H2 F5 H5 (fun a => P a ∨ a ∈ [D]) := l3.trans (l4.trans l5)
            cases b' with
            | false =>
              rw [if_neg Bool.false_ne_true] at hcl ⊢
              exact ⟨hlt, F5, e5, ks, xs, vs, l2.trans (toP lD), (lD.P D (.inr (List.mem_singleton.mpr rfl))).trans aD, hkl, rx.mono lD.F, Nat.le_succ_of_le hxl, R5.hide hw4 hp, rr, e3, hcl, q2⟩
            | true =>
              rw [if_pos rfl] at hcl ⊢
              refine ⟨F5, e5, _, R5, ?_⟩
              cases hk : oV mk e5 with
              | stuck => rw [bnd_stuck hk] at hcl; cases hcl
              | exc k ns dd e6 => rw [bnd_exc hk] at hcl; cases hcl
              | ok xk e6 =>
                rw [bnd_ok hk] at hcl
                intro yk F6 H6 l6 R6 ik
                refine ⟨F6, e6, _, R6, ?_⟩
                cases hv : oV mv e6 with
                | stuck => rw [bnd_stuck hv] at hcl; cases hcl
                | exc k ns dd e7 => rw [bnd_exc hv] at hcl; cases hcl
                | ok xv e7 =>
                  rw [bnd_ok hv] at hcl
                  intro yv F7 H7 l7 R7 iv
                  have lA : Later F2 H2 F7 H7 (fun a => P a ∨ a ∈ [D]) := lD.trans (l6.trans l7)
                  have aD7 : H7 D = some (.dK (ks.zip vs)) := (lA.P D (.inr (List.mem_singleton.mpr rfl))).trans aD
                  cases xk with
                  | bor _ => cases hcl
                  | val kd => cases xv with
                    | bor _ => cases hcl
                    | val vd =>
                      dsimp only at hcl
                      cases hq : keyD kd with
                      | none => rw [hq] at hcl; cases hcl
                      | some k =>
                        rw [hq, bnd_ok (show opt (some k) e7 = Res.ok k e7 from rfl)] at hcl
                        by_cases hl : ks.length < sLine
                        · rw [if_pos hl] at hcl
                          have ek : yk = kV k := key_of hq (Sh.of_rep R7.same (Rep.mono l7.F ik))
                          subst ek
                          have rv : Rep c.K c.C F7 vd yv := iv
                          obtain ⟨vs', p1, p2, p3⟩ := putK_ok (x := k) hkl (rx.mono lA.F) rv
                          have hzl : (ks.zip vs).length = ks.length := by rw [List.length_zip, hkl]; omega
                          have hxl' : (putK ks xs k vd).2.length ≤ i + 1 := by
                            have h1 : ks.length = xs.length := hkl.trans rx.length.symm
                            unfold putK
                            split
                            · simp only [List.length_zipWith]; omega
                            · simp only [List.length_append, List.length_singleton]; omega
                          refine ⟨ks.zip vs, k, rfl, aD7, by rw [hzl]; exact hl, hlt, F7, e7, (putK ks xs k vd).1, (putK ks xs k vd).2, vs', ⟨l2.F.trans lA.F, fun a ha => ?_⟩, ?_, p2, p3, hxl', ?_, rr, e3, hcl, q2⟩
                          · rw [upd_ne (show a ≠ D from fun z => nPD (z ▸ ha))]
                            exact (lA.P a (.inl ha)).trans (l2.P a ha)
                          · rw [upd_same, p1]
                          · exact (R7.upd (.inr (List.mem_singleton.mpr rfl))).hide hw4 hp
                        · rw [if_neg hl] at hcl; cases hcl
      · have ei : i = ds.length := by omega
        subst ei
        rw [List.drop_length] at hcl
        cases hcl
        refine .inl ⟨w.stop F2 H2 l2.F R2.same, ?_⟩
        have Rb := rel_back R1 l2.F hc R2
        have fD : F2 D = none := by
          obtain ⟨φ, _, _, _, _, _, _, r7, _⟩ := R2
          exact (r7 D (.inr (List.mem_singleton.mpr rfl))).2.1
        refine q2 (.ref D) F2 H2 l2 ⟨[D], ?_, List.nodup_cons.mpr ⟨by simp, List.nodup_nil⟩, fun a ha z => nPD (List.mem_singleton.mp ha ▸ z), Rb⟩
        unfold Own
        rw [if_neg (fun z => z.elim (fun z => absurd z (by decide)) fun z => nomatch z)]
        exact ⟨D, vs, [], rfl, fD, ⟨aD, hkl⟩, (show xs.length ≤ sizeLine by have := w.len; omega), Owns.zero rx, rfl⟩
  · rw [if_neg hc] at q1
    exact q1.elim
theorem ok_dcomp {z : Bool} {own : List (Str × Nat)} {T : List Nat} {kx vx tg it : Expr} {ifs : List Expr} {scope : Scope} {pos : Pos} {mi : M (List D)} {g : Tg} {mt : M Bool} {mk mv : M Vl} (hc : X.calm = true) (hN : X.N.Nodup) (hT : ∀ i ∈ T, i ∈ own.map (·.2)) (hp : ∀ p ∈ pn, p.1 ∉ own.map (·.2)) (hi : OkI X c pn W z tg it mi) (ok : BlkOk X.N X.env.scope scope own)
    (hg : ∀ (s : Shared) (H : Hp) (C : Addr) (cl : List (Str × Addr)) (fp : List Addr), OkG (X.blk s H scope (compEnvC scope cl C X.env) fp) c pn z T tg g)
    (ht : ∀ (s : Shared) (H : Hp) (C : Addr) (cl : List (Str × Addr)) (fp : List Addr), OkC (X.blk s H scope (compEnvC scope cl C X.env) fp) c pn W0 ifs mt)
    (hk : ∀ (s : Shared) (H : Hp) (C : Addr) (cl : List (Str × Addr)) (fp : List Addr), OkV (X.blk s H scope (compEnvC scope cl C X.env) fp) c pn W0 kx mk)
    (hv : ∀ (s : Shared) (H : Hp) (C : Addr) (cl : List (Str × Addr)) (fp : List Addr), OkV (X.blk s H scope (compEnvC scope cl C X.env) fp) c pn W0 vx mv)
    (hs : ∀ x, foldedSetIterable it X.env x = pure x := by intro _; rfl) : OkV X c pn W (.DictComp kx vx [⟨tg, it, ifs, 0⟩] scope pos) (vDComp (own.map (·.2)) mi g mt mk mv) :=
  ⟨PE.imp (pe_dc hc hN hi.ok ok (fun s H C cl fp => (hg s H C cl fp).ok) (fun s H C cl fp => (ht s H C cl fp).ok) (fun s H C cl fp => (oo_val (hk s H C cl fp)).ok) (fun s H C cl fp => (oo_val (hv s H C cl fp)).ok) hs) fun σ H Q h => dcomp_rd hT hp h⟩
end
end Mini

set_option Elab.async false
set_option linter.all false
set_option maxRecDepth 100000
/-! MSet: how many different numbers a tuple holds. -/
namespace Mini
open PySem L2 PySem.Spec PyProof.Rows
/-- the different ones -/
def difI : List Int → List Int
  | [] => []
  | n :: ns => if n ∈ ns then difI ns else n :: difI ns
theorem mem_difI : ∀ {ns : List Int} {k : Int}, k ∈ difI ns ↔ k ∈ ns
  | [], k => by simp [difI]
  | n :: ns, k => by
    unfold difI
    split
    · rename_i h
      rw [mem_difI (ns := ns), List.mem_cons]
      exact ⟨.inr, fun z => z.elim (fun z => z ▸ h) id⟩
    · rw [List.mem_cons, List.mem_cons, mem_difI (ns := ns)]
theorem nodup_difI : ∀ (ns : List Int), (difI ns).Nodup
  | [] => List.nodup_nil
  | n :: ns => by
    unfold difI
    split
    · exact nodup_difI ns
    · rename_i h
      exact List.nodup_cons.mpr ⟨fun z => h (mem_difI.mp z), nodup_difI ns⟩
/-- len(set(t)) -/
def fLenSet : D → Option Vl
  | .box .tup ds => (intsOf ds).bind fun ns => if ns.length < 4000 then some (0, .int ((difI ns).length : Nat)) else none
  | _ => none
section
variable {X : Cx} {c : Ctx} {pn : Pins} {W : WX} {F H : Hp} {e : Env} {σ : L2.St} {P : Addr → Prop}
def rLenSetT (K : PySem.W.Frag) : V → Hp → VK → Prop := fun x H Q => ∃ (l : Addr) (ns : List Int), x = .ref l ∧ SqT K H l (ns.map V.int) ∧ ns.length < 4000 ∧ Q (.int ((difI ns).length : Nat)) H
theorem pe_lenSetT {a : Expr} {ta : TE} {p p2 q pos : Pos} (hc : X.calm = true) (hg : Gl X "len") (hm : X.mg "len" = none) (hg2 : Gl X "set") (hm2 : X.mg "set" = none) (ha : PE X a ta)
    (na : starEach [a] X.env = (false, eval a X.env) :: starEach [] X.env) : PE X (.Call (.Name "len" p) [.Call (.Name "set" p2) [a] [] q] [] pos) (tUn (rLenSetT X.K) ta) := by
  refine ⟨fun pins s σ H Q I h => ?_⟩
  refine Call_ (ld_blt I hg hm PySem.boot_len ?_)
  refine PyProof.Rows.callWith_builtin1 (PyProof.Rows.args_cons ?_ rfl) rfl rfl
  refine Call_ (ld_blt I hg2 hm2 PyProof.Rows.boot_set ?_)
  refine PyProof.Rows.callWith_type1 (PyProof.Rows.args_cons (thn (ha.run pins s σ H _ I h) fun v s1 ⟨x, H1, I1, r1, q1⟩ => PyProof.Rows.args_nil ?_) na) na rfl
  obtain ⟨l, ns, rfl, hq, hl, q1⟩ := q1
  cases r1
  obtain ⟨its, r, pl, hz⟩ := I1.tuple hq
  refine call_set_tupI ns (I1.ok.hd hc) (show s1.heap.IsTuple l its.toArray from pl) (by simpa using RZ.intsAre_vals r) (by unfold scanBound; omega) fun h' tk k hS hk hkeep => ?_
  refine PyProof.Rows.args_nil ?_
  obtain ⟨o, es, ep, t, ho, hex, hd, _, hnd, hmem, _, hf, hn, _⟩ := hS
  have I2 : Inv X pins σ H1 { s1 with heap := h', toks := tk } := I1.kept hkeep
  have hlen : es.size = (difI ns).length := by
    have hp : (es.toList.map L2.keyOf).Perm (difI ns) := (List.perm_ext_iff_of_nodup hnd (nodup_difI ns)).mpr fun k => by
      rw [← hmem k, mem_difI, decide_eq_true_eq]
    have := hp.length_eq
    simpa using this
  exact call_len_set ho hex hd hf (by rw [hn]; omega) ⟨.int ((difI ns).length : Nat), H1, I2.tok _, ⟨_, by rw [← hlen]⟩, q1⟩
theorem ok_lenSet {a : Expr} {m : M Item} {p p2 q pos : Pos} (hK : c.K = X.K) (hc : X.calm = true) (hm : X.mg "len" = none) (hm2 : X.mg "set" = none) (ha : OkO X c pn W a m) (hg : Gl X "len" := by rfl) (hg2 : Gl X "set" := by rfl)
    (na : starEach [a] X.env = (false, eval a X.env) :: starEach [] X.env := by rfl) : OkV X c pn W (.Call (.Name "len" p) [.Call (.Name "set" p2) [a] [] q] [] pos) (op1 fLenSet m) := by
  refine ⟨PE.imp (pe_lenSetT hc hg hm hg2 hm2 ha.ok na) fun σ H Q h => op1_rd (r := rLenSetT X.K) ?_ h⟩
  intro pn F e σ H P d n z x Q R s hf q
  rw [← hK]
  cases d with
  | box h ds => cases h with
    | tup =>
      obtain ⟨a, vs, rfl, s1, s2, s3, _⟩ := s
      have hf : ((intsOf ds).bind fun ns => if ns.length < 4000 then some ((0, .int ((difI ns).length : Nat)) : Vl) else none) = some (n, z) := hf
      cases hb : intsOf ds with
      | none => rw [hb] at hf; cases hf
      | some ns =>
        rw [hb, Option.bind_some] at hf
        by_cases hl : ns.length < 4000
        · rw [if_pos hl] at hf
          cases hf
          have e := ints_of hb s3
          subst e
          exact ⟨a, ns, rfl, TupS.sq s1, hl, sc R q rfl rfl⟩
        · rw [if_neg hl] at hf; cases hf
    | _ => cases hf
  | _ => cases hf
end
end Mini

set_option Elab.async false
set_option linter.all false
set_option maxRecDepth 100000
/-! MEq: ==, != by an own __eq__. -/
namespace Mini
open PySem L2 PySem.Spec PyProof.Rows PySem.SeqAt
section
variable {M : Model} {prog : Program} {w : World} {A : Around} {E : Value → Shared → Prop} {s : Shared} {K : PySem.W.Frag} {x C f L : Addr} {h₀ : Heap} {m : Str → Option Value} {ox : Obj} {od : Option Obj} {b tb : Value}
theorem entry_ne {Q : Fin → Shared → Prop} (hu : A.units < cLine) (X : K.In s.heap) (I : PySem.W.InstAt s.heap x ox C od) (hs : PySem.W.findIn K (.ref C) "__eq__" = some (some (.ref f))) (hf : PySem.W.isFn K (.ref f) = true)
    (hc : wpAny (model prog w) A (call (.ref f) [.ref x, b]) (fun v s' => ∃ r, v = .bool r ∧ Q (.done (.ret (.bool (!r)))) s') E s) : wpAny (model prog w) A (Builtin.«object.__ne__» ⟨[.ref x, b], []⟩) Q E s := by
  unfold Builtin.«object.__ne__»
  repeat (first
    | with_reducible refine wpAny_cRoomFor hu ?_
    | (refine wpAny_bind (m := callSpecialIfBound? (.ref x) (Str.ofString "__eq__") [b])
        (PySem.W.ifBound_K X I hs hf (wpAny_mono hc (fun r s' hr => by
          obtain ⟨r, rfl, hq⟩ := hr
          repeat (first | exact hq | exact wpAny_pure hq | exact wpAny_truthy_bool hq | (refine wpAny_bind (m := truthy (.bool _)) (wpAny_truthy_bool ?_)) | wp_step)) fun _ _ e => e)))
    | wp_step)
theorem call_ne {Q : Value → Shared → Prop} (hu : A.units + 1 < cLine) (X : K.In s.heap) (I : PySem.W.InstAt s.heap x ox C od) (hm : PySem.W.mroIn K C (.type "object") = some true) (hs : PySem.W.findIn K (.ref C) "__eq__" = some (some (.ref f))) (hf : PySem.W.isFn K (.ref f) = true)
    (hc : wpAny (model prog w) A.in1 (call (.ref f) [.ref x, b]) (fun v s' => ∃ r, v = .bool r ∧ Q (.bool (!r)) s') E s) : wpAny (model prog w) A (call (.builtin "object.__ne__") [.ref x, b]) Q E s :=
  wpAny_call (codeAny_call_builtin F.cmp_object.ne.plain F.cmpEntry_ne (PySem.W.check_slot F.cmpKind_ne F.cmpSplit_ne (I.type.andThen (PySem.W.looks_mroIn X hm)) (F.cmpArgs_ne _ _) (entry_ne (A := A.in1) hu X I hs hf hc)))
theorem ifBound_ne {args : List Value} {Q : Option Value → Shared → Prop} (X : K.In s.heap) (I : PySem.W.InstAt s.heap x ox C od) (hs : PySem.W.findIn K (.ref C) "__ne__" = some (some (.builtin "object.__ne__")))
    (h : wpAny M A (call (.builtin "object.__ne__") (.ref x :: args)) (fun v => Q (some v)) E s) : wpAny M A (callSpecialIfBound? (.ref x) "__ne__" args) Q E s := by
  simp only [callSpecialIfBound?, bindSpecialIfBound?]
  refine wpAny_holding (wpAny_bind (wpAny_bind (wpAny_bind (I.type.here ((PySem.W.looks_findIn X hs).here ?_)))))
  refine wpAny_bind (wpAny_askSetting (wpAny_ite ?_))
  have fin : wpAny M A (call (.builtin "object.__ne__") ([.ref x] ++ args) >>= fun v => pure (some v)) Q E s := wpAny_bind (wpAny_mono h (fun v s' h' => wpAny_pure h') fun _ _ h' => h')
  split
  · exact wpAny_bind (wpAny_of_eq (F.cmp_object.ne.bind _) (wpAny_pure (by exact fin)))
  · exact wpAny_tryCatch (wpAny_bind (wpAny_of_eq (F.cmp_object.ne.bind _) (wpAny_pure (by exact fin))))
theorem cmp_ne {Q : Value → Shared → Prop} (hu : A.units + 1 < cLine) (X : K.In s.heap) (I : PySem.W.InstAt s.heap x ox C od) (hb : PySem.W.Looks (model prog w) s.heap (typeOf b) tb) (hn : PySem.W.notFirst K C tb = true) (hm : PySem.W.mroIn K C (.type "object") = some true)
    (hne : PySem.W.findIn K (.ref C) "__ne__" = some (some (.builtin "object.__ne__"))) (hs : PySem.W.findIn K (.ref C) "__eq__" = some (some (.ref f))) (hf : PySem.W.isFn K (.ref f) = true)
    (h : wpAny (model prog w) A.in1 (call (.ref f) [.ref x, b]) (fun v s' => ∃ r, v = .bool r ∧ Q (.bool (!r)) s') E s) : wpAny (model prog w) A (richCompare .NotEq (.ref x) b) Q E s := by
  have one : wpAny (model prog w) A (tryCompare (.ref x) "__ne__" b) (fun r s' => ∃ v, r = some v ∧ Q v s') E s := by
    unfold tryCompare
    refine wpAny_bind (ifBound_ne X I hne (call_ne hu X I hm hs hf (wpAny_mono h (fun v s' hv => ?_) fun _ _ e => e)))
    obtain ⟨r, rfl, q⟩ := hv
    exact ⟨r, rfl, wpAny_pure ⟨_, rfl, q⟩⟩
  simp only [richCompare, cmpInfo_NotEq, oneThing_ref]
  refine wpAny_holding (wpAny_bind (wpAny_cRoomFor (Nat.lt_of_succ_lt hu) ?_))
  refine wpAny_bind (I.type.here (wpAny_bind (hb.here ?_)))
  split
  · rename_i q
    have e : PySem.W.subIn K tb (.ref C) = some false := by
      rcases Bool.or_eq_true_iff.mp hn with e | e
      · rw [beq_iff_eq.mp e] at q; simp at q
      · exact beq_iff_eq.mp e
    refine wpAny_bind ((PySem.W.looks_subIn X e).here ?_)
    simp only [Bool.false_eq_true, if_false]
    refine wpAny_bind (wpAny_mono one (fun r s' z => ?_) fun _ _ e => e)
    obtain ⟨v, rfl, hq⟩ := z
    exact wpAny_pure hq
  · refine wpAny_bind (wpAny_pure ?_)
    simp only [Bool.false_eq_true, if_false]
    refine wpAny_bind (wpAny_mono one (fun r s' z => ?_) fun _ _ e => e)
    obtain ⟨v, rfl, hq⟩ := z
    exact wpAny_pure hq
end
def isScr : D → Bool
  | .scr _ => true
  | .box (.dT _) _ => true
  | _ => false
/-- == of trees, an instance's by its class's own __eq__ -/
def fEqO (t : Nat → Option FSem) (neg : Bool) (d d' : D) : Option Vl := match d with
  | .box (.ins k _) _ => if isScr d' then none else match t k with
    | some f => match f [(0, d), (0, d')] with
      | .ok (_, .bl b) _ => some (0, .bl (if neg then !b else b))
      | _ => none
    | none => none
  | _ => if neg then fNe d d' else fEq d d'
def vEqO (t : Nat → Option FSem) (neg : Bool) (a b : M Vl) : M Vl := bnd (seqM [oV a, oV b]) fun xs => match xs with
  | [.val d, .val d'] => opt (fEqO t neg d d')
  | _ => stk
/-- the own __eq__ of the class k -/
structure EqOf (X : Cx) (c : Ctx) (k : Nat) (f : FSem) : Prop where
  ex : ∃ l fa fd ps, FnOk X.prog X.w X.K X.mg X.base (L2.CX X.prog X.w) l fa fd ps (spF c 2 f) ∧ Room (l + 1) X.A ∧ Binds X.K fd ps [] ∧ PySem.W.findIn X.K (.ref (c.C.a k)) "__eq__" = some (some (.ref fa)) ∧ PySem.W.isFn X.K (.ref fa) = true
  ne : PySem.W.findIn X.K (.ref (c.C.a k)) "__ne__" = some (some (.builtin "object.__ne__"))
def cE (neg : Bool) : CmpOp := if neg then .NotEq else .Eq
section
variable {X : Cx} {c : Ctx} {pn : Pins} {W : WX} {F H : Hp} {e : Env} {σ : L2.St} {P : Addr → Prop}
def rOwn (X : Cx) (c : Ctx) (t : Nat → Option FSem) (neg : Bool) : R2 := fun x y H Q => (if neg then rNeD X.K x y H Q else rEqD X.K x y H Q) ∨ ∃ k f a dx fs tb, t k = some f ∧ x = .ref a ∧ H a = some (.ins (c.C.a k) dx fs) ∧ TyX X.K H y tb ∧ PySem.W.notFirst X.K (c.C.a k) tb = true ∧ PySem.W.mroIn X.K (c.C.a k) (.type "object") = some true ∧
  spF c 2 f [x, y] H (fun v H' => ∃ b, v = .bl b ∧ Q (.bl (if neg then !b else b)) H') (fun _ _ _ => False)
theorem op_own {t : Nat → Option FSem} (neg : Bool) (hu : X.A.units + 64 < cLine) (E : ∀ k f, t k = some f → EqOf X c k f) : OpR X (compareOp (cE neg)) (rOwn X c t neg) := by
  intro pins s σ H x y v u Q I rx ry h
  rcases h with h | ⟨k, f, a, dx, fs, tb, ht, rfl, ha, ty, hn, hm, hsp⟩
  · cases neg with
    | false => exact op_eqD hu pins s σ H x y v u Q I rx ry h
    | true => exact op_neD hu pins s σ H x y v u Q I rx ry h
  · obtain ⟨l, fa, fd, ps, Fn, hr, hb, hs, hf⟩ := (E k f ht).ex
    have hne := (E k f ht).ne
    cases rx
    obtain ⟨mA, J, _⟩ := ins_get I.hok ha
    obtain ⟨od, J, _⟩ := J.look
    obtain ⟨m, hF⟩ := I.fr
    obtain ⟨Pk, Z, pk, _⟩ := kit_of I ry ty
    have hlk := Z.ty (model X.prog X.w) s.heap I.kIn pk
    have hl := Fn.len _ _ _ _ hsp
    have r2 : Vals [V.ref a, y] [Value.ref a, u] := .cons rfl (.cons ry .nil)
    have run : ∀ (A : Around) (R : Value → Shared → Prop), Sub X l A → (∀ b s', (∃ H', Inv X pins σ H' s' ∧ Q (.bl (if neg then !b else b)) H') → R (.bool b) s') → wpAny (model X.prog X.w) A (call (.ref fa) [.ref a, u]) R X.xe s := by
      intro A R sb hR
      have e0 : Env0 X.prog X.w X.K X.mg X.base A X.stack s H := by
        have e := I.env0
        exact ⟨by rw [sb.fr]; exact e.frames, e.mod, e.bs, e.bsz, e.funs, e.frf, e.hok, e.bare⟩
      refine wpAny_call (codeAny_mono (Fn.run A X.stack s H ⟨[.ref a, u], []⟩ [.ref a, u] [.ref a, y] _ _ sb.room e0 (by
        have := hb s [.ref a, u] I.kIn (by simpa using hl)
        simpa using this) r2 hsp) fun r s' hq => ?_)
      cases r with
      | error e =>
        obtain ⟨_, _, _, _, _, _, _, _, _, _, _, _, z⟩ := (show L2.CX X.prog X.w X.stack H s (fun _ _ _ => False) e s' from hq)
        exact z.elim
      | ok fl =>
        cases fl with
        | ret w =>
          obtain ⟨z, H', I', rz, b, ez, q⟩ := I.after hq
          subst ez
          cases rz
          exact hR b s' ⟨H', I', q⟩
        | next => exact False.elim hq
        | brk => exact False.elim hq
        | cont => exact False.elim hq
    cases neg with
    | false =>
      show wpAny (model X.prog X.w) X.A (richCompare .Eq (.ref a) u) (EP X pins σ Q) X.xe s
      refine PySem.W.cmp_K (op := .Eq) (tb := tb) (by omega) hF I.ok.mod.kin J hlk hn hs hf (run X.A _ ⟨hr.mono (Nat.le_succ _), rfl⟩ fun b s' ⟨H', I', q⟩ => ?_)
      exact ⟨.bl b, H', I', rfl, q⟩
    | true =>
      show wpAny (model X.prog X.w) X.A (richCompare .NotEq (.ref a) u) (EP X pins σ Q) X.xe s
      refine cmp_ne (tb := tb) (by omega) I.kIn J hlk hn hm hne hs hf (run X.A.in1 _ ⟨hr.in1, rfl⟩ fun b s' ⟨H', I', q⟩ => ?_)
      exact ⟨b, rfl, .bl !b, H', I', rfl, q⟩
theorem not_first (I : ∀ k, k < c.C.n → IsC c.K c.C k) {k : Nat} (hk : k < c.C.n) {d : D} {v : V} {t : Value} (s : Sh c F H d v) (ht : tyV' c.C d = some t) : PySem.W.notFirst c.K (c.C.a k) t = true := by
  have g := I k hk
  unfold PySem.W.notFirst
  rw [Bool.or_eq_true]
  have no : ∀ {T : String}, T ∈ ["NoneType", "int", "bool", "str", "list", "tuple", "dict"] → (PySem.W.subIn c.K (.type T) (.ref (c.C.a k)) == some false) = true := fun h => by rw [sub_ty h]; rfl
  cases d with
  | non => cases ht; exact .inr (no (by decide))
  | bl _ => cases ht; exact .inr (no (by decide))
  | int _ => cases ht; exact .inr (no (by decide))
  | str _ => cases ht; exact .inr (no (by decide))
  | scr _ => cases ht
  | box hd ds =>
    cases hd with
    | lst => cases ht; exact .inr (no (by decide))
    | tup => cases ht; exact .inr (no (by decide))
    | dK _ => cases ht; exact .inr (no (by decide))
    | dT _ => cases ht
    | ins j ns =>
      cases ht
      obtain ⟨a, vs, rfl, ⟨⟨_, gj⟩, _⟩, _⟩ := s
      by_cases e : j = k
      · subst e
        exact .inl (by simp)
      · refine .inr ?_
        show (PySem.W.mroIn c.K (c.C.a j) (.ref (c.C.a k)) == some false) = true
        rw [g.sub j gj.lt, beq_eq_false_iff_ne.mpr e]
        rfl
theorem ty_of_rep {d : D} {v : V} (r : Rep c.K c.C F d v) (hs : isScr d = false) : ∃ t, tyV' c.C d = some t := by
  cases d with
  | scr ns => cases hs
  | box hd ds =>
    cases hd with
    | dT _ => cases hs
    | _ => exact ⟨_, rfl⟩
  | _ => exact ⟨_, rfl⟩
theorem two_args {d d' : D} {x y : V} (R : Rel c pn F e σ H P) (rx : Rep c.K c.C F d x) (ry : Rep c.K c.C F d' y) : ∃ P', (∀ a, P a → P' a) ∧ Rel c [] F ([((0, d) : Vl), (0, d')].map some) ([x, y].map some) H P' ∧ ∀ {F' H' : Hp} {e' : Env} {σ' : L2.St}, Later F H F' H' P' → Rel c [] F' e' σ' H' P' → Rel c pn F' e σ H' P := by
  obtain ⟨φ, r1, r2, r3, r4, r5, r6, r7, r8⟩ := R
  have fr : ∀ a, (P a ∨ ∃ i, a ∈ φ i) → H a ≠ none ∧ F a = none := fun a h => by
    rcases h with h | ⟨i, h⟩
    · exact ⟨(r7 a h).1, (r7 a h).2.1⟩
    · cases g : getS e i with
      | none => rw [r4 i g] at h; cases h
      | some z =>
        obtain ⟨n, d⟩ := z
        obtain ⟨v, _, o⟩ := r3 i n d g
        exact ⟨(o.fp a h).2, (o.fp a h).1⟩
  refine ⟨fun a => P a ∨ ∃ i, a ∈ φ i, fun a h => .inl h, rel_args (ds := [d, d']) (vs := [x, y]) r2 ⟨x, [y], rfl, rx, y, [], rfl, ry, rfl⟩ fr, fun {F' H' e' σ'} l R' => ?_⟩
  obtain ⟨φ', t1, t2, t3, t4, t5, t6, t7, t8⟩ := R'
  refine ⟨φ, r1, t2, fun i n d g => ?_, r4, r5, r6, fun a ha => ⟨(t7 a (.inl ha)).1, (t7 a (.inl ha)).2.1, (r7 a ha).2.2⟩, r8⟩
  obtain ⟨v, g1, o⟩ := r3 i n d g
  exact ⟨v, g1, o.frame l.F fun a ha => ⟨l.P a (.inr ⟨i, ha⟩), (t7 a (.inr ⟨i, ha⟩)).2.1⟩⟩
theorem eqO_rd {t : Nat → Option FSem} (neg : Bool) {ma mb : M Vl} (hK : c.K = X.K) (I : ∀ k, k < c.C.n → IsC c.K c.C k) {σ : L2.St} {H : Hp} {Q : VK} (h : rdV c pn W (vEqO t neg ma mb) σ H Q) : tOp (rOwn X c t neg) (rdO c pn W (oV ma)) (rdO c pn W (oV mb)) σ H Q := by
  obtain ⟨F, e, P, R, q⟩ := h
  refine ⟨F, e, P, R, ?_⟩
  have q : PoV c pn W σ P F H Q (bnd (oV ma) (fun x => bnd (oV mb) fun y => match x, y with
    | .val d, .val d' => opt (fEqO t neg d d')
    | _, _ => stk) e) := by
    have e1 : vEqO t neg ma mb e = bnd (oV ma) (fun x => bnd (oV mb) fun y => match x, y with
      | .val d, .val d' => opt (fEqO t neg d d')
      | _, _ => stk) e := by
      unfold vEqO
      rw [seqM_two]
      unfold bnd
      cases oV ma e with
      | ok x e1 =>
        dsimp only
        cases oV mb e1 with
        | ok y e2 => cases x <;> cases y <;> rfl
        | _ => rfl
      | _ => rfl
    rw [← e1]; exact q
  refine chV (R := fun F x v => IRel c F σ x v) q fun xi e1 x F1 H1 l1 R1 i1 q1 => ?_
  refine ⟨F1, e1, P, R1, chV (R := fun F x v => IRel c F σ x v) q1 fun yi e2 y F2 H2 l2 R2 i2 q2 => ?_⟩
  cases xi with
  | bor _ => cases yi <;> exact q2.elim
  | val d => cases yi with
    | bor _ => exact q2.elim
    | val d' =>
      have r1 : Rep c.K c.C F2 d x := Rep.mono l2.F i1
      have r2 : Rep c.K c.C F2 d' y := i2
      have base : fEqO t neg d d' = (if neg then fNe d d' else fEq d d') → rOwn X c t neg x y H2 Q := by
        intro hf
        have q2 : PoV c pn W σ P F2 H2 Q (opt (fEqO t neg d d') e2) := q2
        rw [hf] at q2
        cases neg with
        | false =>
          cases hv : fEq d d' with
          | none => simp only [hv, Bool.false_eq_true, if_false] at q2; exact q2.elim
          | some z =>
            obtain ⟨n, z⟩ := z
            simp only [hv, Bool.false_eq_true, if_false] at q2
            exact .inl (o_eq hK pn F2 e2 σ H2 P d d' n z x y Q R2 (Sh.of_rep R2.same r1) (Sh.of_rep R2.same r2) hv q2)
        | true =>
          cases hv : fNe d d' with
          | none => simp only [hv, if_true] at q2; exact q2.elim
          | some z =>
            obtain ⟨n, z⟩ := z
            simp only [hv, if_true] at q2
            exact .inl (o_ne hK pn F2 e2 σ H2 P d d' n z x y Q R2 (Sh.of_rep R2.same r1) (Sh.of_rep R2.same r2) hv q2)
      cases d with
      | box hd ds =>
        cases hd with
        | ins k ns =>
          have q2 : PoV c pn W σ P F2 H2 Q (opt (if isScr d' then none else match t k with
            | some f => match f [(0, .ins k ns ds), (0, d')] with
              | .ok (_, .bl b) _ => some ((0, .bl (if neg then !b else b)) : Vl)
              | _ => none
            | none => none) e2) := q2
          by_cases hsc : isScr d' = true
          · rw [if_pos hsc] at q2; exact q2.elim
          rw [if_neg hsc] at q2
          cases ht : t k with
          | none => rw [ht] at q2; exact q2.elim
          | some f =>
            rw [ht] at q2
            dsimp only at q2
            cases hf : f [(0, .ins k ns ds), (0, d')] with
            | ok v ms =>
              obtain ⟨n, z⟩ := v
              rw [hf] at q2
              cases z with
              | bl b =>
                dsimp only at q2
                obtain ⟨av, vs, rfl, ⟨⟨⟨dx, s1⟩, g⟩, s2⟩, s3, s4⟩ := id r1
                have hty : ∃ tt, tyV' c.C d' = some tt := ty_of_rep r2 (Bool.eq_false_iff.mpr hsc)
                obtain ⟨tt, htt⟩ := hty
                obtain ⟨P', hP, RA, back⟩ := two_args R2 r1 r2
                refine .inr ⟨k, f, av, dx, _, tt, ht, rfl, R2.same _ _ s1, by rw [← hK]; exact tyx_of (Sh.of_rep R2.same r2) R2.same htt, by rw [← hK]; exact not_first I g.lt (Sh.of_rep R2.same r2) htt, by rw [← hK]; exact g.hm, F2, P', [(0, .ins k ns ds), (0, d')], rfl, RA, ?_⟩
                rw [hf]
                rintro v F' H' l rv
                have ev : v = .bl b := rv.rep
                subst ev
                have Rb := back l rv.rel
                exact ⟨b, rfl, q2 _ F' H' ⟨l.F, fun a pa => l.P a (hP a pa)⟩ (RelV.zero Rb rfl)⟩
              | _ => exact q2.elim
            | exc _ _ _ _ => rw [hf] at q2; exact q2.elim
            | stuck => rw [hf] at q2; exact q2.elim
        | _ => exact base rfl
      | _ => exact base rfl
theorem ok_eqO {t : Nat → Option FSem} (neg : Bool) {a b : Expr} {ma mb : M Vl} {pos : Pos} (hK : c.K = X.K) (hu : X.A.units + 64 < cLine) (I : ∀ k, k < c.C.n → IsC c.K c.C k) (E : ∀ k f, t k = some f → EqOf X c k f) (ha : OkV X c pn W a ma) (hb : OkV X c pn W b mb)
    (hm : behindInMarks (cE neg) b = false := by first | exact nomark _ | rfl) : OkV X c pn W (.Compare a [cE neg] [b] pos) (vEqO t neg ma mb) :=
  ⟨PE.imp (pe_cmpR (op_own neg hu E) (oo_val ha).ok (oo_val hb).ok hm) fun _ _ _ h => eqO_rd neg hK I h⟩
/-! ### tests of values that are True or False -/
theorem ot_test {ex : Expr} {t : TE} {m : M Vl} (h : PT X ex (tTest t)) (k : ∀ σ H Q, rdV c pn W m σ H Q → t σ H Q) : OkT X c pn W ex (tB m) := by
  refine ⟨PT.imp h fun σ H Q ⟨F, e, P, R, q⟩ => k σ H _ ⟨F, e, P, R, ?_⟩⟩
  refine cvR q fun n d e1 v F1 H1 l R1 q1 => ?_
  cases d with
  | bl b =>
    have r : v = V.bl b := R1.rep
    exact ⟨b, r, q1 b F1 H1 .rfl R1.rel rfl⟩
  | _ => exact q1.elim
theorem ot_cmp {op : CmpOp} {r : R2} {f : D → D → Option Vl} {a b : Expr} {ma mb : M Item} {pos : Pos} (ho : OpR X (compareOp op) r) (o : Op2 c r f) (ha : OkO X c pn W a ma) (hb : OkO X c pn W b mb)
    (hm : behindInMarks op b = false := by first | exact nomark _ | rfl) : OkT X c pn W (.Compare a [op] [b] pos) (tB (op2 f ma mb)) := ot_test (pt_cmpR ho ha.ok hb.ok hm) fun _ _ _ h => op2_rd o h
theorem ot_eqO {t : Nat → Option FSem} (neg : Bool) {a b : Expr} {ma mb : M Vl} {pos : Pos} (hK : c.K = X.K) (hu : X.A.units + 64 < cLine) (I : ∀ k, k < c.C.n → IsC c.K c.C k) (E : ∀ k f, t k = some f → EqOf X c k f) (ha : OkV X c pn W a ma) (hb : OkV X c pn W b mb)
    (hm : behindInMarks (cE neg) b = false := by first | exact nomark _ | rfl) : OkT X c pn W (.Compare a [cE neg] [b] pos) (tB (vEqO t neg ma mb)) :=
  ot_test (pt_cmpR (op_own neg hu E) (oo_val ha).ok (oo_val hb).ok hm) fun _ _ _ h => eqO_rd neg hK I h
end
end Mini

set_option Elab.async false
set_option linter.all false
set_option maxRecDepth 100000
/-! MComp2: comprehensions of two clauses. -/
namespace Mini
open PySem L2
section
variable {X : Cx} {c : Ctx} {pn : Pins} {W : WX} {F H : Hp} {e : Env} {σ : L2.St} {P : Addr → Prop}
theorem env_get (e : Env) (j : Nat) : e[j]? = if j < e.length then some (getS e j) else none := by
  unfold getS
  by_cases h : j < e.length
  · rw [if_pos h, List.getD_eq_getElem?_getD, List.getElem?_eq_getElem h]; rfl
  · rw [if_neg h, List.getElem?_eq_none (by omega)]
theorem hide_hide {own own1 : List Nat} (h : ∀ i ∈ own1, i ∈ own) : hide own (hide own1 e) = hide own e := by
  apply List.ext_getElem?
  intro j
  rw [env_get, env_get, hide_len, hide_len, hide_len, getS_hide, getS_hide, getS_hide]
  by_cases ho : j ∈ own
  · simp [ho]
  · have : j ∉ own1 := fun z => ho (h j z)
    simp [ho, this]
theorem wipe_sub {own own1 : List Nat} {σ4 : L2.St} (h : ∀ i ∈ own1, i ∈ own) : wipe (wipe σ4 own1) own = wipe σ4 own :=
  wipe_same (T := own1) h (wipe_length _ _) fun j hj => wipe_out hj
theorem comp2_rd {z z1 : Bool} {own T own1 T1 : List Nat} {mi mi1 : M (List D)} {g g1 : Tg} {mt mt1 : M Bool} {me : M Vl} (hT : ∀ i ∈ T, i ∈ own) (hT1 : ∀ i ∈ T1, i ∈ own1) (ho : ∀ i ∈ own1, i ∈ own) (hp : ∀ p ∈ pn, p.1 ∉ own) {σ : L2.St} {H : Hp} {Q : VK} (h : rdV c pn W (vComp2 own mi g mt mi1 own1 g1 mt1 me) σ H Q) :
    tLc2 (rdI c pn W z mi) (rdG c pn z T g) (rdT c pn W0 mt) (rdI c pn W0 z1 mi1) (rdG c pn z1 T1 g1) (rdT c pn W0 mt1) (rdV c pn W0 me) own own1 σ H Q := by
  obtain ⟨F, e, P, R, q⟩ := h
  refine ⟨F, e, P, R, chV (R := fun F ds J => Walks c z J ds F) q fun ds e1 J F1 H1 l1 R1 w q1 D hD => ?_⟩
  have q1 : PoV c pn W σ P F1 H1 Q (if own.all (calmS e1) then
    match compL2 own g mt mi1 own1 g1 mt1 me ds e1 with
    | .ok vs e2 => if vs.length ≤ 16777216 then .ok (mkLst vs) (back e1 own e2) else .stuck
    | _ => .stuck
  else .stuck) := q1
  have hp1 : ∀ p ∈ pn, p.1 ∉ own1 := fun p h z => hp p h (ho _ z)
  by_cases hc : own.all (calmS e1) = true
  · rw [if_pos hc] at q1
    have nPD : ¬ P D := fun z => by
      obtain ⟨φ, _, _, _, _, _, _, r7, _⟩ := R1
      exact (r7 D z).1 hD
    have fD : F1 D = none := F_none R1.same hD
    have RD := R1.hold (o := .lst []) hD
    have hsl : (16777216 : Nat) = sizeLine := by decide
    obtain ⟨rest0, e20, hcl0, hln0, q20⟩ : ∃ rest e2, compL2 own g mt mi1 own1 g1 mt1 me ds e1 = .ok rest e2 ∧ rest.length ≤ 16777216 ∧ PoV c pn W σ P F1 H1 Q (.ok (mkLst rest) (back e1 own e2)) := by
      cases hcl : compL2 own g mt mi1 own1 g1 mt1 me ds e1 with
      | ok vs e2 =>
        rw [hcl] at q1
        by_cases hln : vs.length ≤ 16777216
        · simp only [hln, if_true] at q1
          exact ⟨vs, e2, rfl, hln, q1⟩
        · simp only [hln, if_false] at q1
          exact q1.elim
      | exc _ _ _ _ => rw [hcl] at q1; exact q1.elim
      | stuck => rw [hcl] at q1; exact q1.elim
    refine ⟨fun i m H => m = ds.length - i ∧ i ≤ ds.length ∧ ∃ F e xs vs fp, Later F1 H1 F H P ∧ Acc c pn F H P D xs vs fp ∧ Rel c pn F (hide own e) (wipe σ own) H (fun a => P a ∨ a ∈ D :: fp) ∧
      ∃ rest e2, compL2 own g mt mi1 own1 g1 mt1 me (ds.drop i) e = .ok rest e2 ∧ (xs ++ rest).length ≤ 16777216 ∧ PoV c pn W σ P F1 H1 Q (.ok (mkLst (xs ++ rest)) (back e1 own e2)), ⟨ds.length, rfl, Nat.zero_le _, F1, e1, [], [], [], ⟨Same.refl _, fun a ha => upd_ne (show a ≠ D from fun z => nPD (z ▸ ha))⟩, ⟨upd_same, fD, ⟨rfl, rfl⟩, List.nodup_cons.mpr ⟨by simp, List.nodup_nil⟩, fun a ha => by rw [List.mem_singleton.mp ha]; exact nPD⟩, RD.hide rfl hp, rest0, e20, hcl0, hln0, q20⟩, ?_⟩
    rintro i m H2 ⟨rfl, hi, F2, e2, xs, vs, fp, l2, A, R2, rest, e3, hcl, hln, q2⟩
    by_cases hlt : i < ds.length
    · have hd : ds[i]? = some ds[i] := List.getElem?_eq_getElem hlt
      rw [List.drop_eq_getElem_cons hlt] at hcl
      refine .inr ⟨w.go i _ F2 H2 hd l2.F R2.same, fun H' => i + 1 ≤ ds.length ∧ ∃ F e xs vs fp, Later F1 H1 F H' P ∧ Acc c pn F H' P D xs vs fp ∧ Rel c pn F (hide own e) (wipe σ own) H' (fun a => P a ∨ a ∈ D :: fp) ∧
        ∃ rest e2, compL2 own g mt mi1 own1 g1 mt1 me (ds.drop (i + 1)) e = .ok rest e2 ∧ (xs ++ rest).length ≤ 16777216 ∧ PoV c pn W σ P F1 H1 Q (.ok (mkLst (xs ++ rest)) (back e1 own e2)), fun H' z => ⟨ds.length - (i + 1), by omega, rfl, z.1, z.2⟩, fun x H3 y => ?_⟩
      obtain ⟨F3, l3, R3, r3⟩ := w.yld i _ F2 H2 x H3 pn _ _ _ hd l2.F R2 y
      have A3 := A.later (fun a ha => .inr ha) l3 R3
      have hcl : bnd (tgM g ds[i]) (fun _ => bnd mt fun b => if b then bnd mi1 fun ds1 => bnd (compL own1 g1 mt1 me ds1) fun vs => bnd (compL2 own g mt mi1 own1 g1 mt1 me (ds.drop (i + 1))) fun ws => ret (vs ++ ws) else compL2 own g mt mi1 own1 g1 mt1 me (ds.drop (i + 1))) (hide own e2) = .ok rest e3 := hcl
      refine ⟨F3, hide own e2, _, ds[i], R3, r3, ?_⟩
      cases hg : g ds[i] (hide own e2) with
      | none => rw [bnd_stuck (show tgM g ds[i] (hide own e2) = .stuck by simp only [tgM, hg])] at hcl; cases hcl
      | some e4 =>
        rw [bnd_ok (show tgM g ds[i] (hide own e2) = .ok () e4 by simp only [tgM, hg])] at hcl
        intro σ4 F4 H4 l4 R4 hl4 hk4
        have A4 := A3.later (fun a ha => .inr ha) l4 R4
        have hw4 : wipe σ4 own = wipe σ own := (wipe_same hT hl4 hk4).trans wipe_wipe
        refine ⟨hw4, F4, e4, _, R4, ?_⟩
        cases ht : mt e4 with
        | stuck => rw [bnd_stuck ht] at hcl; cases hcl
        | exc k ns dd e5 => rw [bnd_exc ht] at hcl; cases hcl
        | ok b e5 =>
          rw [bnd_ok ht] at hcl
          intro b' F5 H5 l5 R5 hb
          subst hb
          have A5 := A4.later (fun a ha => .inr ha) l5 R5
          have lD5 : Later F2 H2 F5 H5 (fun a => P a ∨ a ∈ D :: fp) := l3.trans (l4.trans l5)
          have lAll : Later F1 H1 F5 H5 P := ⟨l2.F.trans lD5.F, fun a ha => (lD5.P a (.inl ha)).trans (l2.P a ha)⟩
          cases b' with
          | false =>
            rw [if_neg Bool.false_ne_true] at hcl ⊢
            exact ⟨hlt, F5, e5, xs, vs, fp, lAll, A5, R5.hide hw4 hp, rest, e3, hcl, hln, q2⟩
          | true =>
            rw [if_pos rfl] at hcl ⊢
            refine ⟨F5, e5, _, R5, ?_⟩
            cases hi1 : mi1 e5 with
            | stuck => rw [bnd_stuck hi1] at hcl; cases hcl
            | exc k ns dd e6 => rw [bnd_exc hi1] at hcl; cases hcl
            | ok ds1 e6 =>
              rw [bnd_ok hi1] at hcl
              intro J1 F6 H6 l6 R6 w1
              have A6 := A5.later (fun a ha => .inr ha) l6 R6
              have lA6 : Later F1 H1 F6 H6 P := ⟨lAll.F.trans l6.F, fun a ha => (l6.P a (.inl ha)).trans (lAll.P a ha)⟩
              obtain ⟨vs7, e7, hc1, hcl⟩ : ∃ vs7 e7, compL own1 g1 mt1 me ds1 e6 = .ok vs7 e7 ∧ bnd (compL2 own g mt mi1 own1 g1 mt1 me (ds.drop (i + 1))) (fun ws => ret (vs7 ++ ws)) e7 = .ok rest e3 := by
                cases hc1 : compL own1 g1 mt1 me ds1 e6 with
                | stuck => rw [bnd_stuck hc1] at hcl; cases hcl
                | exc k ns dd e7 => rw [bnd_exc hc1] at hcl; cases hcl
                | ok v e7 => rw [bnd_ok hc1] at hcl; exact ⟨v, e7, rfl, hcl⟩
              obtain ⟨ws, hc2, rfl⟩ : ∃ ws, compL2 own g mt mi1 own1 g1 mt1 me (ds.drop (i + 1)) e7 = .ok ws e3 ∧ rest = vs7 ++ ws := by
                cases hc2 : compL2 own g mt mi1 own1 g1 mt1 me (ds.drop (i + 1)) e7 with
                | stuck => rw [bnd_stuck hc2] at hcl; cases hcl
                | exc k ns dd e8 => rw [bnd_exc hc2] at hcl; cases hcl
                | ok v e8 => rw [bnd_ok hc2] at hcl; cases hcl; exact ⟨v, rfl, rfl⟩
              refine ⟨fun j k H => k = ds1.length - j ∧ j ≤ ds1.length ∧ ∃ F e xs vs fp, Later F1 H1 F H P ∧ Same F6 F ∧ Acc c pn F H P D xs vs fp ∧ Rel c pn F (hide own1 e) (wipe σ4 own1) H (fun a => P a ∨ a ∈ D :: fp) ∧
                ∃ rest e2 ws, compL own1 g1 mt1 me (ds1.drop j) e = .ok rest e2 ∧ compL2 own g mt mi1 own1 g1 mt1 me (ds.drop (i + 1)) e2 = .ok ws e3 ∧ (xs ++ (rest ++ ws)).length ≤ 16777216 ∧ PoV c pn W σ P F1 H1 Q (.ok (mkLst (xs ++ (rest ++ ws))) (back e1 own e3)),
                ⟨ds1.length, rfl, Nat.zero_le _, F6, e6, xs, vs, fp, lA6, Same.refl _, A6, R6.hide rfl hp1, vs7, e7, ws, hc1, hc2, hln, q2⟩, ?_⟩
              rintro j k H7 ⟨rfl, hj, F7, e8, xs, vs, fp, l7, s7, A7, R7, rest, e9, ws', hc1, hc2, hln, q7⟩
              by_cases hjt : j < ds1.length
              · have hd1 : ds1[j]? = some ds1[j] := List.getElem?_eq_getElem hjt
                rw [List.drop_eq_getElem_cons hjt] at hc1
                refine .inr ⟨w1.go j _ F7 H7 hd1 s7 R7.same, fun H' => j + 1 ≤ ds1.length ∧ ∃ F e xs vs fp, Later F1 H1 F H' P ∧ Same F6 F ∧ Acc c pn F H' P D xs vs fp ∧ Rel c pn F (hide own1 e) (wipe σ4 own1) H' (fun a => P a ∨ a ∈ D :: fp) ∧
                  ∃ rest e2 ws, compL own1 g1 mt1 me (ds1.drop (j + 1)) e = .ok rest e2 ∧ compL2 own g mt mi1 own1 g1 mt1 me (ds.drop (i + 1)) e2 = .ok ws e3 ∧ (xs ++ (rest ++ ws)).length ≤ 16777216 ∧ PoV c pn W σ P F1 H1 Q (.ok (mkLst (xs ++ (rest ++ ws))) (back e1 own e3)), fun H' z => ⟨ds1.length - (j + 1), by omega, rfl, z.1, z.2⟩, fun x H8 y => ?_⟩
                obtain ⟨F8, l8, R8, r8⟩ := w1.yld j _ F7 H7 x H8 pn _ _ _ hd1 s7 R7 y
                have A8 := A7.later (fun a ha => .inr ha) l8 R8
                have hc1 : bnd (tgM g1 ds1[j]) (fun _ => bnd mt1 fun b => if b then bnd me fun v => bnd (compL own1 g1 mt1 me (ds1.drop (j + 1))) fun vs => ret (v :: vs) else compL own1 g1 mt1 me (ds1.drop (j + 1))) (hide own1 e8) = .ok rest e9 := hc1
                refine ⟨F8, hide own1 e8, _, ds1[j], R8, r8, ?_⟩
                cases hg1 : g1 ds1[j] (hide own1 e8) with
                | none => rw [bnd_stuck (show tgM g1 ds1[j] (hide own1 e8) = .stuck by simp only [tgM, hg1])] at hc1; cases hc1
                | some e10 =>
                  rw [bnd_ok (show tgM g1 ds1[j] (hide own1 e8) = .ok () e10 by simp only [tgM, hg1])] at hc1
                  intro σ9 F9 H9 l9 R9 hl9 hk9
                  have A9 := A8.later (fun a ha => .inr ha) l9 R9
                  have hw9 : wipe σ9 own1 = wipe σ4 own1 := (wipe_same hT1 hl9 hk9).trans wipe_wipe
                  refine ⟨hw9, F9, e10, _, R9, ?_⟩
                  cases ht1 : mt1 e10 with
                  | stuck => rw [bnd_stuck ht1] at hc1; cases hc1
                  | exc k ns dd e11 => rw [bnd_exc ht1] at hc1; cases hc1
                  | ok b e11 =>
                    rw [bnd_ok ht1] at hc1
                    intro b' F10 H10 l10 R10 hb
                    subst hb
                    have A10 := A9.later (fun a ha => .inr ha) l10 R10
                    have lD : Later F7 H7 F10 H10 (fun a => P a ∨ a ∈ D :: fp) := l8.trans (l9.trans l10)
                    have lB : Later F1 H1 F10 H10 P := ⟨l7.F.trans lD.F, fun a ha => (lD.P a (.inl ha)).trans (l7.P a ha)⟩
                    cases b' with
                    | false =>
                      rw [if_neg Bool.false_ne_true] at hc1 ⊢
                      exact ⟨hjt, F10, e11, xs, vs, fp, lB, s7.trans lD.F, A10, R10.hide hw9 hp1, rest, e9, ws', hc1, hc2, hln, q7⟩
                    | true =>
                      rw [if_pos rfl] at hc1 ⊢
                      refine ⟨F10, e11, _, R10, ?_⟩
                      cases he : me e11 with
                      | stuck => rw [bnd_stuck he] at hc1; cases hc1
                      | exc k ns dd e12 => rw [bnd_exc he] at hc1; cases hc1
                      | ok v e12 =>
                        obtain ⟨n, d⟩ := v
                        rw [bnd_ok he] at hc1
                        rintro y F11 H11 l11 ⟨fx, o, nd, nf, R11⟩
                        have A11 := A10.later (P' := fun a => P a ∨ a ∈ D :: fp) (fun a ha => .inr ha) l11 (R11.weak fun a z => .inl z)
                        cases hr : compL own1 g1 mt1 me (ds1.drop (j + 1)) e12 with
                        | stuck => rw [bnd_stuck hr] at hc1; cases hc1
                        | exc k ns dd e13 => rw [bnd_exc hr] at hc1; cases hc1
                        | ok vs13 e13 =>
                          rw [bnd_ok hr] at hc1
                          cases hc1
                          have hvl : vs.length = xs.length := A11.its.length.symm
                          refine ⟨vs, A11.at_, by simp at hln; omega, hjt, F11, e12, xs ++ [(n, d)], vs ++ [y], fp ++ fx, ⟨lB.F.trans l11.F, fun a ha => ?_⟩, s7.trans (lD.F.trans l11.F), A11.snoc o nd nf, ?_, vs13, _, ws', hr, hc2, by simpa [Nat.add_assoc, Nat.add_comm, Nat.add_left_comm] using hln, by simpa using q7⟩
                          · rw [upd_ne (show a ≠ D from fun z => nPD (z ▸ ha))]
                            exact (l11.P a (.inl ha)).trans (lB.P a ha)
                          · have R12 : Rel c pn F11 e12 σ9 (L2.upd H11 D (.lst (vs ++ [y]))) (fun a => (P a ∨ a ∈ D :: fp) ∨ a ∈ fx) := R11.upd (.inl (.inr List.mem_cons_self))
                            exact (R12.weak fun a z => by
                              rcases z with z | z
                              · exact .inl (.inl z)
                              · rcases List.mem_cons.mp z with z | z
                                · exact .inl (.inr (z ▸ List.mem_cons_self))
                                · rcases List.mem_append.mp z with z | z
                                  · exact .inl (.inr (List.mem_cons_of_mem _ z))
                                  · exact .inr z).hide hw9 hp1
              · have ej : j = ds1.length := by omega
                subst ej
                rw [List.drop_length] at hc1
                cases hc1
                rw [List.nil_append] at hln q7
                have Rh := R7.hide (σ := σ) (own := own) (by rw [wipe_sub ho]; exact hw4) hp
                rw [hide_hide ho] at Rh
                exact .inl ⟨w1.stop F7 H7 s7 R7.same, hlt, F7, e8, xs, vs, fp, l7, A7, Rh, ws', e3, hc2, hln, q7⟩
    · have ei : i = ds.length := by omega
      subst ei
      rw [List.drop_length] at hcl
      cases hcl
      rw [List.append_nil] at q2 hln
      exact .inl ⟨w.stop F2 H2 l2.F R2.same, A.done (by rw [← hsl]; exact hln) R1 l2 hc R2 q2⟩
  · rw [if_neg hc] at q1
    exact q1.elim
theorem ok_comp2 {z z1 : Bool} {own : List (Str × Nat)} {own1 T T1 : List Nat} {elt tg it tg1 it1 : Expr} {ifs ifs1 : List Expr} {scope : Scope} {pos : Pos} {mi mi1 : M (List D)} {g g1 : Tg} {mt mt1 : M Bool} {me : M Vl} (hc : X.calm = true) (hN : X.N.Nodup) (hT : ∀ i ∈ T, i ∈ own.map (·.2)) (hT1 : ∀ i ∈ T1, i ∈ own1) (ho : ∀ i ∈ own1, i ∈ own.map (·.2)) (hp : ∀ p ∈ pn, p.1 ∉ own.map (·.2)) (hi : OkI X c pn W z tg it mi) (ok : BlkOk X.N X.env.scope scope own)
    (hg : ∀ (s : Shared) (H : Hp) (C : Addr) (cl : List (Str × Addr)) (fp : List Addr), OkG (X.blk s H scope (compEnvC scope cl C X.env) fp) c pn z T tg g)
    (ht : ∀ (s : Shared) (H : Hp) (C : Addr) (cl : List (Str × Addr)) (fp : List Addr), OkC (X.blk s H scope (compEnvC scope cl C X.env) fp) c pn W0 ifs mt)
    (hi1 : ∀ (s : Shared) (H : Hp) (C : Addr) (cl : List (Str × Addr)) (fp : List Addr), OkI (X.blk s H scope (compEnvC scope cl C X.env) fp) c pn W0 z1 tg1 it1 mi1)
    (hg1 : ∀ (s : Shared) (H : Hp) (C : Addr) (cl : List (Str × Addr)) (fp : List Addr), OkG (X.blk s H scope (compEnvC scope cl C X.env) fp) c pn z1 T1 tg1 g1)
    (ht1 : ∀ (s : Shared) (H : Hp) (C : Addr) (cl : List (Str × Addr)) (fp : List Addr), OkC (X.blk s H scope (compEnvC scope cl C X.env) fp) c pn W0 ifs1 mt1)
    (he : ∀ (s : Shared) (H : Hp) (C : Addr) (cl : List (Str × Addr)) (fp : List Addr), OkV (X.blk s H scope (compEnvC scope cl C X.env) fp) c pn W0 elt me)
    (hs : ∀ x, foldedSetIterable it X.env x = pure x := by intro _; rfl) (hs1 : ∀ env x, foldedSetIterable it1 env x = pure x := by intro _ _; rfl) :
    OkV X c pn W (.ListComp elt [⟨tg, it, ifs, 0⟩, ⟨tg1, it1, ifs1, 0⟩] scope pos) (vComp2 (own.map (·.2)) mi g mt mi1 own1 g1 mt1 me) :=
  ⟨PE.imp (pe_lc2 hc hN hi.ok ok ho (fun s H C cl fp => (hg s H C cl fp).ok) (fun s H C cl fp => (ht s H C cl fp).ok) (fun s H C cl fp => (hi1 s H C cl fp).ok) (fun s H C cl fp => (hg1 s H C cl fp).ok) (fun s H C cl fp => (ht1 s H C cl fp).ok) (fun s H C cl fp => (he s H C cl fp).ok) hs hs1) fun σ H Q h => comp2_rd hT hT1 ho hp h⟩
theorem os_setComp2 {z z1 : Bool} {i : Nat} {y : Str} {py spos : Pos} {own : List (Str × Nat)} {own1 T T1 : List Nat} {elt tg it tg1 it1 : Expr} {ifs ifs1 : List Expr} {scope : Scope} {pos : Pos} {mi mi1 : M (List D)} {g g1 : Tg} {mt mt1 : M Bool} {me : M Vl} (hc : X.calm = true) (hN : X.N.Nodup) (hpi : ∀ p ∈ pn, p.1 ≠ i) (hT : ∀ i ∈ T, i ∈ own.map (·.2)) (hT1 : ∀ i ∈ T1, i ∈ own1) (ho : ∀ i ∈ own1, i ∈ own.map (·.2)) (hp : ∀ p ∈ pn, p.1 ∉ own.map (·.2)) (hi : OkI X c pn W z tg it mi) (ok : BlkOk X.N X.env.scope scope own)
    (hg : ∀ (s : Shared) (H : Hp) (C : Addr) (cl : List (Str × Addr)) (fp : List Addr), OkG (X.blk s H scope (compEnvC scope cl C X.env) fp) c pn z T tg g)
    (ht : ∀ (s : Shared) (H : Hp) (C : Addr) (cl : List (Str × Addr)) (fp : List Addr), OkC (X.blk s H scope (compEnvC scope cl C X.env) fp) c pn W0 ifs mt)
    (hi1 : ∀ (s : Shared) (H : Hp) (C : Addr) (cl : List (Str × Addr)) (fp : List Addr), OkI (X.blk s H scope (compEnvC scope cl C X.env) fp) c pn W0 z1 tg1 it1 mi1)
    (hg1 : ∀ (s : Shared) (H : Hp) (C : Addr) (cl : List (Str × Addr)) (fp : List Addr), OkG (X.blk s H scope (compEnvC scope cl C X.env) fp) c pn z1 T1 tg1 g1)
    (ht1 : ∀ (s : Shared) (H : Hp) (C : Addr) (cl : List (Str × Addr)) (fp : List Addr), OkC (X.blk s H scope (compEnvC scope cl C X.env) fp) c pn W0 ifs1 mt1)
    (he : ∀ (s : Shared) (H : Hp) (C : Addr) (cl : List (Str × Addr)) (fp : List Addr), OkV (X.blk s H scope (compEnvC scope cl C X.env) fp) c pn W0 elt me)
    (hsw : swapsWith (.ListComp elt [⟨tg, it, ifs, 0⟩, ⟨tg1, it1, ifs1, 0⟩] scope pos) (some (.Name y py)) spos.line X.env = pure true)
    (hy : X.N[i]? = some y := by rfl) (hyl : X.env.scope.names.lookup y = some .local := by rfl)
    (hs : ∀ x, foldedSetIterable it X.env x = pure x := by intro _; rfl) (hs1 : ∀ env x, foldedSetIterable it1 env x = pure x := by intro _ _; rfl) :
    OkS X c pn W (.Assign [.Name y py] (.ListComp elt [⟨tg, it, ifs, 0⟩, ⟨tg1, it1, ifs1, 0⟩] scope pos) spos) (sSet i (vComp2 (own.map (·.2)) mi g mt mi1 own1 g1 mt1 me)) := by
  refine ⟨PS.imp (ps_setLc2 hc hN hy hyl hsw hi.ok ok ho (fun s H C cl fp => (hg s H C cl fp).ok) (fun s H C cl fp => (ht s H C cl fp).ok) (fun s H C cl fp => (hi1 s H C cl fp).ok) (fun s H C cl fp => (hg1 s H C cl fp).ok) (fun s H C cl fp => (ht1 s H C cl fp).ok) (fun s H C cl fp => (he s H C cl fp).ok) hs hs1) fun D σ H ⟨F, e, P, R, q⟩ => ?_⟩
  refine comp2_rd (W := W) hT hT1 ho hp ⟨F, e, P, R, cvS q fun n d e1 v F1 H1 l R1 q1 => ?_⟩
  by_cases hl : i < e1.length
  · have e2 : setS i (n, d) e1 = Res.ok () (e1.set i (some (n, d))) := by simp only [setS, if_pos hl]
    rw [bnd_ok e2] at q1
    exact q1 _ F1 H1 .rfl (R1.store hl hpi)
  · have e2 : setS i (n, d) e1 = Res.stuck := by simp only [setS, if_neg hl]
    rw [bnd_stuck e2] at q1
    exact q1.elim
end
end Mini
namespace Mini
open PySem L2
section
variable {X : Cx} {c : Ctx} {pn : Pins} {W : WX}
theorem ot_chain {op op' : CmpOp} {r r' : R2} {f g : D → D → Option Vl} {a b d : Expr} {ma mb md : M Item} {pos : Pos} (ho : OpR X (compareOp op) r) (of : Op2 c r f) (ho' : OpR X (compareOp op') r') (og : Op2 c r' g) (ha : OkO X c pn W a ma) (hb : OkO X c pn W b mb) (hd : OkO X c pn W d md)
    (hm : lastMarks [op, op'] [b, d] = false := by with_unfolding_all rfl) : OkT X c pn W (.Compare a [op, op'] [b, d] pos) (tB (vChain f g ma mb md)) := ot_test (pt_chain ho ho' ha.ok hb.ok hd.ok hm) fun _ _ _ h => chain_rd of og h
/-! ### a def, a class of the text -/
structure GF (P : Program) (w : World) (K : PySem.W.Frag) (mg : Str → Option Value) (base : Heap) (c : Ctx) (x : Str) (p l : Nat) (f : FSem) : Prop where
  ex : ∃ fa fd ps, FnOk P w K mg base (L2.CX P w) l fa fd ps (spF c p f) ∧ mg x = some (.ref fa) ∧ PySem.W.keepIn K (.ref fa) = true ∧ Binds K fd ps []
theorem GF.at {c : Ctx} {x : Str} {p l k : Nat} {f : FSem} (g : GF X.prog X.w X.K X.mg X.base c x p l f) (hr : Room k X.A) (h : l ≤ k) : DefOk X c x p f := by
  obtain ⟨fa, fd, ps, F, h1, h2, h3⟩ := g.ex
  exact ⟨⟨l, fa, fd, ps, F, hr.mono h, h1, h2, h3⟩⟩
structure GN (P : Program) (w : World) (K : PySem.W.Frag) (mg : Str → Option Value) (base : Heap) (c : Ctx) (x : Str) (kc p l : Nat) (f : FSem) : Prop where
  ex : ∃ fa fd ps, FnOk P w K mg base (L2.CX P w) l fa fd ps (spF c p f) ∧ mg x = some (.ref (c.C.a kc)) ∧ Mk K (c.C.a kc) fa ∧ Binds K fd ps []
  good : GoodC c.K c.C kc
theorem GN.at {c : Ctx} {x : Str} {kc p l k : Nat} {f : FSem} (g : GN X.prog X.w X.K X.mg X.base c x kc p l f) (hr : Room k X.A) (h : l + 1 ≤ k) : NewOk X c x kc p f := by
  obtain ⟨fa, fd, ps, F, h1, h2, h3⟩ := g.ex
  exact ⟨⟨l, fa, fd, ps, F, hr.mono h, h1, h2, h3⟩, g.good⟩
structure GE (P : Program) (w : World) (K : PySem.W.Frag) (mg : Str → Option Value) (base : Heap) (c : Ctx) (kc l : Nat) (f : FSem) : Prop where
  ex : ∃ fa fd ps, FnOk P w K mg base (L2.CX P w) l fa fd ps (spF c 2 f) ∧ Binds K fd ps [] ∧ PySem.W.findIn K (.ref (c.C.a kc)) "__eq__" = some (some (.ref fa)) ∧ PySem.W.isFn K (.ref fa) = true
  ne : PySem.W.findIn K (.ref (c.C.a kc)) "__ne__" = some (some (.builtin "object.__ne__"))
theorem GE.at {c : Ctx} {kc l k : Nat} {f : FSem} (g : GE X.prog X.w X.K X.mg X.base c kc l f) (hr : Room k X.A) (h : l + 1 ≤ k) : EqOf X c kc f := by
  obtain ⟨fa, fd, ps, F, h1, h2, h3⟩ := g.ex
  exact ⟨⟨l, fa, fd, ps, F, hr.mono h, h1, h2, h3⟩, g.ne⟩
/-- a def's place in the text -/
structure DT (K : PySem.W.Frag) (mg : Str → Option Value) (x : Str) (st : Stmt) (ps : List Str) : Prop where
  ex : ∃ fa fd, Fun K x x st fa fd ∧ mg x = some (.ref fa) ∧ Binds K fd ps []
structure IT (K : PySem.W.Frag) (C : Addr) (qual : Str) (st : Stmt) (ps : List Str) : Prop where
  ex : ∃ fa fd, Fun K "__init__" qual st fa fd ∧ Mk K C fa ∧ Binds K fd ps []
structure ET (K : PySem.W.Frag) (C : Addr) (qual : Str) (st : Stmt) (ps : List Str) : Prop where
  ex : ∃ fa fd, Fun K "__eq__" qual st fa fd ∧ Binds K fd ps [] ∧ PySem.W.findIn K (.ref C) "__eq__" = some (some (.ref fa)) ∧ PySem.W.isFn K (.ref fa) = true
  ne : PySem.W.findIn K (.ref C) "__ne__" = some (some (.builtin "object.__ne__"))
theorem pn_ne {pn : Pins} {mu : Bool} (h : ∀ q ∈ pn, mu = true ∧ q.1 = 0) (i : Nat) (hi : i ≠ 0 ∨ mu = false) : ∀ q ∈ pn, q.1 ≠ i := fun q hq z => by
  obtain ⟨h1, h2⟩ := h q hq
  rcases hi with hi | hi
  · exact hi (z.symm.trans h2)
  · rw [hi] at h1; cases h1
theorem pn_no {pn : Pins} {mu : Bool} (h : ∀ q ∈ pn, mu = true ∧ q.1 = 0) (own : List Nat) (hi : 0 ∉ own ∨ mu = false) : ∀ q ∈ pn, q.1 ∉ own := fun q hq z => by
  obtain ⟨h1, h2⟩ := h q hq
  rcases hi with hi | hi
  · rw [h2] at z; exact hi z
  · rw [hi] at h1; cases h1
/-- the law itself -/
def spLaw (K : PySem.W.Frag) : Sp := fun vs H Q _ => ∃ (a : Addr) (ns : List Int), vs = [.ref a] ∧ SqL K H a (ns.map V.int) ∧ ns.length ≤ 63 ∧ (∀ z ∈ ns, Builtin.Int.intBits z ≤ 1048576) ∧ ∀ H', Q (.bl true) H'
theorem law_ok {P : Program} {w : World} {K : PySem.W.Frag} {mg : Str → Option Value} {base : Heap} {CT' : CT} {l : Nat} {fa : Addr} {fd : FuncData} {x : Str} {f : FSem} (F : FnOk P w K mg base (L2.CX P w) l fa fd [x] (spF ⟨K, CT'⟩ 1 f))
    (h : ∀ ns : List Int, ns.length ≤ 63 → (∀ z ∈ ns, Builtin.Int.intBits z ≤ 1048576) → ∃ n mu, f [(0, .scr ns)] = .ok (n, .bl true) mu) : FnOk P w K mg base (L2.CX P w) l fa fd [x] (spLaw K) := by
  have k : ∀ vs H Q E, spLaw K vs H Q E → spF ⟨K, CT'⟩ 1 f vs H Q E := by
    rintro vs H Q E ⟨a, ns, rfl, hs, hl, hb, q⟩
    obtain ⟨n, mu, e⟩ := h ns hl hb
    have R : Rel ⟨K, CT'⟩ [] H ([((0, .scr ns) : Vl)].map some) ([V.ref a].map some) H (fun _ => False) :=
      rel_args (ds := [.scr ns]) (vs := [V.ref a]) (Same.refl H) ⟨_, [], rfl, ⟨a, rfl, hs, by have : (63 : Nat) ≤ sizeLine := by decide
                                                                                              omega⟩, rfl⟩ (fun _ z => z.elim)
    refine ⟨H, fun _ => False, [(0, .scr ns)], rfl, R, ?_⟩
    rw [e]
    intro v F' H' _ rv
    have ev : v = .bl true := rv.rep
    rw [ev]
    exact q H'
  exact ⟨fun vs H Q E s => F.len vs H Q E (k vs H Q E s), fun A outer s H args us vs Q E hr e b r s' => F.run A outer s H args us vs Q E hr e b r (k vs H Q E s')⟩
end
end Mini

set_option Elab.async false
set_option linter.all false
set_option maxRecDepth 100000
/-! MAll: the rules, each with what a def's body knows. -/
namespace Mini
open PySem L2
structure G (X : Cx) (c : Ctx) (W : WX) (l : Nat) : Prop where
  hK : c.K = X.K
  hr : Room l X.A
  hc : X.calm = true
  hN : X.N.Nodup
  tk : Takes X W
  hp : PassesOwn (model X.prog X.w) X.A X.env X.xe
  I : ∀ k, k < c.C.n → IsC c.K c.C k
theorem G.blk {X : Cx} {c : Ctx} {W : WX} {l : Nat} (g : G X c W l) {s : Shared} {H : Hp} {scope : Scope} {env : PySem.Env} {fp : List Addr} : G (X.blk s H scope env fp) c W0 l :=
  ⟨g.hK, g.hr, g.hc, g.hN, takes_none5, PassesOwn.never, g.I⟩
theorem G.of {P : Program} {w : World} {K : PySem.W.Frag} {mg : Str → Option Value} {base : Heap} {N : List Str} {qual : Str} {scope : Scope} {f : Addr} {cd : Value} {A : Around} {outer : List PySem.Env} {s : Shared} {H : Hp} {E : XK} {c : Ctx} {l : Nat} (hK : c.K = K) (hr : Room l (A.deeper (PyProof.Rows.envOfC qual scope s.heap.objs.size f cd))) (hN : N.Nodup) (I : ∀ k, k < c.C.n → IsC c.K c.C k) :
    G (cxOf (L2.CX P w) P w K mg base N qual scope f cd A outer s H E) c (WK E) l := ⟨hK, hr, rfl, hN, takes_of rfl rfl rfl rfl, passes_of rfl, I⟩
theorem G.hu {X : Cx} {c : Ctx} {W : WX} {l : Nat} (g : G X c W l) : X.A.units + 64 < cLine := by
  have := g.hr.un
  omega
theorem G.hu1 {X : Cx} {c : Ctx} {W : WX} {l : Nat} (g : G X c W l) : X.A.units + 1 < cLine := by
  have := g.hr.un
  omega
section
variable {X : Cx} {c : Ctx} {pn : Pins} {W : WX} {l : Nat} {a b d : Expr} {ma mb md : M Item} {pos : Pos} {mu : Bool}
theorem g_add (g : G X c W l) (ha : OkO X c pn W a ma) (hb : OkO X c pn W b mb) : OkV X c pn W (.BinOp a .Add b pos) (op2 fAdd ma mb) := ok_bin op_addA (o_add g.hK) ha hb
theorem g_sub (g : G X c W l) (ha : OkO X c pn W a ma) (hb : OkO X c pn W b mb) : OkV X c pn W (.BinOp a .Sub b pos) (op2 fSub ma mb) := ok_bin op_sub o_sub ha hb
theorem g_mul (g : G X c W l) (ha : OkO X c pn W a ma) (hb : OkO X c pn W b mb) : OkV X c pn W (.BinOp a .Mult b pos) (op2 fMul ma mb) := ok_bin op_mulA o_mul ha hb
theorem g_div (g : G X c W l) (ha : OkO X c pn W a ma) (hb : OkO X c pn W b mb) : OkV X c pn W (.BinOp a .FloorDiv b pos) (op2 fDiv ma mb) := ok_bin op_fdivW o_div ha hb
theorem g_mod (g : G X c W l) (ha : OkO X c pn W a ma) (hb : OkO X c pn W b mb) : OkV X c pn W (.BinOp a .Mod b pos) (op2 fMod ma mb) := ok_bin op_mod o_mod ha hb
theorem g_pow (g : G X c W l) (ha : OkO X c pn W a ma) (hb : OkO X c pn W b mb) : OkV X c pn W (.BinOp a .Pow b pos) (op2 fPow ma mb) := ok_bin op_pow o_pow ha hb
theorem g_neg (g : G X c W l) (ha : OkO X c pn W a ma) : OkV X c pn W (.UnaryOp .USub a pos) (op1 fNeg ma) := ok_un un_neg o_neg ha
theorem g_lt (g : G X c W l) (ha : OkO X c pn W a ma) (hb : OkO X c pn W b mb) : OkV X c pn W (.Compare a [.Lt] [b] pos) (op2 fLt ma mb) := ok_cmp op_lt o_lt ha hb
theorem g_le (g : G X c W l) (ha : OkO X c pn W a ma) (hb : OkO X c pn W b mb) : OkV X c pn W (.Compare a [.LtE] [b] pos) (op2 fLe ma mb) := ok_cmp op_le o_le ha hb
theorem g_gt (g : G X c W l) (ha : OkO X c pn W a ma) (hb : OkO X c pn W b mb) : OkV X c pn W (.Compare a [.Gt] [b] pos) (op2 fGt ma mb) := ok_cmp op_gt o_gt ha hb
theorem g_ge (g : G X c W l) (ha : OkO X c pn W a ma) (hb : OkO X c pn W b mb) : OkV X c pn W (.Compare a [.GtE] [b] pos) (op2 fGe ma mb) := ok_cmp op_ge o_ge ha hb
theorem g_eq (g : G X c W l) (ha : OkO X c pn W a ma) (hb : OkO X c pn W b mb) : OkV X c pn W (.Compare a [.Eq] [b] pos) (op2 fEq ma mb) := ok_cmp (op_eqD g.hu) (o_eq g.hK) ha hb
theorem g_ne (g : G X c W l) (ha : OkO X c pn W a ma) (hb : OkO X c pn W b mb) : OkV X c pn W (.Compare a [.NotEq] [b] pos) (op2 fNe ma mb) := ok_cmp (op_neD g.hu) (o_ne g.hK) ha hb
theorem g_isN (g : G X c W l) (ha : OkO X c pn W a ma) (hb : OkO X c pn W b mb) : OkV X c pn W (.Compare a [.Is] [b] pos) (op2 fIsN ma mb) := ok_cmp op_isN o_isN ha hb
theorem g_notN (g : G X c W l) (ha : OkO X c pn W a ma) (hb : OkO X c pn W b mb) : OkV X c pn W (.Compare a [.IsNot] [b] pos) (op2 fNotN ma mb) := ok_cmp op_notN o_notN ha hb
theorem g_in (g : G X c W l) (ha : OkO X c pn W a ma) (hb : OkO X c pn W b mb) (hm : behindInMarks .In b = false := by first | exact nomark _ | rfl) : OkV X c pn W (.Compare a [.In] [b] pos) (op2 fInA ma mb) := ok_cmp (op_inA g.hu1) (o_inA g.hK) ha hb hm
theorem g_notIn (g : G X c W l) (ha : OkO X c pn W a ma) (hb : OkO X c pn W b mb) (hm : behindInMarks .NotIn b = false := by first | exact nomark _ | rfl) : OkV X c pn W (.Compare a [.NotIn] [b] pos) (op2 fNotInA ma mb) := ok_cmp (op_notInA g.hu1) (o_notInA g.hK) ha hb hm
theorem t_lt (g : G X c W l) (ha : OkO X c pn W a ma) (hb : OkO X c pn W b mb) : OkT X c pn W (.Compare a [.Lt] [b] pos) (tB (op2 fLt ma mb)) := ot_cmp op_lt o_lt ha hb
theorem t_le (g : G X c W l) (ha : OkO X c pn W a ma) (hb : OkO X c pn W b mb) : OkT X c pn W (.Compare a [.LtE] [b] pos) (tB (op2 fLe ma mb)) := ot_cmp op_le o_le ha hb
theorem t_gt (g : G X c W l) (ha : OkO X c pn W a ma) (hb : OkO X c pn W b mb) : OkT X c pn W (.Compare a [.Gt] [b] pos) (tB (op2 fGt ma mb)) := ot_cmp op_gt o_gt ha hb
theorem t_ge (g : G X c W l) (ha : OkO X c pn W a ma) (hb : OkO X c pn W b mb) : OkT X c pn W (.Compare a [.GtE] [b] pos) (tB (op2 fGe ma mb)) := ot_cmp op_ge o_ge ha hb
theorem t_eq (g : G X c W l) (ha : OkO X c pn W a ma) (hb : OkO X c pn W b mb) : OkT X c pn W (.Compare a [.Eq] [b] pos) (tB (op2 fEq ma mb)) := ot_cmp (op_eqD g.hu) (o_eq g.hK) ha hb
theorem t_ne (g : G X c W l) (ha : OkO X c pn W a ma) (hb : OkO X c pn W b mb) : OkT X c pn W (.Compare a [.NotEq] [b] pos) (tB (op2 fNe ma mb)) := ot_cmp (op_neD g.hu) (o_ne g.hK) ha hb
theorem t_isN (g : G X c W l) (ha : OkO X c pn W a ma) (hb : OkO X c pn W b mb) : OkT X c pn W (.Compare a [.Is] [b] pos) (tB (op2 fIsN ma mb)) := ot_cmp op_isN o_isN ha hb
theorem t_notN (g : G X c W l) (ha : OkO X c pn W a ma) (hb : OkO X c pn W b mb) : OkT X c pn W (.Compare a [.IsNot] [b] pos) (tB (op2 fNotN ma mb)) := ot_cmp op_notN o_notN ha hb
theorem t_in (g : G X c W l) (ha : OkO X c pn W a ma) (hb : OkO X c pn W b mb) (hm : behindInMarks .In b = false := by first | exact nomark _ | rfl) : OkT X c pn W (.Compare a [.In] [b] pos) (tB (op2 fInA ma mb)) := ot_cmp (op_inA g.hu1) (o_inA g.hK) ha hb hm
theorem t_notIn (g : G X c W l) (ha : OkO X c pn W a ma) (hb : OkO X c pn W b mb) (hm : behindInMarks .NotIn b = false := by first | exact nomark _ | rfl) : OkT X c pn W (.Compare a [.NotIn] [b] pos) (tB (op2 fNotInA ma mb)) := ot_cmp (op_notInA g.hu1) (o_notInA g.hK) ha hb hm
theorem g_eqO {t : Nat → Option FSem} {ma mb : M Vl} (g : G X c W l) (E : ∀ k f, t k = some f → EqOf X c k f) (ha : OkV X c pn W a ma) (hb : OkV X c pn W b mb) : OkV X c pn W (.Compare a [.Eq] [b] pos) (vEqO t false ma mb) := ok_eqO false g.hK g.hu g.I E ha hb (nomark _)
theorem g_neO {t : Nat → Option FSem} {ma mb : M Vl} (g : G X c W l) (E : ∀ k f, t k = some f → EqOf X c k f) (ha : OkV X c pn W a ma) (hb : OkV X c pn W b mb) : OkV X c pn W (.Compare a [.NotEq] [b] pos) (vEqO t true ma mb) := ok_eqO true g.hK g.hu g.I E ha hb (nomark _)
theorem t_eqO {t : Nat → Option FSem} {ma mb : M Vl} (g : G X c W l) (E : ∀ k f, t k = some f → EqOf X c k f) (ha : OkV X c pn W a ma) (hb : OkV X c pn W b mb) : OkT X c pn W (.Compare a [.Eq] [b] pos) (tB (vEqO t false ma mb)) := ot_eqO false g.hK g.hu g.I E ha hb (nomark _)
theorem t_neO {t : Nat → Option FSem} {ma mb : M Vl} (g : G X c W l) (E : ∀ k f, t k = some f → EqOf X c k f) (ha : OkV X c pn W a ma) (hb : OkV X c pn W b mb) : OkT X c pn W (.Compare a [.NotEq] [b] pos) (tB (vEqO t true ma mb)) := ot_eqO true g.hK g.hu g.I E ha hb (nomark _)
/-! chains of two -/
theorem g_lele (g : G X c W l) (ha : OkO X c pn W a ma) (hb : OkO X c pn W b mb) (hd : OkO X c pn W d md) (hm : lastMarks [.LtE, .LtE] [b, d] = false := by with_unfolding_all rfl) : OkV X c pn W (.Compare a [.LtE, .LtE] [b, d] pos) (vChain fLe fLe ma mb md) := ok_chain op_le o_le op_le o_le ha hb hd hm
theorem g_lelt (g : G X c W l) (ha : OkO X c pn W a ma) (hb : OkO X c pn W b mb) (hd : OkO X c pn W d md) (hm : lastMarks [.LtE, .Lt] [b, d] = false := by with_unfolding_all rfl) : OkV X c pn W (.Compare a [.LtE, .Lt] [b, d] pos) (vChain fLe fLt ma mb md) := ok_chain op_le o_le op_lt o_lt ha hb hd hm
theorem g_ltle (g : G X c W l) (ha : OkO X c pn W a ma) (hb : OkO X c pn W b mb) (hd : OkO X c pn W d md) (hm : lastMarks [.Lt, .LtE] [b, d] = false := by with_unfolding_all rfl) : OkV X c pn W (.Compare a [.Lt, .LtE] [b, d] pos) (vChain fLt fLe ma mb md) := ok_chain op_lt o_lt op_le o_le ha hb hd hm
theorem g_ltlt (g : G X c W l) (ha : OkO X c pn W a ma) (hb : OkO X c pn W b mb) (hd : OkO X c pn W d md) (hm : lastMarks [.Lt, .Lt] [b, d] = false := by with_unfolding_all rfl) : OkV X c pn W (.Compare a [.Lt, .Lt] [b, d] pos) (vChain fLt fLt ma mb md) := ok_chain op_lt o_lt op_lt o_lt ha hb hd hm
theorem t_lele (g : G X c W l) (ha : OkO X c pn W a ma) (hb : OkO X c pn W b mb) (hd : OkO X c pn W d md) (hm : lastMarks [.LtE, .LtE] [b, d] = false := by with_unfolding_all rfl) : OkT X c pn W (.Compare a [.LtE, .LtE] [b, d] pos) (tB (vChain fLe fLe ma mb md)) := ot_chain op_le o_le op_le o_le ha hb hd hm
theorem t_lelt (g : G X c W l) (ha : OkO X c pn W a ma) (hb : OkO X c pn W b mb) (hd : OkO X c pn W d md) (hm : lastMarks [.LtE, .Lt] [b, d] = false := by with_unfolding_all rfl) : OkT X c pn W (.Compare a [.LtE, .Lt] [b, d] pos) (tB (vChain fLe fLt ma mb md)) := ot_chain op_le o_le op_lt o_lt ha hb hd hm
theorem t_ltle (g : G X c W l) (ha : OkO X c pn W a ma) (hb : OkO X c pn W b mb) (hd : OkO X c pn W d md) (hm : lastMarks [.Lt, .LtE] [b, d] = false := by with_unfolding_all rfl) : OkT X c pn W (.Compare a [.Lt, .LtE] [b, d] pos) (tB (vChain fLt fLe ma mb md)) := ot_chain op_lt o_lt op_le o_le ha hb hd hm
theorem t_ltlt (g : G X c W l) (ha : OkO X c pn W a ma) (hb : OkO X c pn W b mb) (hd : OkO X c pn W d md) (hm : lastMarks [.Lt, .Lt] [b, d] = false := by with_unfolding_all rfl) : OkT X c pn W (.Compare a [.Lt, .Lt] [b, d] pos) (tB (vChain fLt fLt ma mb md)) := ot_chain op_lt o_lt op_lt o_lt ha hb hd hm
/-! places, built-ins -/
theorem g_ix (g : G X c W l) (ha : OkO X c pn W a ma) (hb : OkO X c pn W b mb) (hs : PlainIx b := by intro _ _; rfl) : OkV X c pn W (.Subscript a b pos) (op2 fIxA ma mb) := ok_ix (ix_all g.hu1) (o_ixA g.hK) ha hb hs
theorem g_cut {lo hi : Option Expr} {ml mh : Option (M Item)} {p2 : Pos} (g : G X c W l) (ha : OkO X c pn W a ma) (hl : OkPart X c pn W lo ml) (hh : OkPart X c pn W hi mh) : OkV X c pn W (.Subscript a (.Slice lo hi none p2) pos) (vCut ma ml mh) := ok_cut g.hK ha hl hh
theorem g_rev {k : Nat} {p1 p2 p3 : Pos} (g : G X c W l) (ha : OkO X c pn W a ma) : OkV X c pn W (.Subscript a (.Slice none none (some (.UnaryOp .USub (.Constant (.int 1) k p1) p2)) p3) pos) (op1 fRev ma) := ok_rev g.hK ha
/-! built-ins -/
variable {x : Str} {es : List Expr} {p : Pos} {ms : List (M Item)} {m : M Vl} {i : Nat}
theorem g_len (g : G X c W l) (hm : X.mg "len" = none) (ha : OkA X c pn W [a] (seqM [ma])) (hg : Gl X "len" := by rfl) (he : starEach [a] X.env = (false, eval a X.env) :: starEach [] X.env := by rfl) : OkV X c pn W (.Call (.Name "len" p) [a] [] pos) (opN fLen [ma]) :=
  ok_bi cr_lenA (o_len g.hK) hm PySem.boot_len ha hg (by decide) (by decide) he rfl
theorem g_all (g : G X c W l) (hm : X.mg "all" = none) (ha : OkA X c pn W [a] (seqM [ma])) (hg : Gl X "all" := by rfl) (he : starEach [a] X.env = (false, eval a X.env) :: starEach [] X.env := by rfl) : OkV X c pn W (.Call (.Name "all" p) [a] [] pos) (opN fAll [ma]) :=
  ok_bi (cr_all g.hc) (o_all g.hK) hm (by decide +kernel) ha hg (by decide) (by decide) he rfl
theorem g_any (g : G X c W l) (hm : X.mg "any" = none) (ha : OkA X c pn W [a] (seqM [ma])) (hg : Gl X "any" := by rfl) (he : starEach [a] X.env = (false, eval a X.env) :: starEach [] X.env := by rfl) : OkV X c pn W (.Call (.Name "any" p) [a] [] pos) (opN fAny [ma]) :=
  ok_bi (cr_any g.hc) (o_any g.hK) hm (by decide +kernel) ha hg (by decide) (by decide) he rfl
theorem g_sorted (g : G X c W l) (hm : X.mg "sorted" = none) (ha : OkA X c pn W [a] (seqM [ma])) (hg : Gl X "sorted" := by rfl) (he : starEach [a] X.env = (false, eval a X.env) :: starEach [] X.env := by rfl) : OkV X c pn W (.Call (.Name "sorted" p) [a] [] pos) (opN fSorted [ma]) :=
  ok_bi cr_sortedA (o_sorted g.hK) hm PyProof.Rows.boot_sorted ha hg (by decide) (by decide) he rfl
theorem g_sum (g : G X c W l) (hm : X.mg "sum" = none) (ha : OkA X c pn W [a] (seqM [ma])) (hg : Gl X "sum" := by rfl) (he : starEach [a] X.env = (false, eval a X.env) :: starEach [] X.env := by rfl) : OkV X c pn W (.Call (.Name "sum" p) [a] [] pos) (opN fSum [ma]) :=
  ok_bi (cr_sum g.hc) (o_sum g.hK) hm PyProof.Rows.boot_sum ha hg (by decide) (by decide) he rfl
theorem g_max (g : G X c W l) (hm : X.mg "max" = none) (ha : OkA X c pn W [a] (seqM [ma])) (hg : Gl X "max" := by rfl) (he : starEach [a] X.env = (false, eval a X.env) :: starEach [] X.env := by rfl) : OkV X c pn W (.Call (.Name "max" p) [a] [] pos) (opN fMax [ma]) :=
  ok_bi (cr_max g.hc) (o_max g.hK) hm PyProof.Rows.boot_max ha hg (by decide) (by decide) he rfl
theorem g_min (g : G X c W l) (hm : X.mg "min" = none) (ha : OkA X c pn W [a] (seqM [ma])) (hg : Gl X "min" := by rfl) (he : starEach [a] X.env = (false, eval a X.env) :: starEach [] X.env := by rfl) : OkV X c pn W (.Call (.Name "min" p) [a] [] pos) (opN fMin [ma]) :=
  ok_bi (cr_min g.hc) (o_min g.hK) hm (by decide +kernel) ha hg (by decide) (by decide) he rfl
theorem g_abs (g : G X c W l) (hm : X.mg "abs" = none) (ha : OkA X c pn W [a] (seqM [ma])) (hg : Gl X "abs" := by rfl) (he : starEach [a] X.env = (false, eval a X.env) :: starEach [] X.env := by rfl) : OkV X c pn W (.Call (.Name "abs" p) [a] [] pos) (opN fAbs [ma]) :=
  ok_bi call_abs o_abs hm PyProof.Rows.boot_abs ha hg (by decide) (by decide) he rfl
theorem g_list (g : G X c W l) (hm : X.mg "list" = none) (ha : OkA X c pn W [a] (seqM [ma])) (hg : Gl X "list" := by rfl) (he : starEach [a] X.env = (false, eval a X.env) :: starEach [] X.env := by rfl) : OkV X c pn W (.Call (.Name "list" p) [a] [] pos) (opN fList [ma]) :=
  ok_bty call_list_of (o_list g.hK) hm (by decide +kernel) ha hg (by decide) (by decide) he rfl
theorem g_tuple (g : G X c W l) (hm : X.mg "tuple" = none) (ha : OkA X c pn W [a] (seqM [ma])) (hg : Gl X "tuple" := by rfl) (he : starEach [a] X.env = (false, eval a X.env) :: starEach [] X.env := by rfl) : OkV X c pn W (.Call (.Name "tuple" p) [a] [] pos) (opN fTuple [ma]) :=
  ok_bty call_tupZ (o_tuple g.hK) hm (by decide +kernel) ha hg (by decide) (by decide) he rfl
theorem g_int (g : G X c W l) (hm : X.mg "int" = none) (ha : OkA X c pn W [a] (seqM [ma])) (hg : Gl X "int" := by rfl) (he : starEach [a] X.env = (false, eval a X.env) :: starEach [] X.env := by rfl) : OkV X c pn W (.Call (.Name "int" p) [a] [] pos) (opN fInt [ma]) :=
  ok_bty call_int1 o_int hm (by decide +kernel) ha hg (by decide) (by decide) he rfl
/-! statements -/
theorem g_set (g : G X c W l) (hpn : ∀ q ∈ pn, mu = true ∧ q.1 = 0) (i : Nat) {pos' : Pos} (h : OkV X c pn W a m) (hi : X.N[i]? = some x := by rfl) (hx : Loc X.env.scope x := by first | exact Or.inl rfl | exact Or.inr rfl)
    (hs : swapsWith a (some (.Name x pos')) pos.line X.env = pure false := by rfl) (hf : X.fn x = true ∨ X.env.scope.names.lookup x = some .local := by first | exact .inl rfl | exact .inr rfl | assumption) (h0 : i ≠ 0 ∨ mu = false := by decide) : OkS X c pn W (.Assign [.Name x pos'] a pos) (sSet i m) :=
  os_set g.hN (pn_ne hpn i h0) h hi hx hs hf
theorem gv (g : G X c W l) (hpn : ∀ q ∈ pn, mu = true ∧ q.1 = 0) (i : Nat) (hi : X.N[i]? = some x := by rfl) (hx : Loc X.env.scope x := by first | exact Or.inl rfl | exact Or.inr rfl)
    (hf : X.fn x = true ∨ X.env.scope.names.lookup x = some .local := by first | exact .inl rfl | exact .inr rfl | assumption) (h0 : i ≠ 0 ∨ mu = false := by decide) : OkG X c pn false [i] (.Name x pos) (gVar i) :=
  og_var g.hN (pn_ne hpn i h0) hi hx hf
theorem gt {z : Bool} {k : Nat} {gs : List Tg} {T : List Nat} (g : G X c W l) (h : OkGs X c pn T es gs) (hl : gs.length = es.length := by rfl) (hn : (assignEach es X.env).length = es.length := by rfl) (hst : (assignEach es X.env).findIdx? (·.1) = none := by rfl) : OkG X c pn z T (.Tuple es k pos) (gTupD gs) :=
  og_tup g.hc g.hK h hl hn hst
theorem g_for {z : Bool} {tg it : Expr} {body : List Stmt} {mi : M (List D)} {gg : Tg} {T : List Nat} {mb : M Fl} (g : G X c W l) (hi : OkI X c pn W z tg it mi) (hg : OkG X c pn z T tg gg) (hb : OkSs X c pn W body mb)
    (hs : ∀ x, foldedSetIterable it X.env x = pure x := by intro _; rfl) : OkS X c pn W (.For tg it body [] pos) (sFor mi gg mb) := os_for g.hp g.hc hi hg hb hs
theorem g_while (g : G X c W l) (n : Nat) {t : Expr} {body : List Stmt} {mt : M Bool} {mb : M Fl} (ht : OkT X c pn W t mt) (hb : OkSs X c pn W body mb) : OkS X c pn W (.While t body [] pos) (whileL mt mb n) := os_while n g.hp ht hb
end
section
variable {P : Program} {w : World} {K : PySem.W.Frag} {mg : Str → Option Value} {base : Heap} {c : Ctx}
theorem def_ok {x qual : Str} {st : Stmt} {f : Addr} {fd : FuncData} {N ps : List Str} {k p : Nat} {mu : Bool} {mb : M Fl} (F : Fun K x qual st f fd) (S : FnScope N ps (defScope st)) (hp : ps.length = p) (hm : mu = true → 0 < p) (I : ∀ k, k < c.C.n → IsC c.K c.C k)
    (hb : ∀ (cdv : Value) (A : Around) (outer : List PySem.Env) (s : Shared) (H : Hp) (E : XK) (pn : Pins), G (cxOf (L2.CX P w) P w K mg base N qual (defScope st) f cdv A outer s H E) c (WK E) k → (∀ q ∈ pn, mu = true ∧ q.1 = 0) →
      OkSs (cxOf (L2.CX P w) P w K mg base N qual (defScope st) f cdv A outer s H E) c pn (WK E) (defBody st) mb) (hK : c.K = K := by rfl) : FnOk P w K mg base (L2.CX P w) (k + 1) f fd ps (spF c p (mkF N.length p mu mb)) :=
  fn_ok F S hp hm fun cdv A outer s H E pn hr hpn => hb cdv A outer s H E pn (G.of hK hr S.nd I) hpn
theorem fn_stk {f : Addr} {fd : FuncData} {ps : List Str} {k p : Nat} {CX : CXT} : FnOk P w K mg base CX k f fd ps (spF c p fun _ => .stuck) :=
  ⟨fun vs H Q E ⟨_, _, _, _, _, h⟩ => h.elim, fun A outer s H args us vs Q E hr e b r ⟨_, _, _, _, _, h⟩ => h.elim⟩
end
def checkB (N : List Str) (sc scope : Scope) (own : List (Str × Nat)) : Bool :=
  decide (∀ y ∈ scope.names, scope.names.lookup y.1 = some y.2) && (decide (∀ p ∈ own, N[p.2]? = some p.1) && (decide (∀ y ∈ scope.names, y.2 = .free → sc.names.lookup y.1 = some .cell ∨ sc.names.lookup y.1 = some .free) && decide (∀ y ∈ scope.names, y.2 = .local ∨ y.2 = .cell → y.1 ∈ own.map (·.1) ∨ y.1 ∉ N)))
theorem blk_mk {N : List Str} {sc scope : Scope} {own : List (Str × Nat)} (h : checkB N sc scope own = true) (k : scope.kind = .function) : BlkOk N sc scope own := by
  unfold checkB at h
  simp only [Bool.and_eq_true, decide_eq_true_eq] at h
  exact ⟨k, h.1, h.2.1, h.2.2.1, h.2.2.2⟩
end Mini

set_option Elab.async false
set_option linter.all false
set_option maxRecDepth 100000
/-! MN1: texts walked, a sign in a text, in by deep ==, is of truths, constants of the module. -/
namespace Mini
open PySem L2
/-- a sign in a text -/
def fInS (neg : Bool) : D → D → Option Vl
  | .str x, .str y => match x.cps.toList with
    | [k] => some (0, .bl (if neg then !decide (k ∈ y.cps.toList) else decide (k ∈ y.cps.toList)))
    | _ => none
  | _, _ => none
def signs (x : Str) : List D := x.cps.toList.map fun k => .str ⟨#[k]⟩
/-- a text walked -/
def itsK (d : D) : M (List D) := match d with
  | .str x => if x.cps.size ≤ sizeLine then ret (signs x) else stk
  | _ => stk
def itS (m : M Vl) : M (List D) := bnd m fun v => itsK v.2
/-- x in a list, by deep == -/
def inDp (d : D) (ds : List D) : Option Bool := match toP d, toPs ds with
  | some p, some ps => if SeqAt.shaped p && SeqAt.shaped (.list ps) then some (ps.any fun z => PyData.eqv z p) else none
  | _, _ => none
def fInP (neg : Bool) : D → D → Option Vl := fun d d' => match d' with
  | .box .lst ds => (inDp d ds).map fun b => (0, .bl (if neg then !b else b))
  | _ => none
def fIsB (neg : Bool) : D → D → Option Vl
  | .bl a, .bl b => some (0, .bl (if neg then !decide (a = b) else decide (a = b)))
  | _, _ => none
section
variable {X : Cx} {c : Ctx} {pn : Pins} {W : WX} {F H : Hp} {e : Env} {σ : L2.St} {P : Addr → Prop} {l : Nat} {a b : Expr} {ma mb : M Item} {pos : Pos}
def rInSg (neg : Bool) : R2 := fun x y H Q => ∃ (k : Nat) (z : Str), x = .str ⟨#[k]⟩ ∧ y = .str z ∧ Q (.bl (if neg then !decide (k ∈ z.cps.toList) else decide (k ∈ z.cps.toList))) H
theorem o_inS (neg : Bool) : Op2 c (rInSg neg) (fInS neg) := by
  intro pn F e σ H P d d' n z x y Q R sx sy hf q
  cases d with
  | str u =>
    cases d' with
    | str w =>
      unfold fInS at hf
      dsimp only at hf
      match hu : u.cps.toList, hf with
      | [k], hf =>
        have hk : u = ⟨#[k]⟩ := by
          cases u with
          | mk cps => exact congrArg Str.mk (by rw [← Array.toArray_toList (xs := cps)]; exact congrArg List.toArray hu)
        subst hk
        cases hf
        have s1 : x = .str ⟨#[k]⟩ := sx
        have s2 : y = .str w := sy
        exact ⟨k, w, s1, s2, sc R q rfl rfl⟩
    | _ => cases hf
  | _ => cases hf
theorem g_inS (_ : G X c W l) (ha : OkO X c pn W a ma) (hb : OkO X c pn W b mb) (hm : behindInMarks .In b = false := by first | exact nomark _ | rfl) : OkV X c pn W (.Compare a [.In] [b] pos) (op2 (fInS false) ma mb) := ok_cmp (r := rInSg false) (fun pins s σ H x v y u Q I rx ry h => L2.op_in_sign pins s σ H x v y u Q I rx ry h) (o_inS false) ha hb hm
theorem g_notInS (_ : G X c W l) (ha : OkO X c pn W a ma) (hb : OkO X c pn W b mb) (hm : behindInMarks .NotIn b = false := by first | exact nomark _ | rfl) : OkV X c pn W (.Compare a [.NotIn] [b] pos) (op2 (fInS true) ma mb) := ok_cmp (r := rInSg true) (fun pins s σ H x v y u Q I rx ry h => L2.op_notIn_sign pins s σ H x v y u Q I rx ry h) (o_inS true) ha hb hm
theorem t_inS (_ : G X c W l) (ha : OkO X c pn W a ma) (hb : OkO X c pn W b mb) (hm : behindInMarks .In b = false := by first | exact nomark _ | rfl) : OkT X c pn W (.Compare a [.In] [b] pos) (tB (op2 (fInS false) ma mb)) := ot_cmp (r := rInSg false) (fun pins s σ H x v y u Q I rx ry h => L2.op_in_sign pins s σ H x v y u Q I rx ry h) (o_inS false) ha hb hm
theorem t_notInS (_ : G X c W l) (ha : OkO X c pn W a ma) (hb : OkO X c pn W b mb) (hm : behindInMarks .NotIn b = false := by first | exact nomark _ | rfl) : OkT X c pn W (.Compare a [.NotIn] [b] pos) (tB (op2 (fInS true) ma mb)) := ot_cmp (r := rInSg true) (fun pins s σ H x v y u Q I rx ry h => L2.op_notIn_sign pins s σ H x v y u Q I rx ry h) (o_inS true) ha hb hm
theorem signs_get {x : Str} {i : Nat} {d : D} (h : (signs x)[i]? = some d) : ∃ k, x.cps[i]? = some k ∧ d = .str ⟨#[k]⟩ := by
  unfold signs at h
  rw [List.getElem?_map, Option.map_eq_some_iff] at h
  obtain ⟨k, h1, h2⟩ := h
  exact ⟨k, by rw [← h1]; simp, h2.symm⟩
theorem signs_len (x : Str) : (signs x).length = x.cps.size := by unfold signs; simp
theorem walks_str {x : Str} (hl : x.cps.size ≤ sizeLine) : Walks c false (Its x) (signs x) F where
  len := by rw [signs_len]; exact hl
  stop := fun F' H s1 s2 => by rw [signs_len]; exact Nat.le_refl _
  go := fun i d F' H hi s1 s2 => by
    have := (List.getElem?_eq_some_iff.mp hi).1
    rw [signs_len] at this
    exact this
  yld := fun i d F' H x' H' pn e σ P hi s1 R y => by
    obtain ⟨rfl, k, hk, rfl⟩ := y
    obtain ⟨k', h1, rfl⟩ := signs_get hi
    rw [h1] at hk
    cases hk
    exact ⟨F', .rfl, R, .inl rfl⟩
theorem oi_str {tg ex : Expr} {m : M Vl} (h : OkV X c pn W ex m) : OkI X c pn W false tg ex (itS m) := by
  refine ⟨PI.imp (pi_str h.ok) fun σ H R ⟨F, e, P, R0, q⟩ => ⟨F, e, P, R0, ?_⟩⟩
  refine cvR q fun n d e1 v F1 H1 l R1 q1 => ?_
  obtain ⟨F2, l2, r2, R2⟩ := R1.fz
  cases d with
  | str x =>
    have r2 : v = .str x := r2
    subst r2
    unfold itsK at q1
    dsimp only at q1
    split at q1
    · rename_i hl
      exact ⟨x, rfl, q1 _ F2 H1 l2 R2 (walks_str hl)⟩
    · exact q1.elim
  | _ => exact q1.elim
theorem inDp_some {d : D} {ds : List D} {b : Bool} (h : inDp d ds = some b) : ∃ p ps, toP d = some p ∧ toPs ds = some ps ∧ SeqAt.shaped p = true ∧ SeqAt.shaped (.list ps) = true ∧ b = ps.any fun z => PyData.eqv z p := by
  unfold inDp at h
  cases h1 : toP d with
  | none => rw [h1] at h; cases h
  | some p =>
    cases h2 : toPs ds with
    | none => rw [h1, h2] at h; cases h
    | some ps =>
      rw [h1, h2] at h
      dsimp only at h
      split at h
      · rename_i hb
        rw [Bool.and_eq_true] at hb
        cases h
        exact ⟨p, ps, rfl, rfl, hb.1, hb.2, rfl⟩
      · cases h
def rInPg (K : PySem.W.Frag) (neg : Bool) : R2 := fun x y H Q => ∃ d ds, Dp K H x d ∧ Dp K H y (.list ds) ∧ SeqAt.shaped d = true ∧ SeqAt.shaped (.list ds) = true ∧ Q (.bl (if neg then !ds.any fun z => PyData.eqv z d else ds.any fun z => PyData.eqv z d)) H
theorem o_inP (neg : Bool) (hK : c.K = X.K) : Op2 c (rInPg X.K neg) (fInP neg) := by
  intro pn F e σ H P d d' n z x y Q R sx sy hf q
  rw [← hK]
  cases d' with
  | box k ds =>
    cases k with
    | lst =>
      unfold fInP at hf
      dsimp only at hf
      cases hb : inDp d ds with
      | none => rw [hb] at hf; cases hf
      | some b =>
        rw [hb] at hf
        cases hf
        obtain ⟨p, ps, h1, h2, h3, h4, h5⟩ := inDp_some hb
        have rv : Rep c.K c.C H d x := sx.rep R.same
        have ry : Rep c.K c.C H (.box .lst ds) y := Sh.rep R.same sy
        refine ⟨p, ps, dp_of h1 rv, dp_of (d := .box .lst ds) (by unfold toP; rw [h2]; rfl) ry, h3, h4, ?_⟩
        rw [← h5]
        exact sc R q rfl rfl
    | _ => cases hf
  | _ => cases hf
theorem g_inP (g : G X c W l) (ha : OkO X c pn W a ma) (hb : OkO X c pn W b mb) (hm : behindInMarks .In b = false := by first | exact nomark _ | rfl) : OkV X c pn W (.Compare a [.In] [b] pos) (op2 (fInP false) ma mb) := ok_cmp (r := rInPg X.K false) (L2.op_inD (by have := g.hr.un; omega)) (o_inP false g.hK) ha hb hm
theorem g_notInP (g : G X c W l) (ha : OkO X c pn W a ma) (hb : OkO X c pn W b mb) (hm : behindInMarks .NotIn b = false := by first | exact nomark _ | rfl) : OkV X c pn W (.Compare a [.NotIn] [b] pos) (op2 (fInP true) ma mb) := ok_cmp (r := rInPg X.K true) (L2.op_notInD (by have := g.hr.un; omega)) (o_inP true g.hK) ha hb hm
theorem t_inP (g : G X c W l) (ha : OkO X c pn W a ma) (hb : OkO X c pn W b mb) (hm : behindInMarks .In b = false := by first | exact nomark _ | rfl) : OkT X c pn W (.Compare a [.In] [b] pos) (tB (op2 (fInP false) ma mb)) := ot_cmp (r := rInPg X.K false) (L2.op_inD (by have := g.hr.un; omega)) (o_inP false g.hK) ha hb hm
theorem t_notInP (g : G X c W l) (ha : OkO X c pn W a ma) (hb : OkO X c pn W b mb) (hm : behindInMarks .NotIn b = false := by first | exact nomark _ | rfl) : OkT X c pn W (.Compare a [.NotIn] [b] pos) (tB (op2 (fInP true) ma mb)) := ot_cmp (r := rInPg X.K true) (L2.op_notInD (by have := g.hr.un; omega)) (o_inP true g.hK) ha hb hm
def rIsBg (neg : Bool) : R2 := fun x y H Q => ∃ a b : Bool, x = .bl a ∧ y = .bl b ∧ Q (.bl (if neg then !decide (a = b) else decide (a = b))) H
theorem o_isB (neg : Bool) : Op2 c (rIsBg neg) (fIsB neg) := by
  intro pn F e σ H P d d' n z x y Q R sx sy hf q
  cases d with
  | bl a =>
    cases d' with
    | bl b =>
      cases hf
      exact ⟨a, b, sx, sy, sc R q rfl rfl⟩
    | _ => cases hf
  | _ => cases hf
theorem g_isB (_ : G X c W l) (ha : OkO X c pn W a ma) (hb : OkO X c pn W b mb) : OkV X c pn W (.Compare a [.Is] [b] pos) (op2 (fIsB false) ma mb) := ok_cmp (r := rIsBg false) (fun pins s σ H x v y u Q I rx ry h => L2.op_isBl pins s σ H x v y u Q I rx ry h) (o_isB false) ha hb
theorem g_notB (_ : G X c W l) (ha : OkO X c pn W a ma) (hb : OkO X c pn W b mb) : OkV X c pn W (.Compare a [.IsNot] [b] pos) (op2 (fIsB true) ma mb) := ok_cmp (r := rIsBg true) (fun pins s σ H x v y u Q I rx ry h => L2.op_notBl pins s σ H x v y u Q I rx ry h) (o_isB true) ha hb
theorem t_isB (_ : G X c W l) (ha : OkO X c pn W a ma) (hb : OkO X c pn W b mb) : OkT X c pn W (.Compare a [.Is] [b] pos) (tB (op2 (fIsB false) ma mb)) := ot_cmp (r := rIsBg false) (fun pins s σ H x v y u Q I rx ry h => L2.op_isBl pins s σ H x v y u Q I rx ry h) (o_isB false) ha hb
theorem t_notB (_ : G X c W l) (ha : OkO X c pn W a ma) (hb : OkO X c pn W b mb) : OkT X c pn W (.Compare a [.IsNot] [b] pos) (tB (op2 (fIsB true) ma mb)) := ot_cmp (r := rIsBg true) (fun pins s σ H x v y u Q I rx ry h => L2.op_notBl pins s σ H x v y u Q I rx ry h) (o_isB true) ha hb
/-- a text, a number of the module -/
theorem ok_gstr {x y : Str} {pos : Pos} (hm : ∃ t, X.mg x = some (.str y t)) (hg : Gl X x := by rfl) (hd : (x == ("__debug__" : Str)) = false := by decide) : OkV X c pn W (.Name x pos) (vC (.str y)) := by
  obtain ⟨t, hm⟩ := hm
  exact ok_const (pe_glob (v := .str y) hg hm ⟨t, rfl⟩ hd) fun _ => rfl
end
end Mini

set_option Elab.async false
set_option linter.all false
set_option maxRecDepth 100000
/-! MN2: dicts by tuples of numbers; stores by values. -/
namespace Mini
open PySem L2
/-! ### semantics -/
def keyT : D → Option (List Int)
  | .box .tup ds => intsOf ds
  | _ => none
/-- the keys, as they are held -/
def keysOk : List (List Int) → List D → Bool
  | [], _ => true
  | k :: ks, d :: ds => (keyT d == some k) && keysOk ks ds
  | _ :: _, [] => false
/-- k in d, k not in d -/
def fInT (neg : Bool) : D → D → Option Vl := fun k d => match d with
  | .box (.dT ks) ds => if keysOk ks ds then (keyT k).map fun k => (0, .bl (if neg then !decide (k ∈ ks) else decide (k ∈ ks))) else none
  | _ => none
def vDctT : M Vl := ret (1, .dT [] [])
def isDT : Hd → Bool
  | .dT _ => true
  | _ => false
def putT (ks : List (List Int)) (ds : List D) (k : List Int) (kd d : D) : D := .dT (ks ++ [k]) (ds.take ks.length ++ [kd] ++ (ds.drop ks.length ++ [d]))
def putTS (i : Nat) (x y : Item) : M Fl := bnd (res y) fun kd => match x with
  | .val d => fun e => match getS e i, keyT kd with
    | some (_ + 1, .box (.dT ks) ds), some k => if keysOk ks ds && (!decide (k ∈ ks) && decide (ds.length + 2 ≤ sLine)) then .ok .nx (e.set i (some (1, putT ks ds k kd d))) else .stuck
    | _, _ => .stuck
  | _ => stk
/-- d[k] = e, d a name, the key new -/
def sPutT (i : Nat) (k : M Item) (m : M Vl) : M Fl := bnd (oV m) fun x => bnd (sawS isDT i) fun _ => bnd k (putTS i x)
/-! ### the heap -/
section
variable {X : Cx}
theorem phi_obj {P : Program} {w : World} {H : Hp} {h : Heap} {a : Addr} {xs : XsT} (x : phiT a xs h) : ObjOk P w H h a (.ext (phiT a xs)) :=
  ⟨x, let ⟨o, _, _, e, _⟩ := x; ⟨o, e⟩, fun _ _ ⟨o, es, ep, e, r⟩ k => ⟨o, es, ep, k o e, r⟩⟩
theorem items_int {P : Program} {w : World} : ∀ {ks : List Int} {us : List Value}, Vals (ks.map V.int) us → ItemsAre (intKind P w) ks us
  | [], _, r => by rw [List.map_nil] at r; cases r; exact .nil
  | k :: ks, _, r => by
    rw [List.map_cons] at r
    cases r with
    | cons h t =>
      obtain ⟨t', rfl⟩ := (show ∃ t, _ = Value.int k t from h)
      exact .cons (by show Value.isInt k (.int k t') = true; simp [Value.isInt]) (items_int t)
theorem key_tup {pins : List (Addr × Obj)} {σ : L2.St} {H : Hp} {s : Shared} {b : Addr} {k : List Int} (I : Inv X pins σ H s) (h : SqT X.K H b (k.map V.int)) : (tupleKind (intKind X.prog X.w)).is s.heap k b := by
  obtain ⟨its, r, ⟨o, e, c, n, d⟩, _⟩ := I.tuple h
  exact ⟨o, its.toArray, n, e, c, d, by simpa using items_int r⟩
def KeysT (K : PySem.W.Frag) (H : Hp) (xs : XsT) : Prop := ∀ x ∈ xs, SqT K H x.2.1 (x.1.map V.int)
theorem dict_of {pins : List (Addr × Obj)} {σ : L2.St} {H : Hp} {s : Shared} {a : Addr} {xs : XsT} (I : Inv X pins σ H s) (e : H a = some (.ext (phiT a xs))) (hn : (xs.map (·.1)).Nodup) (hk : KeysT X.K H xs) : s.heap.DictOfH (tupleKind (intKind X.prog X.w)) a xs := by
  obtain ⟨⟨o, es, ep, h1, h2, h3, h4⟩, _⟩ := (show ObjOk X.prog X.w H s.heap a (.ext (phiT a xs)) from I.hok a _ e)
  exact ⟨o, es, ep, h1, h2, h3, h4, fun x hx => key_tup I (hk x hx), hn⟩
theorem atKey_mem {xs : XsT} {k : List Int} : (atKey xs k).isSome = decide (k ∈ xs.map (·.1)) := by
  unfold atKey
  rw [Option.isSome_map, Bool.eq_iff_iff, List.find?_isSome]
  simp only [decide_eq_true_eq, List.mem_map]
/-- the question of k in d -/
def rInTg (K : PySem.W.Frag) (neg : Bool) : R2 := fun y x H Q => ∃ a b k xs, x = .ref a ∧ y = .ref b ∧ H a = some (.ext (phiT a xs)) ∧ (a == sysModules) = false ∧ (xs.map (·.1)).Nodup ∧ KeysT K H xs ∧ SqT K H b (k.map V.int) ∧
  Q (.bl (if neg then !decide (k ∈ xs.map (·.1)) else decide (k ∈ xs.map (·.1)))) H
theorem op_inT (hu : X.A.units + 1 < cLine) : OpR X (compareOp .In) (rInTg X.K false) := by
  intro pins s σ H y x u v Q I ry rx ⟨a, b, k, xs, ex, ey, e, hd, hn, hk, hb, q⟩
  subst ex ey
  cases (show v = Value.ref a from rx)
  cases (show u = Value.ref b from ry)
  refine wpAny_in_heap (tupleKind_room_in1 hu) (key_tup I hb) hd (dict_of I e hn hk) ?_
  rw [atKey_mem]
  exact ⟨.bl _, H, I.tok _, rfl, q⟩
theorem op_notInT (hu : X.A.units + 1 < cLine) : OpR X (compareOp .NotIn) (rInTg X.K true) := by
  intro pins s σ H y x u v Q I ry rx ⟨a, b, k, xs, ex, ey, e, hd, hn, hk, hb, q⟩
  subst ex ey
  cases (show v = Value.ref a from rx)
  cases (show u = Value.ref b from ry)
  refine PyProof.Rows.wpAny_notIn_heap (tupleKind_room_in1 hu) (key_tup I hb) hd (dict_of I e hn hk) ?_
  rw [atKey_mem]
  exact ⟨.bl _, H, I.tok _, rfl, q⟩
/-- d[k] = v, the key new -/
def rSetT (K : PySem.W.Frag) : TSet := fun o i v H Q => ∃ a b k xs, o = .ref a ∧ i = .ref b ∧ H a = some (.ext (phiT a xs)) ∧ (xs.map (·.1)).Nodup ∧ xs.length ≤ sizeLine ∧ KeysT K H xs ∧ SqT K H b (k.map V.int) ∧ k ∉ xs.map (·.1) ∧
  ∀ u, L2.RelV v u → Q (L2.upd H a (.ext (phiT a (xs ++ [(k, b, u)]))))
theorem set_T (hu : X.A.units + 1 < cLine) : PSet X (rSetT X.K) := by
  intro pins s σ H o i v ov iv u Q I ro ri rv ⟨a, b, k, xs, eo, ei, e, hn, hl, hk, hb, hnew, q⟩
  subst eo ei
  cases (show ov = Value.ref a from ro)
  cases (show iv = Value.ref b from ri)
  have hat : atKey xs k = none := by
    have := atKey_mem (xs := xs) (k := k)
    rw [decide_eq_false hnew] at this
    exact Option.isSome_eq_false_iff.mp this |> Option.isNone_iff_eq_none.mp
  refine wpAny_setItem_heap (hsz := hl) (tupleKind_room_in1 hu) (key_tup I hb) (dict_of I e hn hk) fun h' dd' hs => ⟨_, ?_, q u rv⟩
  rw [storedH_new hat] at dd'
  obtain ⟨o, es, ep, h1, h2, h3, h4, _, _⟩ := dd'
  exact d_write I (by rw [e]; exact True.intro) hs ⟨o, h1⟩ (phi_obj ⟨o, es, ep, h1, h2, h3, h4⟩)
variable {o i e value : Expr} {pos pos' : Pos} {td ty tv : TE}
/-- o[i] = value, by values -/
def sSetSub (td ty tv : TE) (t : TSet) : TS := fun D σ H => tv σ H fun v H1 => td σ H1 fun x H2 => ty σ H2 fun y H3 => t x y v H3 fun H4 => D.nx σ H4
theorem ps_setSub {t : TSet} (hset : PSet X t) (ho : PE X o td) (hi : PE X i ty) (hv : PE X value tv) (hs : swapsWith value (some (.Subscript o i pos')) pos.line X.env = pure false) :
    PS X (.Assign [.Subscript o i pos'] value pos) (sSetSub td ty tv t) := by
  refine ⟨fun pins s σ H D I h => ?_⟩
  refine wpAny_Assign_Subscript (thn (hv.run pins s σ H _ I h) fun r s1 ⟨v, H1, I1, rv, q1⟩ => thn (ho.run pins s1 σ H1 _ I1 q1) fun u s2 ⟨x, H2, I2, rx, q2⟩ => thn (hi.run pins s2 σ H2 _ I2 q2) fun iv s3 ⟨y, H3, I3, ry, q3⟩ => ?_) hs
  exact thn (hset pins s3 σ H3 x y v u iv r _ I3 rx ry rv q3) fun _ s4 ⟨H4, I4, q4⟩ => ⟨σ, H4, I4, q4⟩
def tDNewX : TE := fun _ H Q => ∀ p, H p = none → (p == sysModules) = false → Q (.ref p) (L2.upd H p (.ext (phiT p [])))
theorem pe_dnewX : PE X (.Dict [] [] pos) tDNewX := ⟨fun pins s σ H Q I h =>
  wpAny_Dict_empty ⟨.ref s.heap.objs.size, _, I.laid (a := s.heap.objs.size) (o := .ext (phiT s.heap.objs.size [])) (t' := s.toks) (fun _ _ q => Heap.get?_push_of_some _ q) (Nat.le_refl _) (phi_obj ⟨_, #[], 0, Heap.get?_push_size _ rfl, ⟨rfl, rfl, rfl⟩, rfl, rfl⟩), rfl, h _ (I.hok.fresh (Nat.le_refl _)) (beq_eq_false_iff_ne.mpr (Ne.symm (Nat.ne_of_lt I.big)))⟩⟩
end
section
variable {X : Cx} {c : Ctx} {pn : Pins} {W : WX} {F H : Hp} {e : Env} {σ : L2.St} {P : Addr → Prop} {l : Nat} {a b : Expr} {ma mb : M Item} {pos : Pos}
theorem vints_of : ∀ {ds : List D} {vs : List V} {ns : List Int}, intsOf ds = some ns → Reps c.K c.C F ds vs → vs = ns.map V.int
  | [], vs, ns, h, r => by
    cases h
    exact r
  | .int i :: ds, vs, ns, h, ⟨v, ws, e, r1, r2⟩ => by
    unfold intsOf at h
    cases q : intsOf ds with
    | none => rw [q] at h; cases h
    | some ms =>
      rw [q] at h
      cases h
      have r1 : v = .int i := r1
      rw [e, r1, vints_of q r2]
      rfl
  | .non :: _, _, _, h, _ => by cases h
  | .bl _ :: _, _, _, h, _ => by cases h
  | .str _ :: _, _, _, h, _ => by cases h
  | .box _ _ :: _, _, _, h, _ => by cases h
  | .scr _ :: _, _, _, h, _ => by cases h
/-- a key stands as a tuple of numbers -/
theorem key_rep {d : D} {k : List Int} {v : V} (h : keyT d = some k) (r : Rep c.K c.C F d v) : ∃ b, v = .ref b ∧ SqT c.K F b (k.map V.int) := by
  cases d with
  | box hd ds =>
    cases hd with
    | tup =>
      obtain ⟨a, vs, rfl, s1, _, s3⟩ := r
      have := vints_of (show intsOf ds = some k from h) s3
      subst this
      exact ⟨a, rfl, TupS.sq s1⟩
    | _ => cases h
  | _ => cases h
theorem keys_of : ∀ {xs : XsT} {ds : List D} {ws : List V}, keysOk (xs.map (·.1)) ds = true → Reps c.K c.C F ds (xs.map (fun x => .ref x.2.1) ++ ws) → KeysT c.K F xs
  | [], _, _, _, _ => fun _ h => nomatch h
  | x :: xs, [], _, h, _ => by cases h
  | x :: xs, d :: ds, ws, h, ⟨v, us, e, r1, r2⟩ => by
    have h' : ((keyT d == some x.1) && keysOk (xs.map (·.1)) ds) = true := h
    rw [Bool.and_eq_true, beq_iff_eq] at h'
    injection e with e1 e2
    subst e1 e2
    obtain ⟨b, eb, hb⟩ := key_rep h'.1 r1
    cases eb
    intro y hy
    rcases List.mem_cons.mp hy with rfl | hy
    · exact hb
    · exact keys_of h'.2 r2 y hy
theorem keysT_mono {K : PySem.W.Frag} {xs : XsT} (s : Same F H) (h : KeysT K F xs) : KeysT K H xs := fun x hx => SqT.mono s (h x hx)
theorem sh_full {d : D} {v : V} (R : Rel c pn F e σ H P) (h : ∀ hd ds, d = .box hd ds → hd = .tup) (s : Sh c F H d v) : Rep c.K c.C F d v := by
  cases d with
  | box hd ds =>
    obtain ⟨a, vs, e, s1, s2, s3, s4⟩ := s
    have := h hd ds rfl
    subst this
    exact ⟨a, vs, e, s4 rfl, s2, s3⟩
  | _ => exact s
theorem keyT_tup {d : D} {k : List Int} (h : keyT d = some k) : ∀ hd ds, d = .box hd ds → hd = .tup := fun hd ds e => by
  subst e
  cases hd with
  | tup => rfl
  | _ => cases h
theorem o_inT (neg : Bool) (hK : c.K = X.K) : Op2 c (rInTg X.K neg) (fInT neg) := by
  intro pn F e σ H P d d' n z x y Q R sx sy hf q
  rw [← hK]
  cases d' with
  | box hd ds => cases hd with
    | dT ks =>
      unfold fInT at hf
      dsimp only at hf
      split at hf
      · rename_i hks
        cases hk : keyT d with
        | none => rw [hk] at hf; cases hf
        | some k =>
          rw [hk] at hf
          cases hf
          obtain ⟨a, vs, rfl, ⟨xs, s1, s2, s3, s4, rfl, ws, s5, rfl⟩, s6, s7, _⟩ := sy
          obtain ⟨b, rfl, hb⟩ := key_rep hk (sh_full R (keyT_tup hk) sx)
          exact ⟨a, b, k, xs, rfl, rfl, s1, s2, s4, keysT_mono R.same (keys_of hks s7), SqT.mono R.same hb, sc R q rfl rfl⟩
      · cases hf
    | _ => cases hf
  | _ => cases hf
theorem g_inT (g : G X c W l) (ha : OkO X c pn W a ma) (hb : OkO X c pn W b mb) (hm : behindInMarks .In b = false := by first | exact nomark _ | rfl) : OkV X c pn W (.Compare a [.In] [b] pos) (op2 (fInT false) ma mb) := ok_cmp (op_inT g.hu1) (o_inT false g.hK) ha hb hm
theorem g_notInT (g : G X c W l) (ha : OkO X c pn W a ma) (hb : OkO X c pn W b mb) (hm : behindInMarks .NotIn b = false := by first | exact nomark _ | rfl) : OkV X c pn W (.Compare a [.NotIn] [b] pos) (op2 (fInT true) ma mb) := ok_cmp (op_notInT g.hu1) (o_inT true g.hK) ha hb hm
theorem t_inT (g : G X c W l) (ha : OkO X c pn W a ma) (hb : OkO X c pn W b mb) (hm : behindInMarks .In b = false := by first | exact nomark _ | rfl) : OkT X c pn W (.Compare a [.In] [b] pos) (tB (op2 (fInT false) ma mb)) := ot_cmp (op_inT g.hu1) (o_inT false g.hK) ha hb hm
theorem t_notInT (g : G X c W l) (ha : OkO X c pn W a ma) (hb : OkO X c pn W b mb) (hm : behindInMarks .NotIn b = false := by first | exact nomark _ | rfl) : OkT X c pn W (.Compare a [.NotIn] [b] pos) (tB (op2 (fInT true) ma mb)) := ot_cmp (op_notInT g.hu1) (o_inT true g.hK) ha hb hm
theorem ok_dctT : OkV X c pn W (.Dict [] [] pos) vDctT := by
  refine ⟨PE.imp pe_dnewX fun σ H Q ⟨F, e, P, R, q⟩ p hp hs => ?_⟩
  obtain ⟨l, r⟩ := new_own (o := .ext (phiT p [])) (h := .dT []) (ds := []) (vs := []) R hp (fun z => nomatch z) ⟨[], upd_same, hs, Nat.zero_le _, List.nodup_nil, rfl, [], .nil, rfl⟩ (Nat.zero_le _) rfl
  exact q _ F _ l r
end
end Mini

set_option Elab.async false
set_option linter.all false
set_option maxRecDepth 100000
/-! MN3: d[k] = e by tuples; xs[i] = e; xs[i][k] = e. -/
namespace Mini
open PySem L2
section
variable {X : Cx} {c : Ctx} {pn : Pins} {W : WX} {F H : Hp} {e : Env} {σ : L2.St} {P : Addr → Prop} {l : Nat}
theorem reps_split : ∀ {n : Nat} {ds : List D} {us ws : List V}, Reps c.K c.C F ds (us ++ ws) → us.length = n → Reps c.K c.C F (ds.take n) us ∧ Reps c.K c.C F (ds.drop n) ws
  | 0, ds, us, ws, r, h => by
    have : us = [] := List.length_eq_zero_iff.mp h
    subst this
    exact ⟨rfl, r⟩
  | n + 1, [], u :: us, ws, r, h => by
    have r : u :: us ++ ws = [] := r
    cases r
  | n + 1, d :: ds, u :: us, ws, ⟨v, vs, e, r1, r2⟩, h => by
    injection e with e1 e2
    subst e1 e2
    obtain ⟨q1, q2⟩ := reps_split (n := n) r2 (by simpa using h)
    exact ⟨⟨u, us, rfl, r1, q1⟩, q2⟩
  | n + 1, _, [], _, _, h => by cases h
theorem sqT_back {K : PySem.W.Frag} {b t : Addr} {us : List V} (s : Same F (L2.upd H b (.lst []))) (h : SqT K F t us) : SqT K H t us := by
  have back : ∀ {u : HO}, F t = some u → u ≠ .lst [] → H t = some u := fun {u} e hu => by
    have := s _ _ e
    by_cases ht : t = b
    · subst ht
      rw [upd_same] at this
      cases this
      exact absurd rfl hu
    · rwa [upd_ne ht] at this
  rcases h with (h | ⟨o, h⟩) | h
  · exact .inl (.inl (back h fun z => nomatch z))
  · exact .inl (.inr ⟨o, back h fun z => nomatch z⟩)
  · exact .inr h
theorem os_putT (i : Nat) {x : Str} {k v : Expr} {mk : M Item} {mv : M Vl} {p pos' pos : Pos} (hK : c.K = X.K) (hu : X.A.units + 1 < cLine) (hk : OkO X c pn W k mk) (hv : OkV X c pn W v mv) (hN : X.N[i]? = some x := by rfl) (hvis : Vis X.env.scope x := by first | exact Or.inl rfl | exact Or.inr (Or.inl rfl) | exact Or.inr (Or.inr rfl))
    (hd : (x == ("__debug__" : Str)) = false := by decide) (hcd : (x == ("__classdict__" : Str)) = false := by decide) (hs : swapsWith v (some (.Subscript (.Name x p) k pos')) pos.line X.env = pure false := by rfl) :
    OkS X c pn W (.Assign [.Subscript (.Name x p) k pos'] v pos) (sPutT i mk mv) := by
  refine ⟨PS.imp (ps_setSub (set_T hu) (pe_var hN hvis hd hcd) hk.ok (oo_val hv).ok hs) fun D σ H ⟨F, e, P, R, q⟩ => ⟨F, e, P, R, ?_⟩⟩
  refine chS (R := fun F x v => IRel c F σ x v) q fun xi e1 y F1 H1 l1 R1 i1 q1 => ?_
  rcases saw_ok (e := e1) (p := isDT) (i := i) (f := fun _ => bnd mk (putTS i xi)) with ⟨n0, h0, ds0, g0, p0, eq⟩ | eq
  · rw [eq] at q1
    obtain ⟨v0, hv0, r0⟩ := R1.rep g0
    refine ⟨v0, hv0, F1, e1, P, R1, ?_⟩
    refine chS (R := fun F x v => IRel c F σ x v) q1 fun yk e2 w F2 H2 l2 R2 i2 q2 => ?_
    rcases res_ok R2 i2 with qr | ⟨F3, kd, e3, qr, l3, s3, R3⟩
    · have q2 : PoS c pn W σ P F2 H2 D (bnd (res yk) _ e2) := q2
      rw [bnd_stuck qr] at q2
      exact q2.elim
    · have q2 : PoS c pn W σ P F2 H2 D (bnd (res yk) _ e2) := q2
      rw [bnd_ok qr] at q2
      cases xi with
      | bor _ => exact q2.elim
      | val d =>
        dsimp only at q2
        cases g : getS e3 i with
        | none => rw [g] at q2; exact q2.elim
        | some z =>
          obtain ⟨n, z⟩ := z
          cases hkd : keyT kd with
          | none =>
            rw [g, hkd] at q2
            cases n with
            | zero => exact q2.elim
            | succ n => cases z with
              | box h ds => cases h <;> exact q2.elim
              | _ => exact q2.elim
          | some k =>
            rw [g, hkd] at q2
            cases n with
            | zero => exact q2.elim
            | succ n =>
              cases z with
              | box h ds =>
                cases h with
                | dT ks =>
                  dsimp only at q2
                  by_cases hl : (keysOk ks ds && (!decide (k ∈ ks) && decide (ds.length + 2 ≤ sLine))) = true
                  · rw [if_pos hl] at q2
                    rw [Bool.and_eq_true, Bool.and_eq_true, Bool.not_eq_true', decide_eq_false_iff_not, decide_eq_true_eq] at hl
                    obtain ⟨hko, hnew, hsz⟩ := hl
                    obtain ⟨b, ws, F', k1, ⟨xs, t1, t2, t3, t4, rfl, us, t5, rfl⟩, k3, k4, k5, k6⟩ := R3.put g (fun z => nomatch z)
                    rw [hv0] at k1
                    cases k1
                    have rk := sh_full R3 (keyT_tup hkd) s3
                    obtain ⟨kb, rfl, hkb⟩ := key_rep hkd rk
                    have rv : Rep c.K c.C F' d y := Rep.mono (l2.F.trans (l3.F.trans k5.F)) i1
                    have lnm : (xs.map (·.1)).length = (xs.map (fun x => V.ref x.2.1)).length := by simp
                    obtain ⟨p1, p2⟩ := reps_split (n := (xs.map (·.1)).length) k4 lnm.symm
                    refine ⟨b, kb, k, xs, rfl, rfl, t1, t4, t3, ?_, ?_, hnew, fun u ru => ?_⟩
                    · rw [← hK]
                      exact fun x hx => sqT_back (k6 (.lst []) .lst [] [] (fun z => nomatch z) upd_same (Nat.zero_le _) rfl).2.same (keys_of (c := c) (F := F') hko k4 x hx)
                    · rw [← hK]
                      exact SqT.mono R3.same hkb
                    · have st : Stand c.K c.C (L2.upd H2 b (.ext (phiT b (xs ++ [(k, kb, u)])))) b (((xs ++ [(k, kb, u)]).map fun x => V.ref x.2.1) ++ (us ++ [y])) (.dT (xs.map (·.1) ++ [k])) :=
                        ⟨xs ++ [(k, kb, u)], upd_same, t2, by
                          have hlen := k4.length
                          rw [List.length_append, List.length_map] at hlen
                          rw [List.length_append, List.length_singleton]
                          have : ds.length + 2 ≤ sizeLine := hsz
                          omega, by
                          rw [List.nodup_append]
                          exact ⟨t4, by simp, fun a ha b hb => by
                            rcases List.mem_singleton.mp hb with rfl
                            exact fun z => hnew (z ▸ ha)⟩, by rw [List.map_append]; rfl, us ++ [y], by
                          rw [List.map_append]
                          exact t5.append (.cons ru .nil), rfl⟩
                      have rs : Reps c.K c.C F' (ds.take (xs.map (·.1)).length ++ [kd] ++ (ds.drop (xs.map (·.1)).length ++ [d])) (((xs ++ [(k, kb, u)]).map fun x => V.ref x.2.1) ++ (us ++ [y])) := by
                        rw [List.map_append]
                        exact reps_app (reps_app p1 ⟨.ref kb, [], rfl, Rep.mono k5.F rk, rfl⟩) (reps_app p2 ⟨y, [], rfl, rv, rfl⟩)
                      obtain ⟨l', R'⟩ := k6 _ (.dT (xs.map (·.1) ++ [k])) _ _ (fun z => nomatch z) st (by
                        have : ds.length + 2 ≤ sizeLine := hsz
                        rw [List.length_append, List.length_append, List.length_append, List.length_take, List.length_drop]
                        simp only [List.length_singleton]
                        omega) rs
                      exact q2 σ F' _ (l3.trans l') R'
                  · rw [if_neg hl] at q2; exact q2.elim
                | _ => exact q2.elim
              | _ => exact q2.elim
  · rw [eq] at q1
    exact q1.elim
end
end Mini

set_option Elab.async false
set_option linter.all false
set_option maxRecDepth 100000
/-! MN4: xs[i][k] = e, xs a name whose dicts are its own. -/
namespace Mini
open PySem L2
def own2 : Slot → Option (List D)
  | some (_ + 2, .box .lst ds) => some ds
  | _ => none
def numS : Slot → Option Int
  | some (_, .int z) => some z
  | _ => none
def keyS : Slot → Option Key
  | some (_, d) => keyD d
  | _ => none
def dictD : D → Option (List Key × List D)
  | .box (.dK ks) es => some (ks, es)
  | _ => none
/-- the list behind xs[y][k] = x -/
def put2E (x : D) (s1 s2 s3 : Slot) : Option (List D) := (own2 s1).bind fun ds => (numS s2).bind fun z => (keyS s3).bind fun kk => (ds[z.toNat]?).bind fun d => (dictD d).bind fun q =>
  if decide (0 ≤ z) && decide (q.1.length < sLine) then some (ds.set z.toNat (.dK (putK q.1 q.2 kk x).1 (putK q.1 q.2 kk x).2)) else none
def put2K (i j k : Nat) (x : Item) : M Fl := match x with
  | .val d => fun e => match put2E d (getS e i) (getS e j) (getS e k) with
    | some ds' => .ok .nx (e.set i (some (2, .lst ds')))
    | none => .stuck
  | _ => stk
theorem put2E_some {x : D} {s1 s2 s3 : Slot} {ds' : List D} (h : put2E x s1 s2 s3 = some ds') : ∃ n ds z m kk m3 kd ks es, s1 = some (n + 2, .lst ds) ∧ s2 = some (m, .int z) ∧ s3 = some (m3, kd) ∧ keyD kd = some kk ∧ 0 ≤ z ∧ ds[z.toNat]? = some (.box (.dK ks) es) ∧ ks.length < sLine ∧
    ds' = ds.set z.toNat (.dK (putK ks es kk x).1 (putK ks es kk x).2) := by
  unfold put2E at h
  obtain ⟨ds, h1, h⟩ := Option.bind_eq_some_iff.mp h
  obtain ⟨z, h2, h⟩ := Option.bind_eq_some_iff.mp h
  obtain ⟨kk, h3, h⟩ := Option.bind_eq_some_iff.mp h
  obtain ⟨d, h4, h⟩ := Option.bind_eq_some_iff.mp h
  obtain ⟨⟨ks, es⟩, h5, h⟩ := Option.bind_eq_some_iff.mp h
  split at h
  · rename_i hb
    rw [Bool.and_eq_true, decide_eq_true_eq, decide_eq_true_eq] at hb
    cases h
    obtain ⟨n, rfl⟩ : ∃ n, s1 = some (n + 2, .lst ds) := by
      unfold own2 at h1
      split at h1
      · cases h1; exact ⟨_, rfl⟩
      · cases h1
    obtain ⟨m, rfl⟩ : ∃ m, s2 = some (m, .int z) := by
      unfold numS at h2
      split at h2
      · cases h2; exact ⟨_, rfl⟩
      · cases h2
    obtain ⟨m3, kd, rfl, hk⟩ : ∃ m kd, s3 = some (m, kd) ∧ keyD kd = some kk := by
      unfold keyS at h3
      split at h3
      · exact ⟨_, _, rfl, h3⟩
      · cases h3
    have : d = .box (.dK ks) es := by
      unfold dictD at h5
      split at h5
      · cases h5; rfl
      · cases h5
    subst this
    exact ⟨n, ds, z, m, kk, m3, kd, ks, es, rfl, rfl, rfl, hk, hb.1, h4, hb.2, rfl⟩
  · cases h
/-- xs[y][k] = e, all names -/
def sPut2 (i j k : Nat) (m : M Vl) : M Fl := bnd (oV m) fun x => put2K i j k x
section
variable {K : PySem.W.Frag} {C : CT} {F H : Hp}
theorem Owns.at : ∀ {ds : List D} {n z : Nat} {vs : List V} {fp : List Addr} {d : D}, Owns K C F H ds n vs fp → ds[z]? = some d → ∃ v p pre post, vs[z]? = some v ∧ Own K C F H d n v p ∧ fp = pre ++ p ++ post ∧
    ∀ (H' : Hp) (d' : D) (p' : List Addr), (∀ a ∈ pre, H' a = H a) → (∀ a ∈ post, H' a = H a) → Own K C F H' d' n v p' → Owns K C F H' (ds.set z d') n vs (pre ++ p' ++ post)
  | [], _, z, _, _, _, _, h => by cases h
  | d0 :: ds, n, 0, vs, fp, d, ⟨v, ws, p, q, h1, h2, h3, h4⟩, h => by
    cases h
    refine ⟨v, p, [], q, by rw [h1]; rfl, h2, by simpa using h4, fun H' d' p' _ hq o => ⟨v, ws, p', q, h1, o, h3.frame (Same.refl _) fun a ha => ⟨hq a ha, (h3.fp a ha).1⟩, by simp⟩⟩
  | d0 :: ds, n, z + 1, vs, fp, d, ⟨v, ws, p, q, h1, h2, h3, h4⟩, h => by
    obtain ⟨v', p', pre, post, k1, k2, k3, k4⟩ := Owns.at (z := z) h3 (by simpa using h)
    refine ⟨v', p', p ++ pre, post, by rw [h1]; simpa using k1, k2, by rw [h4, k3]; simp [List.append_assoc], fun H' d' p'' hp hq o => ⟨v, ws, p, pre ++ p'' ++ post, h1, h2.frame (Same.refl _) fun a ha => ⟨hp a (List.mem_append_left _ ha), (h2.fp a ha).1⟩, k4 H' d' p'' (fun a ha => hp a (List.mem_append_right _ ha)) hq o, by simp [List.append_assoc]⟩⟩
end
section
variable {X : Cx} {c : Ctx} {pn : Pins} {W : WX} {F H : Hp} {e : Env} {σ : L2.St} {P : Addr → Prop} {l : Nat}
theorem Rel.put2 {i n z : Nat} {ds es : List D} {ks : List Key} (R : Rel c pn F e σ H P) (g : getS e i = some (n + 2, .lst ds)) (hz : ds[z]? = some (.box (.dK ks) es)) :
    ∃ a vs b ws F', σ[i]? = some (some (.ref a)) ∧ H a = some (.lst vs) ∧ vs[z]? = some (.ref b) ∧ Stand c.K c.C H b ws (.dK ks) ∧ Reps c.K c.C F' es ws ∧ Later F H F' H P ∧ ∀ (o : HO) (ks' : List Key) (es' : List D) (ws' : List V), Stand c.K c.C (L2.upd H b o) b ws' (.dK ks') → es'.length ≤ sizeLine → Reps c.K c.C F' es' ws' →
      Later F H F' (L2.upd H b o) P ∧ Rel c pn F' (e.set i (some (2, .lst (ds.set z (.box (.dK ks') es'))))) σ (L2.upd H b o) P := by
  obtain ⟨v, F', fp, h1, l, o, R'⟩ := R.lower g (show 2 ≤ n + 2 by omega)
  obtain ⟨φ, r1, r2, r3, r4, r5, r6, r7, r8⟩ := R'
  have hi : i < e.length := getS_lt g
  have gi : getS (e.set i (some (2, .lst ds))) i = some (2, .lst ds) := by rw [getS_set, if_pos ⟨rfl, hi⟩]
  obtain ⟨v', g1, g2⟩ := r3 i _ _ gi
  rw [h1] at g1
  cases g1
  unfold Own at g2
  rw [if_neg (fun z => z.elim (fun z => absurd z (by decide)) (fun z => nomatch z))] at g2
  obtain ⟨a, vs, fp', rfl, fa, st, hl, ow, hφ⟩ := g2
  obtain ⟨u, p, pre, post, k1, k2, k3, k4⟩ := ow.at hz
  unfold Own at k2
  rw [if_neg (fun z => z.elim (fun z => absurd z (by decide)) (fun z => nomatch z))] at k2
  obtain ⟨b, ws, q', rfl, fb, sb, hb, owb, rfl⟩ := k2
  obtain ⟨rb, rfl⟩ := owb.of_zero
  refine ⟨a, vs, b, ws, F', h1, st, k1, sb, rb, l, fun o ks' es' ws' st' hl' r' => ?_⟩
  have hbφ : b ∈ φ i := by rw [hφ, k3]; simp
  have nd : (a :: (pre ++ [b] ++ post)).Nodup := by rw [← k3, ← hφ]; exact r5 i
  have ab : a ≠ b := fun z => by
    rw [z] at nd
    exact (List.nodup_cons.mp nd).1 (by simp)
  have nd2 := (List.nodup_cons.mp nd).2
  rw [List.append_assoc, List.nodup_append] at nd2
  have bpre : ∀ x ∈ pre, x ≠ b := fun x hx => nd2.2.2 x hx b (by simp)
  have bpost : ∀ x ∈ post, x ≠ b := fun x hx z => by
    have := nd2.2.1
    rw [List.singleton_append, List.nodup_cons] at this
    exact this.1 (z ▸ hx)
  have bφ : ∀ j, j ≠ i → b ∉ φ j := fun j hj z => r6 j i b hj z hbφ
  have bP : ¬ P b := fun z => (r7 b z).2.2 i hbφ
  have newO : Own c.K c.C F' (L2.upd H b o) (.box (.dK ks') es') 1 (.ref b) [b] := by
    unfold Own
    rw [if_neg (fun z => z.elim (fun z => absurd z (by decide)) (fun z => nomatch z))]
    exact ⟨b, ws', [], rfl, fb, st', hl', Owns.zero r', rfl⟩
  have newL := k4 (L2.upd H b o) (.box (.dK ks') es') [b] (fun x hx => upd_ne (bpre x hx)) (fun x hx => upd_ne (bpost x hx)) newO
  refine ⟨⟨l.F, fun x px => upd_ne (show x ≠ b from fun z => bP (z ▸ px))⟩, φ, by simpa using r1, fun x u h => ?_, fun j m d h => ?_, fun j h => ?_, r5, r6, fun x px => ?_, r8⟩
  · rw [upd_ne (fun z => by rw [z, fb] at h; cases h)]
    exact r2 x u h
  · rw [getS_set] at h
    by_cases hj : i = j ∧ i < e.length
    · rw [if_pos hj] at h
      obtain ⟨rfl, _⟩ := hj
      cases h
      refine ⟨.ref a, h1, ?_⟩
      rw [hφ, k3]
      unfold Own
      rw [if_neg (fun z => z.elim (fun z => absurd z (by decide)) (fun z => nomatch z))]
      exact ⟨a, vs, _, rfl, fa, (upd_ne ab).trans st, by rw [List.length_set]; exact hl, newL, rfl⟩
    · rw [if_neg hj] at h
      have hji : j ≠ i := fun z => by
        subst z
        exact hj ⟨rfl, hi⟩
      obtain ⟨v, q1, q2⟩ := r3 j m d (by rw [getS_set, if_neg hj]; exact h)
      exact ⟨v, q1, q2.frame (Same.refl _) fun x hx => ⟨upd_ne fun z => bφ j hji (z ▸ hx), (q2.fp x hx).1⟩⟩
  · rw [getS_set] at h
    by_cases hj : i = j ∧ i < e.length
    · rw [if_pos hj] at h; cases h
    · rw [if_neg hj] at h
      exact r4 j (by rw [getS_set, if_neg hj]; exact h)
  · rw [upd_ne (show x ≠ b from fun z => bP (z ▸ px))]
    exact r7 x px
theorem os_put2 (i j k : Nat) {x y u : Str} {v : Expr} {mv : M Vl} {p p2 p3 p4 pos' pos : Pos} (hK : c.K = X.K) (hu : X.A.units + 1 < cLine) (hv : OkV X c pn W v mv) (hN : X.N[i]? = some x := by rfl) (hN2 : X.N[j]? = some y := by rfl) (hN3 : X.N[k]? = some u := by rfl)
    (hvis : Vis X.env.scope x := by first | exact Or.inl rfl | exact Or.inr (Or.inl rfl) | exact Or.inr (Or.inr rfl)) (hvis2 : Vis X.env.scope y := by first | exact Or.inl rfl | exact Or.inr (Or.inl rfl) | exact Or.inr (Or.inr rfl)) (hvis3 : Vis X.env.scope u := by first | exact Or.inl rfl | exact Or.inr (Or.inl rfl) | exact Or.inr (Or.inr rfl))
    (hd : (x == ("__debug__" : Str)) = false := by decide) (hd2 : (y == ("__debug__" : Str)) = false := by decide) (hd3 : (u == ("__debug__" : Str)) = false := by decide) (hcd : (x == ("__classdict__" : Str)) = false := by decide) (hcd2 : (y == ("__classdict__" : Str)) = false := by decide) (hcd3 : (u == ("__classdict__" : Str)) = false := by decide)
    (hs : swapsWith v (some (.Subscript (.Subscript (.Name x p) (.Name y p2) p3) (.Name u p4) pos')) pos.line X.env = pure false := by rfl) :
    OkS X c pn W (.Assign [.Subscript (.Subscript (.Name x p) (.Name y p2) p3) (.Name u p4) pos'] v pos) (sPut2 i j k mv) := by
  refine ⟨PS.imp (ps_setSub (set_dict hu) (pe_ix L2.ix_seq (pe_var hN hvis hd hcd) (pe_var hN2 hvis2 hd2 hcd2) (by intro _ _; rfl)) (pe_var hN3 hvis3 hd3 hcd3) (oo_val hv).ok hs) fun D σ H ⟨F, e, P, R, q⟩ => ⟨F, e, P, R, ?_⟩⟩
  refine chS (R := fun F x v => IRel c F σ x v) q fun xi e1 y F1 H1 l1 R1 i1 q1 => ?_
  cases xi with
  | bor _ => exact q1.elim
  | val d =>
    have q1 : PoS c pn W σ P F1 H1 D ((fun e => match put2E d (getS e i) (getS e j) (getS e k) with
      | some ds' => Res.ok Fl.nx (e.set i (some (2, .lst ds')))
      | none => .stuck) e1) := q1
    dsimp only at q1
    cases hp : put2E d (getS e1 i) (getS e1 j) (getS e1 k) with
    | none => rw [hp] at q1; exact q1.elim
    | some ds' =>
      rw [hp] at q1
      obtain ⟨n, ds, z, m, kk, m3, kd, ks, es, g1, g2, g3, hk, z0, hz, hks, rfl⟩ := put2E_some hp
      obtain ⟨a, vs, b, ws, F', k1, k2, k3, k4, k5, k6, k7⟩ := R1.put2 g1 hz
      obtain ⟨vj, s2, r2⟩ := R1.rep g2
      have r2 : vj = .int z := r2
      subst r2
      obtain ⟨vk, s3, r3⟩ := R1.rep g3
      have ek : vk = kV kk := by
        cases kd with
        | int q => cases hk; exact r3
        | str q => cases hk; exact r3
        | _ => cases hk
      subst ek
      have hat : atI vs z = some (.ref b) := by
        have hlt := (List.getElem?_eq_some_iff.mp k3).1
        unfold atI ixN
        rw [if_pos z0, if_pos (by omega)]
        exact k3
      refine ⟨.ref a, k1, .int z, s2, .inl ⟨a, vs, z, .ref b, rfl, rfl, SqL.of k2, hat, kV kk, s3, b, _, rfl, DPut.k k4.1 (by rw [List.length_zip, k4.2, Nat.min_self, ← k4.2]; exact hks), ?_⟩⟩
      have rv : Rep c.K c.C F' d y := Rep.mono k6.F i1
      obtain ⟨vs', p1, p2, p3⟩ := putK_ok (x := kk) k4.2 k5 rv
      rw [p1]
      have hle : (putK ks es kk d).2.length ≤ sizeLine := by
        rw [p3.length, ← p2]
        unfold putK
        split
        · exact Nat.le_of_lt hks
        · rw [List.length_append, List.length_singleton]; exact hks
      obtain ⟨l', R'⟩ := k7 (.dK ((putK ks es kk d).1.zip vs')) (putK ks es kk d).1 (putK ks es kk d).2 vs' ⟨upd_same, p2⟩ hle p3
      exact q1 σ F' _ l' R'
end
end Mini

set_option Elab.async false
set_option linter.all false
set_option maxRecDepth 100000
/-! MN5: k in xs[y], all names: xs stays its own. -/
namespace Mini
open PySem L2
def lstS : Slot → Option (List D)
  | some (_, .box .lst ds) => some ds
  | _ => none
/-- s1 the list, s2 the place, s3 the key -/
def in2E (s1 s2 s3 : Slot) : Option Bool := (lstS s1).bind fun ds => (numS s2).bind fun z => (keyS s3).bind fun kk => (ds[z.toNat]?).bind fun d => (dictD d).bind fun q => if 0 ≤ z then some (findK q.1 q.2 kk).isSome else none
def vIn2 (neg : Bool) (k i j : Nat) : M Vl := fun e => match in2E (getS e i) (getS e j) (getS e k) with
  | some b => .ok (0, .bl (if neg then !b else b)) e
  | none => .stuck
theorem in2E_some {s1 s2 s3 : Slot} {b : Bool} (h : in2E s1 s2 s3 = some b) : ∃ n ds z m kk m3 kd ks es, s1 = some (n, .lst ds) ∧ s2 = some (m, .int z) ∧ s3 = some (m3, kd) ∧ keyD kd = some kk ∧ 0 ≤ z ∧ ds[z.toNat]? = some (.box (.dK ks) es) ∧ b = (findK ks es kk).isSome := by
  unfold in2E at h
  obtain ⟨ds, h1, h⟩ := Option.bind_eq_some_iff.mp h
  obtain ⟨z, h2, h⟩ := Option.bind_eq_some_iff.mp h
  obtain ⟨kk, h3, h⟩ := Option.bind_eq_some_iff.mp h
  obtain ⟨d, h4, h⟩ := Option.bind_eq_some_iff.mp h
  obtain ⟨⟨ks, es⟩, h5, h⟩ := Option.bind_eq_some_iff.mp h
  split at h
  · rename_i hb
    cases h
    obtain ⟨n, rfl⟩ : ∃ n, s1 = some (n, .lst ds) := by
      unfold lstS at h1
      split at h1
      · cases h1; exact ⟨_, rfl⟩
      · cases h1
    obtain ⟨m, rfl⟩ : ∃ m, s2 = some (m, .int z) := by
      unfold numS at h2
      split at h2
      · cases h2; exact ⟨_, rfl⟩
      · cases h2
    obtain ⟨m3, kd, rfl, hk⟩ : ∃ m kd, s3 = some (m, kd) ∧ keyD kd = some kk := by
      unfold keyS at h3
      split at h3
      · exact ⟨_, _, rfl, h3⟩
      · cases h3
    have : d = .box (.dK ks) es := by
      unfold dictD at h5
      split at h5
      · cases h5; rfl
      · cases h5
    subst this
    exact ⟨n, ds, z, m, kk, m3, kd, ks, es, rfl, rfl, rfl, hk, hb, h4, rfl⟩
  · cases h
section
variable {X : Cx} {c : Ctx} {pn : Pins} {W : WX} {F H : Hp} {e : Env} {σ : L2.St} {P : Addr → Prop} {l : Nat}
theorem in2_rd {neg : Bool} {k i j : Nat} {σ : L2.St} {H : Hp} {Q : VK} (h : rdV c pn W (vIn2 neg k i j) σ H Q) : tOp (rInD neg) (tVar k) (tOp (rIx X.K) (tVar i) (tVar j)) σ H Q := by
  obtain ⟨F, e, P, R, q⟩ := h
  unfold vIn2 at q
  cases hp : in2E (getS e i) (getS e j) (getS e k) with
  | none => rw [hp] at q; exact q.elim
  | some b =>
    rw [hp] at q
    obtain ⟨n, ds, z, m, kk, m3, kd, ks, es, g1, g2, g3, hk, z0, hz, rfl⟩ := in2E_some hp
    obtain ⟨vi, s1, r1⟩ := R.rep g1
    obtain ⟨vj, s2, r2⟩ := R.rep g2
    have r2 : vj = .int z := r2
    subst r2
    obtain ⟨vk, s3, r3⟩ := R.rep g3
    have ek : vk = kV kk := by
      cases kd with
      | int q => cases hk; exact r3
      | str q => cases hk; exact r3
      | _ => cases hk
    subst ek
    obtain ⟨a, vs, rfl, h1, h2, h3⟩ := r1
    have h1 : H a = some (.lst vs) := h1
    obtain ⟨v, hv, rv⟩ := h3.get hz
    obtain ⟨b, ws, rfl, k1, k2, k3⟩ := rv
    have hat : atI vs z = some (.ref b) := by
      have hlt := (List.getElem?_eq_some_iff.mp hv).1
      unfold atI ixN
      rw [if_pos z0, if_pos (by omega)]
      exact hv
    refine ⟨kV kk, s3, .ref a, s1, .int z, s2, .inl ⟨a, vs, z, .ref b, rfl, rfl, SqL.of h1, hat, b, _, rfl, DGet.k k1.1, ?_⟩⟩
    rw [← findK_isSome k3.length]
    exact q _ F H .rfl (RelV.zero R rfl)
theorem ok_in2 (neg : Bool) (k i j : Nat) {x y u : Str} {p p2 p3 p4 pos : Pos} (hu : X.A.units + 1 < cLine) (hN : X.N[i]? = some x := by rfl) (hN2 : X.N[j]? = some y := by rfl) (hN3 : X.N[k]? = some u := by rfl)
    (hvis : Vis X.env.scope x := by first | exact Or.inl rfl | exact Or.inr (Or.inl rfl) | exact Or.inr (Or.inr rfl)) (hvis2 : Vis X.env.scope y := by first | exact Or.inl rfl | exact Or.inr (Or.inl rfl) | exact Or.inr (Or.inr rfl)) (hvis3 : Vis X.env.scope u := by first | exact Or.inl rfl | exact Or.inr (Or.inl rfl) | exact Or.inr (Or.inr rfl))
    (hd : (x == ("__debug__" : Str)) = false := by decide) (hd2 : (y == ("__debug__" : Str)) = false := by decide) (hd3 : (u == ("__debug__" : Str)) = false := by decide) (hcd : (x == ("__classdict__" : Str)) = false := by decide) (hcd2 : (y == ("__classdict__" : Str)) = false := by decide) (hcd3 : (u == ("__classdict__" : Str)) = false := by decide)
    (hm : behindInMarks (if neg then .NotIn else .In) (.Subscript (.Name x p) (.Name y p2) p3) = false := by first | exact nomark _ | rfl) :
    OkV X c pn W (.Compare (.Name u p4) [if neg then .NotIn else .In] [.Subscript (.Name x p) (.Name y p2) p3] pos) (vIn2 neg k i j) := by
  cases neg with
  | true => exact ⟨PE.imp (pe_cmpR (op_notInD hu) (pe_var hN3 hvis3 hd3 hcd3) (pe_ix L2.ix_seq (pe_var hN hvis hd hcd) (pe_var hN2 hvis2 hd2 hcd2) (by intro _ _; rfl)) hm) fun _ _ _ h => in2_rd h⟩
  | false => exact ⟨PE.imp (pe_cmpR (op_inD hu) (pe_var hN3 hvis3 hd3 hcd3) (pe_ix L2.ix_seq (pe_var hN hvis hd hcd) (pe_var hN2 hvis2 hd2 hcd2) (by intro _ _; rfl)) hm) fun _ _ _ h => in2_rd h⟩
theorem ot_in2 (neg : Bool) (k i j : Nat) {x y u : Str} {p p2 p3 p4 pos : Pos} (hu : X.A.units + 1 < cLine) (hN : X.N[i]? = some x := by rfl) (hN2 : X.N[j]? = some y := by rfl) (hN3 : X.N[k]? = some u := by rfl)
    (hvis : Vis X.env.scope x := by first | exact Or.inl rfl | exact Or.inr (Or.inl rfl) | exact Or.inr (Or.inr rfl)) (hvis2 : Vis X.env.scope y := by first | exact Or.inl rfl | exact Or.inr (Or.inl rfl) | exact Or.inr (Or.inr rfl)) (hvis3 : Vis X.env.scope u := by first | exact Or.inl rfl | exact Or.inr (Or.inl rfl) | exact Or.inr (Or.inr rfl))
    (hd : (x == ("__debug__" : Str)) = false := by decide) (hd2 : (y == ("__debug__" : Str)) = false := by decide) (hd3 : (u == ("__debug__" : Str)) = false := by decide) (hcd : (x == ("__classdict__" : Str)) = false := by decide) (hcd2 : (y == ("__classdict__" : Str)) = false := by decide) (hcd3 : (u == ("__classdict__" : Str)) = false := by decide)
    (hm : behindInMarks (if neg then .NotIn else .In) (.Subscript (.Name x p) (.Name y p2) p3) = false := by first | exact nomark _ | rfl) :
    OkT X c pn W (.Compare (.Name u p4) [if neg then .NotIn else .In] [.Subscript (.Name x p) (.Name y p2) p3] pos) (tB (vIn2 neg k i j)) := by
  cases neg with
  | true => exact ot_test (pt_cmpR (op_notInD hu) (pe_var hN3 hvis3 hd3 hcd3) (pe_ix L2.ix_seq (pe_var hN hvis hd hcd) (pe_var hN2 hvis2 hd2 hcd2) (by intro _ _; rfl)) hm) fun _ _ _ h => in2_rd h
  | false => exact ot_test (pt_cmpR (op_inD hu) (pe_var hN3 hvis3 hd3 hcd3) (pe_ix L2.ix_seq (pe_var hN hvis hd hcd) (pe_var hN2 hvis2 hd2 hcd2) (by intro _ _; rfl)) hm) fun _ _ _ h => in2_rd h
end
end Mini

set_option Elab.async false
set_option linter.all false
set_option maxRecDepth 100000
/-! MPure: what the small semantics computes, by steps. -/
namespace Mini
open PySem
/-- m ends well and Q holds behind -/
def Tr {α : Type} (m : M α) (e : Env) (Q : α → Env → Prop) : Prop := ∃ a e', m e = .ok a e' ∧ Q a e'
section
variable {α β : Type} {e : Env}
theorem tr_bnd {m : M α} {f : α → M β} {Q : β → Env → Prop} (h : Tr m e fun a e' => Tr (f a) e' Q) : Tr (bnd m f) e Q := by
  obtain ⟨a, e1, h1, b, e2, h2, q⟩ := h
  exact ⟨b, e2, by rw [bnd_ok h1]; exact h2, q⟩
theorem tr_ret {a : α} {Q : α → Env → Prop} (h : Q a e) : Tr (ret a) e Q := ⟨a, e, rfl, h⟩
theorem tr_opt {o : Option α} {a : α} {Q : α → Env → Prop} (ho : o = some a) (h : Q a e) : Tr (opt o) e Q := by subst ho; exact tr_ret h
theorem Tr.imp {m : M α} {Q Q' : α → Env → Prop} (h : Tr m e Q) (k : ∀ a e', Q a e' → Q' a e') : Tr m e Q' := by
  obtain ⟨a, e1, h1, q⟩ := h
  exact ⟨a, e1, h1, k _ _ q⟩
theorem tr_vC {d : D} {Q : Vl → Env → Prop} (h : Q (0, d) e) : Tr (vC d) e Q := tr_ret h
theorem tr_vVar {i n : Nat} {d : D} {Q : Vl → Env → Prop} (g : getS e i = some (n, d)) (h : Q (0, d) (e.set i (some (0, d)))) : Tr (vVar i) e Q := ⟨_, _, by unfold vVar; rw [g], h⟩
theorem tr_oVar {i : Nat} {v : Vl} {Q : Item → Env → Prop} (g : getS e i = some v) (h : Q (.bor i) e) : Tr (oVar i) e Q := ⟨_, _, by unfold oVar; rw [g], h⟩
theorem tr_oV {m : M Vl} {Q : Item → Env → Prop} (h : Tr m e fun v e' => Q (.val v.2) e') : Tr (oV m) e Q := tr_bnd (h.imp fun a e' q => tr_ret q)
theorem tr_resV {d : D} {Q : D → Env → Prop} (h : Q d e) : Tr (res (.val d)) e Q := tr_ret h
theorem tr_resB {i n : Nat} {d : D} {Q : D → Env → Prop} (g : getS e i = some (n, d)) (h : Q d (e.set i (some (min n 1, d)))) : Tr (res (.bor i)) e Q := ⟨_, _, by simp only [res, g], h⟩
/-- a def's answer -/
def FT (f : FSem) (vs : List Vl) (Q : Vl → Option Vl → Prop) : Prop := ∃ v mu, f vs = .ok v mu ∧ Q v mu
theorem FT.imp {f : FSem} {vs : List Vl} {Q Q' : Vl → Option Vl → Prop} (h : FT f vs Q) (k : ∀ v mu, Q v mu → Q' v mu) : FT f vs Q' := by
  obtain ⟨v, mu, h1, q⟩ := h
  exact ⟨v, mu, h1, k _ _ q⟩
/-- a def that does not change its first argument -/
theorem ft_mk {n p : Nat} {b : M Fl} {vs : List Vl} {Q : Vl → Option Vl → Prop} (hl : vs.length = p) (h : Tr b (startE n vs) fun f _ => match f with | .rt v => Q v none | .nx => Q (0, .non) none | _ => False) : FT (mkF n p false b) vs Q := by
  obtain ⟨f, e', h1, q⟩ := h
  cases f with
  | rt v => exact ⟨v, none, by unfold mkF; rw [if_pos hl, h1]; rfl, q⟩
  | nx => exact ⟨_, none, by unfold mkF; rw [if_pos hl, h1]; rfl, q⟩
  | bk => exact q.elim
  | ct => exact q.elim
/-- .. that changes it -/
theorem ft_mu {n p : Nat} {b : M Fl} {vs : List Vl} {Q : Vl → Option Vl → Prop} (hl : vs.length = p) (h : Tr b (startE n vs) fun f e => ∃ s, getS e 0 = some s ∧ match f with | .rt v => Q v (some s) | .nx => Q (0, .non) (some s) | _ => False) : FT (mkF n p true b) vs Q := by
  obtain ⟨f, e', h1, s, g, q⟩ := h
  cases f with
  | rt v => exact ⟨v, some s, by unfold mkF; rw [if_pos hl, h1]; simp only [mutOf, g], q⟩
  | nx => exact ⟨_, some s, by unfold mkF; rw [if_pos hl, h1]; simp only [mutOf, g], q⟩
  | bk => exact q.elim
  | ct => exact q.elim
theorem seq_ok {a b : M Fl} {e e' : Env} (h : a e = .ok .nx e') : sSeq a b e = b e' := by unfold sSeq; rw [bnd_ok h]
theorem seq_rt {a b : M Fl} {e e' : Env} {v : Vl} (h : a e = .ok (.rt v) e') : sSeq a b e = .ok (.rt v) e' := by unfold sSeq; rw [bnd_ok h]; rfl
theorem set_ok {i : Nat} {m : M Vl} {e e' : Env} {v : Vl} (h : m e = .ok v e') (hi : i < e'.length) : sSet i m e = .ok .nx (e'.set i (some v)) := by
  unfold sSet
  rw [bnd_ok h, bnd_ok (show setS i v e' = .ok () (e'.set i (some v)) by simp only [setS, if_pos hi])]
  rfl
theorem expr_ok {m : M Vl} {e e' : Env} {v : Vl} (h : m e = .ok v e') : sExpr m e = .ok .nx e' := by unfold sExpr; rw [bnd_ok h]; rfl
theorem ret_ok {m : M Vl} {e e' : Env} {v : Vl} (h : m e = .ok v e') : sRet m e = .ok (.rt v) e' := by unfold sRet; rw [bnd_ok h]; rfl
theorem if_tt {t : M Bool} {a b : M Fl} {e e' : Env} (h : t e = .ok true e') : sIf t a b e = a e' := by unfold sIf; rw [bnd_ok h]; rfl
theorem if_ff {t : M Bool} {a b : M Fl} {e e' : Env} (h : t e = .ok false e') : sIf t a b e = b e' := by unfold sIf; rw [bnd_ok h]; rfl
theorem for_run {it : M (List D)} {g : Tg} {b : M Fl} {e e' : Env} {ds : List D} (h : it e = .ok ds e') : sFor it g b e = forL g b ds e' := by unfold sFor; rw [bnd_ok h]
theorem mk_rt {n p : Nat} {b : M Fl} {vs : List Vl} {v : Vl} {e' : Env} (h : b (startE n vs) = .ok (.rt v) e') (hl : vs.length = p) : mkF n p false b vs = .ok v none := by unfold mkF; rw [if_pos hl, h]; rfl
theorem mk_nx {n p : Nat} {b : M Fl} {vs : List Vl} {e' : Env} (h : b (startE n vs) = .ok .nx e') (hl : vs.length = p) : mkF n p false b vs = .ok (0, .non) none := by unfold mkF; rw [if_pos hl, h]; rfl
theorem mu_rt {n p : Nat} {b : M Fl} {vs : List Vl} {v s : Vl} {e' : Env} (h : b (startE n vs) = .ok (.rt v) e') (g : getS e' 0 = some s) (hl : vs.length = p) : mkF n p true b vs = .ok v (some s) := by unfold mkF; rw [if_pos hl, h]; simp only [mutOf, g]
theorem mu_nx {n p : Nat} {b : M Fl} {vs : List Vl} {s : Vl} {e' : Env} (h : b (startE n vs) = .ok .nx e') (g : getS e' 0 = some s) (hl : vs.length = p) : mkF n p true b vs = .ok (0, .non) (some s) := by unfold mkF; rw [if_pos hl, h]; simp only [mutOf, g]
/-- a loop whose turns all end well -/
theorem for_ok {g : Tg} {body : M Fl} {ds : List D} (I : Nat → Env → Prop) {e : Env} (h0 : I 0 e)
    (hs : ∀ i d e, ds[i]? = some d → I i e → ∃ e1 e2, g d e = some e1 ∧ (body e1 = .ok .nx e2 ∨ body e1 = .ok .ct e2) ∧ I (i + 1) e2) : ∃ e', forL g body ds e = .ok .nx e' ∧ I ds.length e' := by
  have key : ∀ (ds' : List D) (i : Nat) (e : Env), i ≤ ds.length → ds.drop i = ds' → I i e → ∃ e', forL g body ds' e = .ok .nx e' ∧ I ds.length e' := by
    intro ds'
    induction ds' with
    | nil =>
      intro i e hl hd hi
      have hl' : ds.length ≤ i := List.drop_eq_nil_iff.mp hd
      have e1 : ds.length = i := by omega
      exact ⟨e, rfl, by rw [e1]; exact hi⟩
    | cons d ds' ih =>
      intro i e hl hd hi
      have hget : ds[i]? = some d := by
        have := congrArg List.head? hd
        rw [List.head?_drop] at this
        simpa using this
      obtain ⟨e1, e2, h1, h2, h3⟩ := hs i d e hget hi
      have hd' : ds.drop (i + 1) = ds' := by
        have := congrArg List.tail hd
        rw [List.tail_drop] at this
        simpa using this
      obtain ⟨e', h4, h5⟩ := ih (i + 1) e2 (List.getElem?_eq_some_iff.mp hget).1 hd' h3
      refine ⟨e', ?_, h5⟩
      unfold forL
      rw [bnd_ok (show tgM g d e = .ok () e1 by simp only [tgM, h1])]
      rcases h2 with h2 | h2
      · rw [bnd_ok h2]; exact h4
      · rw [bnd_ok h2]; exact h4
  exact key ds 0 e (Nat.zero_le _) (by simp) h0
theorem big_ok {j : Int} (h0 : 0 ≤ j) (h1 : j ≤ 1000000) : (bigI j && decide (j ≤ 16777216)) = true := by
  simp only [bigI, Bool.and_eq_true, decide_eq_true_eq]
  omega
theorem big_ok2 {i j : Int} (h0 : 0 ≤ i) (h1 : i ≤ 1000000) (h2 : 0 ≤ j) (h3 : j ≤ 1000000) : (bigI i && bigI j && decide (j - i ≤ 16777216)) = true := by
  simp only [bigI, Bool.and_eq_true, decide_eq_true_eq]
  omega
theorem range1_ok {m : M Item} {e e1 e2 : Env} {x : Item} {j : Int} (h : m e = .ok x e1) (h2 : res x e1 = .ok (.int j) e2) (hj0 : 0 ≤ j) (hj : j ≤ 1000000) : itRange1 m e = .ok (rangeL 0 j) e2 := by
  unfold itRange1
  rw [seqM_one, bnd_ok h]
  show bnd (res x) _ e1 = _
  rw [bnd_ok h2]
  dsimp only
  rw [if_pos (big_ok hj0 hj)]
  rfl
theorem range2_ok {m m' : M Item} {e e1 e2 e3 e4 : Env} {x y : Item} {i j : Int} (h : m e = .ok x e1) (h' : m' e1 = .ok y e2) (h2 : res x e2 = .ok (.int i) e3) (h3 : res y e3 = .ok (.int j) e4) (hi0 : 0 ≤ i) (hi : i ≤ 1000000) (hj0 : 0 ≤ j) (hj : j ≤ 1000000) : itRange2 m m' e = .ok (rangeL i j) e4 := by
  unfold itRange2
  rw [seqM_two, bnd_ok h, bnd_ok h']
  show bnd (res x) _ e2 = _
  rw [bnd_ok h2]
  show bnd (res y) _ e3 = _
  rw [bnd_ok h3]
  dsimp only
  rw [if_pos (big_ok2 hi0 hi hj0 hj)]
  rfl
theorem back_hide {e0 : Env} : ∀ (own : List Nat) {e : Env}, hide own e = hide own e0 → back e0 own e = e0 := by
  intro own e h
  have hl : e.length = e0.length := by
    have := congrArg List.length h
    rw [hide_len, hide_len] at this
    exact this
  apply List.ext_getElem?
  intro j
  by_cases hj : j < e.length
  · rw [env_get, env_get, back_len, if_pos hj, if_pos (by omega), getS_back own e j hj]
    by_cases ho : j ∈ own
    · rw [if_pos ho]
    · rw [if_neg ho]
      have := congrArg (fun x => getS x j) h
      simp only [getS_hide, if_neg ho] at this
      rw [this]
  · rw [List.getElem?_eq_none (by rw [back_len]; omega), List.getElem?_eq_none (by omega)]
/-- a comprehension whose turns leave the rest as it was -/
theorem compL_ok {own : List Nat} {g : Tg} {t : M Bool} {elt : M Vl} (p : D → Bool) (f : D → Vl) : ∀ {ds : List D} {e : Env},
    (∀ d ∈ ds, ∃ e1 e2, g d (hide own e) = some e1 ∧ t e1 = .ok (p d) e2 ∧ (p d = true → ∃ e3, elt e2 = .ok (f d) e3 ∧ hide own e3 = hide own e) ∧ (p d = false → hide own e2 = hide own e)) →
    ∃ e', compL own g t elt ds e = .ok ((ds.filter p).map f) e' ∧ hide own e' = hide own e
  | [], e, _ => ⟨e, rfl, rfl⟩
  | d :: ds, e, h => by
    obtain ⟨e1, e2, h1, h2, h3, h4⟩ := h d List.mem_cons_self
    have key : ∀ {e4 : Env}, hide own e4 = hide own e → ∃ e', compL own g t elt ds e4 = .ok ((ds.filter p).map f) e' ∧ hide own e' = hide own e := by
      intro e4 q
      obtain ⟨e', k1, k2⟩ := compL_ok (own := own) (g := g) (t := t) (elt := elt) p f (ds := ds) (e := e4) fun d' hd' => by
        rw [q]
        exact h d' (List.mem_cons_of_mem _ hd')
      exact ⟨e', k1, k2.trans q⟩
    unfold compL
    rw [bnd_ok (show tgM g d (hide own e) = .ok () e1 by simp only [tgM, h1]), bnd_ok h2]
    cases hp : p d with
    | true =>
      rw [if_pos rfl]
      obtain ⟨e3, k1, k2⟩ := h3 hp
      obtain ⟨e', k3, k4⟩ := key k2
      rw [bnd_ok k1, bnd_ok k3]
      exact ⟨e', by simp [hp, Mini.ret], k4⟩
    | false =>
      rw [if_neg Bool.false_ne_true]
      obtain ⟨e', k3, k4⟩ := key (h4 hp)
      exact ⟨e', by simp [hp, k3], k4⟩
theorem comp_ok {own : List Nat} {it : M (List D)} {g : Tg} {t : M Bool} {elt : M Vl} (p : D → Bool) (f : D → Vl) {e e1 : Env} {ds : List D} (hi : it e = .ok ds e1) (hc : own.all (calmS e1) = true)
    (h : ∀ d ∈ ds, ∃ e2 e3, g d (hide own e1) = some e2 ∧ t e2 = .ok (p d) e3 ∧ (p d = true → ∃ e4, elt e3 = .ok (f d) e4 ∧ hide own e4 = hide own e1) ∧ (p d = false → hide own e3 = hide own e1)) :
    vComp own it g t elt e = .ok (mkLst ((ds.filter p).map f)) e1 := by
  obtain ⟨e', h1, h2⟩ := compL_ok p f h
  unfold vComp
  rw [bnd_ok hi]
  show (if own.all (calmS e1) then _ else _) = _
  rw [if_pos hc, h1]
  show Res.ok _ (back e1 own e') = _
  rw [back_hide own h2]
/-- .. without a test, its values nobody's own -/
theorem comp_map {own : List Nat} {it : M (List D)} {g : Tg} {elt : M Vl} (f : D → D) {e e1 : Env} {ds : List D} (hi : it e = .ok ds e1) (hc : own.all (calmS e1) = true)
    (h : ∀ d ∈ ds, ∃ e2 e4, g d (hide own e1) = some e2 ∧ elt e2 = .ok (0, f d) e4 ∧ hide own e4 = hide own e1) : ∃ n, vComp own it g (Mini.ret true) elt e = .ok (n + 1, .lst (ds.map f)) e1 := by
  have := comp_ok (own := own) (g := g) (t := Mini.ret true) (elt := elt) (fun _ => true) (fun d => (0, f d)) hi hc fun d hd => by
    obtain ⟨e2, e4, h1, h2, h3⟩ := h d hd
    exact ⟨e2, e2, h1, rfl, fun _ => ⟨e4, h2, h3⟩, fun z => nomatch z⟩
  rw [this]
  refine ⟨minOwn ((ds.filter fun _ => true).map fun d => (0, f d)), ?_⟩
  unfold mkLst
  simp [List.filter_eq_self.mpr]
/-- a loop that returns v at the first thing that p does not hold of -/
theorem for_all {g : Tg} {body : M Fl} {v : Vl} {p : D → Bool} (I : Env → Prop) : ∀ {ds : List D} {e : Env}, I e →
    (∀ d ∈ ds, ∀ e, I e → ∃ e1 e2, g d e = some e1 ∧ (if p d then (body e1 = .ok .nx e2 ∨ body e1 = .ok .ct e2) else body e1 = .ok (.rt v) e2) ∧ I e2) →
    ∃ e', forL g body ds e = .ok (if ds.all p then .nx else .rt v) e' ∧ I e'
  | [], e, h0, _ => ⟨e, rfl, h0⟩
  | d :: ds, e, h0, h => by
    obtain ⟨e1, e2, h1, h2, h3⟩ := h d List.mem_cons_self e h0
    unfold forL
    rw [bnd_ok (show tgM g d e = .ok () e1 by simp only [tgM, h1])]
    cases hp : p d with
    | false =>
      rw [hp, if_neg Bool.false_ne_true] at h2
      rw [bnd_ok h2]
      exact ⟨e2, by simp [hp, Mini.ret], h3⟩
    | true =>
      rw [hp, if_pos rfl] at h2
      obtain ⟨e', k1, k2⟩ := for_all I h3 fun d' hd' => h d' (List.mem_cons_of_mem _ hd')
      refine ⟨e', ?_, k2⟩
      rcases h2 with h2 | h2
      · rw [bnd_ok h2]
        simpa [hp] using k1
      · rw [bnd_ok h2]
        simpa [hp] using k1
/-! expressions, by their parts -/
theorem oV_ok {m : M Vl} {e e' : Env} {v : Vl} (h : m e = .ok v e') : oV m e = .ok (.val v.2) e' := by unfold oV; rw [bnd_ok h]; rfl
theorem op1_ok {f : D → Option Vl} {m : M Item} {e e1 e2 : Env} {x : Item} {d : D} {v : Vl} (h : m e = .ok x e1) (h2 : res x e1 = .ok d e2) (hf : f d = some v) : op1 f m e = .ok v e2 := by
  unfold op1
  rw [bnd_ok h, bnd_ok h2, hf]; rfl
theorem op2_ok {f : D → D → Option Vl} {ma mb : M Item} {e e1 e2 e3 e4 : Env} {x y : Item} {d d' : D} {v : Vl} (h : ma e = .ok x e1) (h' : mb e1 = .ok y e2) (h2 : res x e2 = .ok d e3) (h3 : res y e3 = .ok d' e4) (hf : f d d' = some v) : op2 f ma mb e = .ok v e4 := by
  unfold op2
  rw [bnd_ok h, bnd_ok h', bnd_ok h2, bnd_ok h3, hf]; rfl
theorem opN1_ok {f : List D → Option Vl} {m : M Item} {e e1 e2 : Env} {x : Item} {d : D} {v : Vl} (h : m e = .ok x e1) (h2 : res x e1 = .ok d e2) (hf : f [d] = some v) : opN f [m] e = .ok v e2 := by
  unfold opN
  rw [seqM_one, bnd_ok h]
  show bnd (bnd (res x) _) _ e1 = _
  unfold bnd
  rw [h2]
  show opt (f [d]) e2 = _
  rw [hf]; rfl
theorem tB_ok {m : M Vl} {e e' : Env} {n : Nat} {b : Bool} (h : m e = .ok (n, .bl b) e') : tB m e = .ok b e' := by unfold tB; rw [bnd_ok h]; rfl
theorem tNot_ok {t : M Bool} {e e' : Env} {b : Bool} (h : t e = .ok b e') : tNot t e = .ok (!b) e' := by unfold tNot; rw [bnd_ok h]; rfl
theorem tOr_tt {a b : M Bool} {e e' : Env} (h : a e = .ok true e') : tOr a b e = .ok true e' := by unfold tOr; rw [bnd_ok h]; rfl
theorem tOr_ff {a b : M Bool} {e e' : Env} (h : a e = .ok false e') : tOr a b e = b e' := by unfold tOr; rw [bnd_ok h]; rfl
theorem tAnd_tt {a b : M Bool} {e e' : Env} (h : a e = .ok true e') : tAnd a b e = b e' := by unfold tAnd; rw [bnd_ok h]; rfl
theorem tAnd_ff {a b : M Bool} {e e' : Env} (h : a e = .ok false e') : tAnd a b e = .ok false e' := by unfold tAnd; rw [bnd_ok h]; rfl
theorem vAnd_tt {a b : M Vl} {e e' : Env} {n : Nat} (h : a e = .ok (n, .bl true) e') : vAnd a b e = b e' := by unfold vAnd; rw [bnd_ok h]
theorem vAnd_ff {a b : M Vl} {e e' : Env} {n : Nat} (h : a e = .ok (n, .bl false) e') : vAnd a b e = .ok (0, .bl false) e' := by unfold vAnd; rw [bnd_ok h]; rfl
theorem vOr_tt {a b : M Vl} {e e' : Env} {n : Nat} (h : a e = .ok (n, .bl true) e') : vOr a b e = .ok (0, .bl true) e' := by unfold vOr; rw [bnd_ok h]; rfl
theorem vOr_ff {a b : M Vl} {e e' : Env} {n : Nat} (h : a e = .ok (n, .bl false) e') : vOr a b e = b e' := by unfold vOr; rw [bnd_ok h]
theorem seqM_nil_ok {e : Env} : seqM ([] : List (M Item)) e = .ok [] e := rfl
theorem seqM_cons_ok {m : M Item} {ms : List (M Item)} {e e1 e2 : Env} {x : Item} {xs : List Item} (h : m e = .ok x e1) (h' : seqM ms e1 = .ok xs e2) : seqM (m :: ms) e = .ok (x :: xs) e2 := by
  show bnd m _ e = _
  rw [bnd_ok h, bnd_ok h']; rfl
theorem call0_ok {f : FSem} {as : List (M Item)} {e e1 : Env} {xs : List Item} {ds : List D} {v : Vl} {mu : Option Vl} (h : seqM as e = .ok xs e1) (hv : valsOf xs = some ds) (hf : f (ds.map fun d => (0, d)) = .ok v mu) : vCall0 f as e = .ok v e1 := by
  unfold vCall0
  rw [bnd_ok h, hv]
  show (match f (ds.map fun d => (0, d)) with
    | .ok v _ => Res.ok v e1
    | .exc c ns fs _ => .exc c ns fs e1
    | .stuck => .stuck) = _
  rw [hf]
theorem call1_ok {f : FSem} {as : List (M Item)} {e e1 : Env} {i : Nat} {s s' : Vl} {xs : List Item} {ds : List D} {v : Vl} (h : seqM as e = .ok (.bor i :: xs) e1) (hv : valsOf xs = some ds) (g : getS e1 i = some s) (hf : f (s :: ds.map fun d => (0, d)) = .ok v (some s')) : vCall1 f as e = .ok v (e1.set i (some s')) := by
  unfold vCall1
  rw [bnd_ok h]
  dsimp only
  rw [hv]
  show (match getS e1 i with
    | some s => match f (s :: ds.map fun d => (0, d)) with
      | .ok v (some s') => Res.ok v (e1.set i (some s'))
      | .exc c ns fs (some s') => .exc c ns fs (e1.set i (some s'))
      | _ => .stuck
    | none => .stuck) = _
  rw [g]
  dsimp only
  rw [hf]
theorem vRg_tup {m : M (List D)} {e e1 : Env} {ds : List D} (h : m e = .ok ds e1) : vRg true m e = .ok (0, .tup ds) e1 := by unfold vRg; rw [bnd_ok h]; rfl
theorem vRg_lst {m : M (List D)} {e e1 : Env} {ds : List D} (h : m e = .ok ds e1) : vRg false m e = .ok (1, .lst ds) e1 := by unfold vRg; rw [bnd_ok h]; rfl
end
end Mini

set_option Elab.async false
set_option linter.all false
set_option maxRecDepth 100000
/-! MWp: backward rules: what must hold before, so that something holds behind. -/
namespace Mini
open PySem
def InLen (i : Nat) (e : Env) : Prop := i < e.length
theorem in_len {i : Nat} {e : Env} (h : Nat.blt i e.length = true) : InLen i e := Nat.le_of_ble_eq_true h
def FitL (ds : List D) : Prop := ds.length ≤ sLine
theorem fit_l {ds : List D} (h : Nat.ble ds.length sLine = true) : FitL ds := Nat.le_of_ble_eq_true h
def Rng (j : Int) : Prop := 0 ≤ j ∧ j ≤ 1000000
theorem ex_some {α : Type} {o : Option α} {v : α} {P : α → Prop} (h : o = some v) (q : P v) : ∃ v, o = some v ∧ P v := ⟨v, h, q⟩
theorem ex_bl {d : D} {b : Bool} {P : Bool → Prop} (h : d = .bl b) (q : P b) : ∃ b, d = .bl b ∧ P b := ⟨b, h, q⟩
theorem ex_int {d : D} {b : Int} {P : Int → Prop} (h : d = .int b) (q : P b) : ∃ b, d = .int b ∧ P b := ⟨b, h, q⟩
def ItOf (d : D) (ds : List D) : Prop := d = .lst ds ∨ d = .tup ds
def onFl (N : Env → Prop) (K : Fl → Env → Prop) : Fl → Env → Prop
  | .nx, e => N e
  | .rt v, e => K (.rt v) e
  | .bk, e => K .bk e
  | .ct, e => K .ct e
/-- how a loop's turn may end -/
def lpK (I N : Env → Prop) (K : Fl → Env → Prop) : Fl → Env → Prop
  | .nx, _ => False
  | .rt v, e => K (.rt v) e
  | .bk, e => N e
  | .ct, e => I e
/-- a statement ends well: N behind it, or K of how it leaves -/
def St (m : M Fl) (e : Env) (N : Env → Prop) (K : Fl → Env → Prop) : Prop := ∃ f e', m e = .ok f e' ∧ onFl N K f e'
section
variable {α β : Type} {e : Env}
theorem env_same {e : Env} {i : Nat} {v : Vl} (g : getS e i = some v) : e.set i (some v) = e := by
  apply List.ext_getElem?
  intro j
  rw [List.getElem?_set]
  by_cases h : i = j
  · subst h
    rw [if_pos rfl]
    unfold getS at g
    rw [List.getD_eq_getElem?_getD] at g
    by_cases hl : i < e.length
    · rw [if_pos hl]
      rw [List.getElem?_eq_getElem hl] at g ⊢
      exact congrArg some g.symm
    · rw [if_neg hl, List.getElem?_eq_none (by omega)]
  · rw [if_neg h]
theorem tr_vVar0 {i : Nat} {d : D} {Q : Vl → Env → Prop} (g : getS e i = some (0, d)) (h : Q (0, d) e) : Tr (vVar i) e Q := tr_vVar g (by rw [env_same g]; exact h)
theorem tr_resB0 {i : Nat} {d : D} {Q : D → Env → Prop} (g : getS e i = some (0, d)) (h : Q d e) : Tr (res (.bor i)) e Q := tr_resB g (by
  rw [show min 0 1 = 0 from rfl, env_same g]; exact h)
theorem tr_resB1 {i : Nat} {d : D} {Q : D → Env → Prop} (g : getS e i = some (1, d)) (h : Q d e) : Tr (res (.bor i)) e Q := tr_resB g (by
  rw [show min 1 1 = 1 from rfl, env_same g]; exact h)
theorem tr_op1 {f : D → Option Vl} {a : M Item} {Q : Vl → Env → Prop} (h : Tr a e fun x e1 => Tr (res x) e1 fun d e2 => ∃ v, f d = some v ∧ Q v e2) : Tr (op1 f a) e Q :=
  tr_bnd (h.imp fun x e1 q => tr_bnd (q.imp fun d e2 ⟨v, h1, h2⟩ => tr_opt h1 h2))
theorem tr_op2 {f : D → D → Option Vl} {a b : M Item} {Q : Vl → Env → Prop} (h : Tr a e fun x e1 => Tr b e1 fun y e2 => Tr (res x) e2 fun d e3 => Tr (res y) e3 fun d' e4 => ∃ v, f d d' = some v ∧ Q v e4) : Tr (op2 f a b) e Q :=
  tr_bnd (h.imp fun x e1 q => tr_bnd (q.imp fun y e2 q => tr_bnd (q.imp fun d e3 q => tr_bnd (q.imp fun d' e4 ⟨v, h1, h2⟩ => tr_opt h1 h2))))
theorem tr_nil {Q : List Item → Env → Prop} (h : Q [] e) : Tr (seqM []) e Q := tr_ret h
theorem tr_cons {a : M Item} {as : List (M Item)} {Q : List Item → Env → Prop} (h : Tr a e fun x e1 => Tr (seqM as) e1 fun xs e2 => Q (x :: xs) e2) : Tr (seqM (a :: as)) e Q :=
  tr_bnd (h.imp fun x e1 q => tr_bnd (q.imp fun xs e2 q => tr_ret q))
theorem tr_rnil {Q : List D → Env → Prop} (h : Q [] e) : Tr (mapM' res []) e Q := tr_ret h
theorem tr_rcons {a : Item} {as : List Item} {Q : List D → Env → Prop} (h : Tr (res a) e fun x e1 => Tr (mapM' res as) e1 fun xs e2 => Q (x :: xs) e2) : Tr (mapM' res (a :: as)) e Q :=
  tr_bnd (h.imp fun x e1 q => tr_bnd (q.imp fun xs e2 q => tr_ret q))
theorem tr_opN {f : List D → Option Vl} {as : List (M Item)} {Q : Vl → Env → Prop} (h : Tr (seqM as) e fun xs e1 => Tr (mapM' res xs) e1 fun ds e2 => ∃ v, f ds = some v ∧ Q v e2) : Tr (opN f as) e Q :=
  tr_bnd (h.imp fun x e1 q => tr_bnd (q.imp fun d e2 ⟨v, h1, h2⟩ => tr_opt h1 h2))
theorem tr_tB {m : M Vl} {Q : Bool → Env → Prop} (h : Tr m e fun v e' => ∃ b, v.2 = .bl b ∧ Q b e') : Tr (tB m) e Q := tr_bnd (h.imp fun v e' ⟨b, h1, h2⟩ => by
  obtain ⟨n, d⟩ := v
  cases h1
  exact tr_ret h2)
theorem tr_tAnd {a b : M Bool} {Q : Bool → Env → Prop} (h : Tr a e fun x e' => (x = true → Tr b e' Q) ∧ (x = false → Q false e')) : Tr (tAnd a b) e Q := tr_bnd (h.imp fun x e' ⟨h1, h2⟩ => by
  cases x with
  | true => exact h1 rfl
  | false => exact tr_ret (h2 rfl))
theorem tr_tOr {a b : M Bool} {Q : Bool → Env → Prop} (h : Tr a e fun x e' => (x = true → Q true e') ∧ (x = false → Tr b e' Q)) : Tr (tOr a b) e Q := tr_bnd (h.imp fun x e' ⟨h1, h2⟩ => by
  cases x with
  | true => exact tr_ret (h1 rfl)
  | false => exact h2 rfl)
theorem tr_tNot {a : M Bool} {Q : Bool → Env → Prop} (h : Tr a e fun x e' => Q (!x) e') : Tr (tNot a) e Q := tr_bnd (h.imp fun x e' q => tr_ret q)
theorem tr_vBool {a : M Bool} {Q : Vl → Env → Prop} (h : Tr a e fun x e' => Q (0, .bl x) e') : Tr (vBool a) e Q := tr_bnd (h.imp fun x e' q => tr_ret q)
theorem tr_vIf {t : M Bool} {a b : M Vl} {Q : Vl → Env → Prop} (h : Tr t e fun x e' => (x = true → Tr a e' Q) ∧ (x = false → Tr b e' Q)) : Tr (vIf t a b) e Q := tr_bnd (h.imp fun x e' ⟨h1, h2⟩ => by
  cases x with
  | true => exact h1 rfl
  | false => exact h2 rfl)
theorem tr_itV {m : M Vl} {Q : List D → Env → Prop} (h : Tr m e fun v e' => ∃ ds, ItOf v.2 ds ∧ Q ds e') : Tr (itV m) e Q := tr_bnd (h.imp fun v e' ⟨ds, h1, h2⟩ => by
  obtain ⟨n, d⟩ := v
  rcases h1 with h1 | h1 <;> (dsimp only at h1; subst h1; exact tr_ret h2))
theorem tr_range1 {m : M Item} {Q : List D → Env → Prop} (h : Tr m e fun x e1 => Tr (res x) e1 fun d e2 => ∃ j : Int, d = .int j ∧ Rng j ∧ Q (rangeL 0 j) e2) : Tr (itRange1 m) e Q := by
  obtain ⟨x, e1, h1, d, e2, h2, j, rfl, ⟨h3, h4⟩, h5⟩ := h
  exact ⟨_, _, range1_ok h1 h2 h3 h4, h5⟩
theorem tr_vRgT {m : M (List D)} {Q : Vl → Env → Prop} (h : Tr m e fun ds e' => Q (0, .tup ds) e') : Tr (vRg true m) e Q := by
  obtain ⟨ds, e1, h1, q⟩ := h
  exact ⟨_, _, vRg_tup h1, q⟩
theorem tr_vRgL {m : M (List D)} {Q : Vl → Env → Prop} (h : Tr m e fun ds e' => Q (1, .lst ds) e') : Tr (vRg false m) e Q := by
  obtain ⟨ds, e1, h1, q⟩ := h
  exact ⟨_, _, vRg_lst h1, q⟩
theorem tr_call0 {f : FSem} {as : List (M Item)} {Q : Vl → Env → Prop} (h : Tr (seqM as) e fun xs e1 => ∃ ds, valsOf xs = some ds ∧ FT f (ds.map fun d => (0, d)) fun v _ => Q v e1) : Tr (vCall0 f as) e Q := by
  obtain ⟨xs, e1, h1, ds, h2, v, mu, h3, q⟩ := h
  exact ⟨v, e1, call0_ok h1 h2 h3, q⟩
theorem tr_call1 {f : FSem} {as : List (M Item)} {Q : Vl → Env → Prop} (h : Tr (seqM as) e fun xs e1 => ∃ i ys ds s, xs = .bor i :: ys ∧ valsOf ys = some ds ∧ getS e1 i = some s ∧ FT f (s :: ds.map fun d => (0, d)) fun v mu => ∃ s', mu = some s' ∧ Q v (e1.set i (some s'))) : Tr (vCall1 f as) e Q := by
  obtain ⟨xs, e1, h1, i, ys, ds, s, rfl, h2, g, v, mu, h3, s', rfl, q⟩ := h
  exact ⟨v, _, call1_ok h1 h2 g h3, q⟩
theorem tr_vTup {as : List (M Item)} {Q : Vl → Env → Prop} (h : Tr (seqM as) e fun xs e1 => ∃ ds, valsOf xs = some ds ∧ FitL ds ∧ Q (0, .tup ds) e1) : Tr (vTup as) e Q := by
  obtain ⟨xs, e1, h1, ds, h2, hl, q⟩ := h
  refine ⟨_, e1, ?_, q⟩
  unfold vTup
  rw [bnd_ok h1, h2]
  show (if ds.length ≤ sLine then ret (0, D.tup ds) else stk) e1 = _
  rw [if_pos (show ds.length ≤ sLine from hl)]; rfl
theorem tr_vLst {as : List (M Item)} {Q : Vl → Env → Prop} (h : Tr (seqM as) e fun xs e1 => ∃ ds, valsOf xs = some ds ∧ FitL ds ∧ Q (1, .lst ds) e1) : Tr (vLst as) e Q := by
  obtain ⟨xs, e1, h1, ds, h2, hl, q⟩ := h
  refine ⟨_, e1, ?_, q⟩
  unfold vLst
  rw [bnd_ok h1, h2]
  show (if ds.length ≤ sLine then ret (1, D.lst ds) else stk) e1 = _
  rw [if_pos (show ds.length ≤ sLine from hl)]; rfl
/-! more expressions -/
theorem tr_vAnd {a b : M Vl} {Q : Vl → Env → Prop} (h : Tr a e fun v e' => ∃ x, v.2 = .bl x ∧ (x = true → Tr b e' Q) ∧ (x = false → Q (0, .bl false) e')) : Tr (vAnd a b) e Q := by
  obtain ⟨⟨n, d⟩, e', h1, x, h2, h3, h4⟩ := h
  cases h2
  cases x with
  | true =>
    obtain ⟨w, e2, k1, k2⟩ := h3 rfl
    exact ⟨w, e2, by rw [vAnd_tt h1, k1], k2⟩
  | false => exact ⟨_, e', vAnd_ff h1, h4 rfl⟩
theorem tr_vOr {a b : M Vl} {Q : Vl → Env → Prop} (h : Tr a e fun v e' => ∃ x, v.2 = .bl x ∧ (x = true → Q (0, .bl true) e') ∧ (x = false → Tr b e' Q)) : Tr (vOr a b) e Q := by
  obtain ⟨⟨n, d⟩, e', h1, x, h2, h3, h4⟩ := h
  cases h2
  cases x with
  | true => exact ⟨_, e', vOr_tt h1, h3 rfl⟩
  | false =>
    obtain ⟨w, e2, k1, k2⟩ := h4 rfl
    exact ⟨w, e2, by rw [vOr_ff h1, k1], k2⟩
theorem tr_vIsI {ts : List Ty} {a : M Item} {Q : Vl → Env → Prop} (h : Tr a e fun x e1 => Tr (res x) e1 fun d e2 => ∃ b, tyAny ts d = some b ∧ Q (0, .bl b) e2) : Tr (vIsI ts a) e Q :=
  tr_op1 (h.imp fun x e1 q => q.imp fun d e2 ⟨b, h1, h2⟩ => ⟨_, by rw [h1]; rfl, h2⟩)
theorem tr_cutNN {a : M Item} {Q : Vl → Env → Prop} (h : Tr a e fun x e1 => Tr (res x) e1 fun d e2 => ∃ v, fCut none none d = some v ∧ Q v e2) : Tr (vCut a none none) e Q := by
  unfold vCut oPart
  exact tr_bnd (h.imp fun x e1 q => tr_bnd (tr_ret (tr_bnd (tr_ret (tr_bnd (q.imp fun d e2 ⟨v, h1, h2⟩ => tr_opt h1 h2))))))
theorem tr_cutNS {a b : M Item} {Q : Vl → Env → Prop} (h : Tr a e fun x e1 => Tr b e1 fun y e2 => Tr (res y) e2 fun d' e3 => ∃ j, d' = .int j ∧ Tr (res x) e3 fun d e4 => ∃ v, fCut none (some j) d = some v ∧ Q v e4) : Tr (vCut a none (some b)) e Q := by
  unfold vCut oPart
  refine tr_bnd (h.imp fun x e1 q => tr_bnd (tr_ret (tr_bnd (tr_bnd (q.imp fun y e2 q => tr_bnd (q.imp fun d' e3 ⟨j, hj, q⟩ => tr_bnd (tr_opt (a := j) (by rw [hj]; rfl) (tr_ret (tr_bnd (q.imp fun d e4 ⟨v, h1, h2⟩ => tr_opt h1 h2))))))))))
theorem tr_cutSN {a b : M Item} {Q : Vl → Env → Prop} (h : Tr a e fun x e1 => Tr b e1 fun y e2 => Tr (res y) e2 fun d' e3 => ∃ j, d' = .int j ∧ Tr (res x) e3 fun d e4 => ∃ v, fCut (some j) none d = some v ∧ Q v e4) : Tr (vCut a (some b) none) e Q := by
  unfold vCut oPart
  refine tr_bnd (h.imp fun x e1 q => tr_bnd (tr_bnd (q.imp fun y e2 q => tr_bnd (q.imp fun d' e3 ⟨j, hj, q⟩ => tr_bnd (tr_opt (a := j) (by rw [hj]; rfl) (tr_ret (tr_bnd (tr_ret (tr_bnd (q.imp fun d e4 ⟨v, h1, h2⟩ => tr_opt h1 h2))))))))))
theorem it_lst {ds : List D} : ItOf (.lst ds) ds := .inl rfl
theorem it_tup {ds : List D} : ItOf (.tup ds) ds := .inr rfl
theorem ex_itL {ds : List D} {P : List D → Prop} (q : P ds) : ∃ ds', ItOf (.lst ds) ds' ∧ P ds' := ⟨ds, .inl rfl, q⟩
theorem ex_itT {ds : List D} {P : List D → Prop} (q : P ds) : ∃ ds', ItOf (.tup ds) ds' ∧ P ds' := ⟨ds, .inr rfl, q⟩
theorem ex_call1 {i : Nat} {ys : List Item} {ds : List D} {s : Vl} {e : Env} {P : Nat → List D → Vl → Prop} (h : valsOf ys = some ds) (g : getS e i = some s) (q : P i ds s) : ∃ i' ys' ds' s', .bor i :: ys = .bor i' :: ys' ∧ valsOf ys' = some ds' ∧ getS e i' = some s' ∧ P i' ds' s' := ⟨i, ys, ds, s, rfl, h, g, q⟩
/-! statements -/
variable {N : Env → Prop} {K : Fl → Env → Prop}
theorem st_next (h : N e) : St sNext e N K := ⟨.nx, e, rfl, h⟩
theorem st_seq {a b : M Fl} (h : St a e (fun e' => St b e' N K) K) : St (sSeq a b) e N K := by
  obtain ⟨f, e', h1, q⟩ := h
  cases f with
  | nx =>
    obtain ⟨f2, e2, h2, q2⟩ := q
    exact ⟨f2, e2, by rw [seq_ok h1, h2], q2⟩
  | rt v => exact ⟨.rt v, e', by unfold sSeq; rw [bnd_ok h1]; rfl, q⟩
  | bk => exact ⟨.bk, e', by unfold sSeq; rw [bnd_ok h1]; rfl, q⟩
  | ct => exact ⟨.ct, e', by unfold sSeq; rw [bnd_ok h1]; rfl, q⟩
theorem st_set {i : Nat} {m : M Vl} (h : Tr m e fun v e' => InLen i e' ∧ N (e'.set i (some v))) : St (sSet i m) e N K := by
  obtain ⟨v, e', h1, hl, q⟩ := h
  exact ⟨.nx, _, set_ok h1 hl, q⟩
theorem st_expr {m : M Vl} (h : Tr m e fun v e' => N e') : St (sExpr m) e N K := by
  obtain ⟨v, e', h1, q⟩ := h
  exact ⟨.nx, _, expr_ok h1, q⟩
theorem st_ret {m : M Vl} (h : Tr m e fun v e' => K (.rt v) e') : St (sRet m) e N K := by
  obtain ⟨v, e', h1, q⟩ := h
  exact ⟨.rt v, _, ret_ok h1, q⟩
theorem st_if {t : M Bool} {a b : M Fl} (h : Tr t e fun x e' => (x = true → St a e' N K) ∧ (x = false → St b e' N K)) : St (sIf t a b) e N K := by
  obtain ⟨x, e', h1, h2, h3⟩ := h
  cases x with
  | true =>
    obtain ⟨f, e2, k1, k2⟩ := h2 rfl
    exact ⟨f, e2, by rw [if_tt h1, k1], k2⟩
  | false =>
    obtain ⟨f, e2, k1, k2⟩ := h3 rfl
    exact ⟨f, e2, by rw [if_ff h1, k1], k2⟩
theorem st_par2 {i j : Nat} {a b : M Vl} (h : Tr a e fun v e1 => Tr b e1 fun w e2 => InLen i e2 ∧ InLen j e2 ∧ N ((e2.set i (some v)).set j (some w))) : St (sPar2 i j a b) e N K := by
  obtain ⟨v, e1, h1, w, e2, h2, l1, l2, q⟩ := h
  unfold InLen at l1 l2
  refine ⟨.nx, _, ?_, q⟩
  unfold sPar2
  rw [bnd_ok h1, bnd_ok h2, bnd_ok (show setS i v e2 = .ok () (e2.set i (some v)) by simp only [setS, if_pos l1]), bnd_ok (show setS j w (e2.set i (some v)) = .ok () ((e2.set i (some v)).set j (some w)) by simp only [setS, List.length_set, if_pos l2])]
  rfl
theorem st_par3 {i j k : Nat} {a b c : M Vl} (h : Tr a e fun v e1 => Tr b e1 fun w e2 => Tr c e2 fun u e3 => InLen i e3 ∧ InLen j e3 ∧ InLen k e3 ∧ N (((e3.set i (some v)).set j (some w)).set k (some u))) : St (sPar3 i j k a b c) e N K := by
  obtain ⟨v, e1, h1, w, e2, h2, u, e3, h3, l1, l2, l3, q⟩ := h
  unfold InLen at l1 l2 l3
  refine ⟨.nx, _, ?_, q⟩
  unfold sPar3
  rw [bnd_ok h1, bnd_ok h2, bnd_ok h3, bnd_ok (show setS i v e3 = .ok () (e3.set i (some v)) by simp only [setS, if_pos l1]), bnd_ok (show setS j w (e3.set i (some v)) = .ok () ((e3.set i (some v)).set j (some w)) by simp only [setS, List.length_set, if_pos l2]), bnd_ok (show setS k u ((e3.set i (some v)).set j (some w)) = .ok () (((e3.set i (some v)).set j (some w)).set k (some u)) by simp only [setS, List.length_set, if_pos l3])]
  rfl
theorem st_asg {g : Tg} {m : M Vl} (h : Tr m e fun v e' => ∃ e'', g v.2 e' = some e'' ∧ N e'') : St (sAsg g m) e N K := by
  obtain ⟨v, e', h1, e'', h2, q⟩ := h
  exact ⟨.nx, e'', by unfold sAsg; rw [bnd_ok h1, bnd_ok (show tgM g v.2 e' = .ok () e'' by simp only [tgM, h2])]; rfl, q⟩
theorem st_for {it : M (List D)} {g : Tg} {b : M Fl} (h : Tr it e fun ds e' => St (forL g b ds) e' N K) : St (sFor it g b) e N K := by
  obtain ⟨ds, e', h1, f, e2, h2, q⟩ := h
  exact ⟨f, e2, by rw [for_run h1, h2], q⟩
/-- a loop, by what holds ahead of each turn -/
theorem st_loop {g : Tg} {body : M Fl} {ds : List D} (I : Nat → Env → Prop) (h0 : I 0 e)
    (hs : ∀ i d e, ds[i]? = some d → I i e → ∃ e1, g d e = some e1 ∧ St body e1 (I (i + 1)) (lpK (I (i + 1)) N K))
    (he : ∀ e, I ds.length e → N e) : St (forL g body ds) e N K := by
  have key : ∀ (ds' : List D) (i : Nat) (e : Env), i ≤ ds.length → ds.drop i = ds' → I i e → St (forL g body ds') e N K := by
    intro ds'
    induction ds' with
    | nil =>
      intro i e hl hd hi
      have hl' : ds.length ≤ i := List.drop_eq_nil_iff.mp hd
      have e1 : ds.length = i := by omega
      exact ⟨.nx, e, rfl, he e (by rw [e1]; exact hi)⟩
    | cons d ds' ih =>
      intro i e hl hd hi
      have hget : ds[i]? = some d := by
        have := congrArg List.head? hd
        rw [List.head?_drop] at this
        simpa using this
      obtain ⟨e1, h1, f, e2, h2, h3⟩ := hs i d e hget hi
      have hd' : ds.drop (i + 1) = ds' := by
        have := congrArg List.tail hd
        rw [List.tail_drop] at this
        simpa using this
      have go : ∀ {e2}, I (i + 1) e2 → St (forL g body ds') e2 N K := fun h => ih (i + 1) _ (List.getElem?_eq_some_iff.mp hget).1 hd' h
      have hb : ∀ {x}, forL g body (d :: ds') e = x ↔ bnd body (fun f => match f with
          | .nx => forL g body ds'
          | .ct => forL g body ds'
          | .bk => Mini.ret .nx
          | .rt v => Mini.ret (.rt v)) e1 = x := by
        intro x
        show bnd (tgM g d) _ e = x ↔ _
        rw [bnd_ok (show tgM g d e = .ok () e1 by simp only [tgM, h1])] <;> exact Iff.rfl
      cases f with
      | nx =>
        obtain ⟨f3, e3, k1, k2⟩ := go h3
        exact ⟨f3, e3, hb.mpr (by rw [bnd_ok h2]; exact k1), k2⟩
      | ct =>
        obtain ⟨f3, e3, k1, k2⟩ := go h3
        exact ⟨f3, e3, hb.mpr (by rw [bnd_ok h2]; exact k1), k2⟩
      | bk => exact ⟨.nx, e2, hb.mpr (by rw [bnd_ok h2]; rfl), h3⟩
      | rt v => exact ⟨.rt v, e2, hb.mpr (by rw [bnd_ok h2]; rfl), h3⟩
  exact key ds 0 e (Nat.zero_le _) (by simp) h0
/-- a loop that leaves by v at the first thing that p does not hold of -/
theorem st_all {g : Tg} {body : M Fl} {p : D → Bool} {v : Vl} (I : Env → Prop) : ∀ {ds : List D} {e : Env}, I e →
    (∀ d ∈ ds, ∀ e, I e → ∃ e1, g d e = some e1 ∧ St body e1 (fun e2 => p d = true ∧ I e2) fun f e2 => f = .rt v ∧ p d = false ∧ I e2) →
    (∀ e, I e → (ds.all p = true → N e) ∧ (ds.all p = false → K (.rt v) e)) → St (forL g body ds) e N K
  | [], e, h0, _, he => ⟨.nx, e, rfl, (he e h0).1 rfl⟩
  | d :: ds, e, h0, h, he => by
    obtain ⟨e1, h1, f, e2, h2, h3⟩ := h d List.mem_cons_self e h0
    have hb : ∀ {x}, forL g body (d :: ds) e = x ↔ bnd body (fun f => match f with
          | .nx => forL g body ds
          | .ct => forL g body ds
          | .bk => Mini.ret .nx
          | .rt v => Mini.ret (.rt v)) e1 = x := by
        intro x
        show bnd (tgM g d) _ e = x ↔ _
        rw [bnd_ok (show tgM g d e = .ok () e1 by simp only [tgM, h1])] <;> exact Iff.rfl
    cases f with
    | nx =>
      obtain ⟨hp, hi⟩ : p d = true ∧ I e2 := h3
      obtain ⟨f3, e3, k1, k2⟩ := st_all (g := g) (body := body) (p := p) (v := v) I hi (fun d' hd' => h d' (List.mem_cons_of_mem _ hd')) (fun e q => by
        have := he e q
        rw [List.all_cons, hp, Bool.true_and] at this
        exact this)
      exact ⟨f3, e3, hb.mpr (by rw [bnd_ok h2]; exact k1), k2⟩
    | rt w =>
      obtain ⟨hv, hp, hi⟩ : Fl.rt w = .rt v ∧ p d = false ∧ I e2 := h3
      cases hv
      refine ⟨.rt v, e2, hb.mpr (by rw [bnd_ok h2]; rfl), (he e2 hi).2 ?_⟩
      rw [List.all_cons, hp]; rfl
    | bk => exact absurd (show Fl.bk = .rt v ∧ p d = false ∧ I e2 from h3).1 (fun z => nomatch z)
    | ct => exact absurd (show Fl.ct = .rt v ∧ p d = false ∧ I e2 from h3).1 (fun z => nomatch z)
theorem tr_eq {m : M α} {a : α} {e' : Env} (h : Tr m e fun w e2 => w = a ∧ e2 = e') : m e = .ok a e' := by
  obtain ⟨w, e2, h1, rfl, rfl⟩ := h
  exact h1
theorem vAnd_b {a b : M Vl} {x y : Bool} (ha : a e = .ok (0, .bl x) e) (hb : x = true → b e = .ok (0, .bl y) e) : vAnd a b e = .ok (0, .bl (x && y)) e := by
  cases x with
  | true => rw [vAnd_tt ha]; exact hb rfl
  | false => rw [vAnd_ff ha]; rfl
theorem vOr_b {a b : M Vl} {x y : Bool} (ha : a e = .ok (0, .bl x) e) (hb : x = false → b e = .ok (0, .bl y) e) : vOr a b e = .ok (0, .bl (x || y)) e := by
  cases x with
  | true => rw [vOr_tt ha]; rfl
  | false => rw [vOr_ff ha]; exact hb rfl
theorem tAnd_b {a b : M Bool} {x y : Bool} (ha : a e = .ok x e) (hb : x = true → b e = .ok y e) : tAnd a b e = .ok (x && y) e := by
  cases x with
  | true => rw [tAnd_tt ha]; exact hb rfl
  | false => rw [tAnd_ff ha]; rfl
theorem tOr_b {a b : M Bool} {x y : Bool} (ha : a e = .ok x e) (hb : x = false → b e = .ok y e) : tOr a b e = .ok (x || y) e := by
  cases x with
  | true => rw [tOr_tt ha]; rfl
  | false => rw [tOr_ff ha]; exact hb rfl
theorem comp_map2 {own : List Nat} {it : M (List D)} {g : Tg} {elt : M Vl} (f : D → D) {e e1 : Env} {ds : List D} (hi : it e = .ok ds e1) (hc : own.all (calmS e1) = true)
    (h : ∀ d ∈ ds, ∃ e2, g d (hide own e1) = some e2 ∧ hide own e2 = hide own e1 ∧ elt e2 = .ok (0, f d) e2) : ∃ n, vComp own it g (Mini.ret true) elt e = .ok (n + 1, .lst (ds.map f)) e1 :=
  comp_map f hi hc fun d hd => by
    obtain ⟨e2, h1, h2, h3⟩ := h d hd
    exact ⟨e2, e2, h1, h3, h2⟩
theorem ft_eq {f : FSem} {vs : List Vl} {v : Vl} {mu : Option Vl} (h : FT f vs fun w m => w = v ∧ m = mu) : f vs = .ok v mu := by
  obtain ⟨w, m, h1, rfl, rfl⟩ := h
  exact h1
theorem st_of {m : M Fl} {f : Fl} {e' : Env} (h : m e = .ok f e') (q : onFl N K f e') : St m e N K := ⟨f, e', h, q⟩
theorem tr_of {m : M α} {a : α} {e' : Env} {Q : α → Env → Prop} (h : m e = .ok a e') (q : Q a e') : Tr m e Q := ⟨a, e', h, q⟩
theorem ft_of {f : FSem} {vs : List Vl} {v : Vl} {mu : Option Vl} {Q : Vl → Option Vl → Prop} (h : f vs = .ok v mu) (q : Q v mu) : FT f vs Q := ⟨v, mu, h, q⟩
/-- a def that changes nothing that is passed -/
theorem ft_st0 {n p : Nat} {b : M Fl} {vs : List Vl} {Q : Vl → Option Vl → Prop} (hl : vs.length = p) (h : St b (startE n vs) (fun _ => Q (0, .non) none) fun f _ => ∃ v, f = .rt v ∧ Q v none) : FT (mkF n p false b) vs Q := by
  obtain ⟨f, e', h1, q⟩ := h
  refine ft_mk hl ⟨f, e', h1, ?_⟩
  cases f with
  | nx => exact q
  | rt v => obtain ⟨w, h2, h3⟩ := q; cases h2; exact h3
  | bk => obtain ⟨w, h2, h3⟩ := q; cases h2
  | ct => obtain ⟨w, h2, h3⟩ := q; cases h2
/-- .. that changes its first argument -/
theorem ft_st1 {n p : Nat} {b : M Fl} {vs : List Vl} {Q : Vl → Option Vl → Prop} (hl : vs.length = p) (h : St b (startE n vs) (fun e => ∃ s, getS e 0 = some s ∧ Q (0, .non) (some s)) fun f e => ∃ v s, f = .rt v ∧ getS e 0 = some s ∧ Q v (some s)) : FT (mkF n p true b) vs Q := by
  obtain ⟨f, e', h1, q⟩ := h
  refine ft_mu hl ⟨f, e', h1, ?_⟩
  cases f with
  | nx => exact q
  | rt v => obtain ⟨w, s, h2, g, h3⟩ := q; cases h2; exact ⟨s, g, h3⟩
  | bk => obtain ⟨w, s, h2, g, h3⟩ := q; cases h2
  | ct => obtain ⟨w, s, h2, g, h3⟩ := q; cases h2
theorem putK_keys {ks : List Key} {ds : List D} {x : Key} {y : D} (h : ks.Nodup) : (putK ks ds x y).1.Nodup ∧ (putK ks ds x y).1.length ≤ ks.length + 1 ∧ ∀ k, k ∈ (putK ks ds x y).1 ↔ k ∈ ks ∨ k = x := by
  unfold putK
  split
  · rename_i hx
    obtain ⟨k, hk, hkx⟩ := List.any_eq_true.mp hx
    have hkx : k = x := by simpa using hkx
    refine ⟨h, Nat.le_succ _, fun q => ⟨.inl, fun z => z.elim id fun z => by rw [z, ← hkx]; exact hk⟩⟩
  · rename_i hx
    have hn : x ∉ ks := fun z => hx (List.any_eq_true.mpr ⟨x, z, by simp⟩)
    refine ⟨?_, by simp, fun q => by simp⟩
    rw [List.nodup_append]
    exact ⟨h, by simp, fun a ha b hb => by
      rw [List.mem_singleton] at hb
      subst hb
      exact fun z => hn (z ▸ ha)⟩
theorem dc_ok {i : Nat} {d0 : D} : ∀ (ns : List Int) (ks : List Key) (dl : List D) (e : Env), i < e.length → ks.length + ns.length ≤ 1000 → ks.Nodup →
    ∃ ks' dl' e', dcL [i] (gVar i) (Mini.ret true) (vVar i) (vC d0) (ns.map D.int) (ks, dl) e = .ok (ks', dl') e' ∧ hide [i] e' = hide [i] e ∧ ks'.Nodup ∧ ∀ k, k ∈ ks' ↔ k ∈ ks ∨ ∃ n ∈ ns, k = .inl n
  | [], ks, dl, e, _, _, hn => ⟨ks, dl, e, rfl, rfl, hn, fun k => by simp⟩
  | n :: ns, ks, dl, e, hi, hl, hn => by
    have hlt : ks.length < sLine := by
      have : (1000 : Nat) < sLine := by decide
      simp at hl
      omega
    have p := putK_keys (ds := dl) (x := .inl n) (y := d0) hn
    have hh : hide [i] e = e.set i none := rfl
    have h1 : gVar i (.int n) (hide [i] e) = some ((e.set i none).set i (some (0, .int n))) := by
      unfold gVar
      rw [hh, if_pos (by rw [List.length_set]; exact hi)]
    have hs : getS ((e.set i none).set i (some (0, .int n))) i = some (0, .int n) := by
      unfold getS
      simp [List.getD_eq_getElem?_getD, hi]
    have hv : oV (vVar i) ((e.set i none).set i (some (0, .int n))) = .ok (.val (.int n)) ((e.set i none).set i (some (0, .int n))) := oV_ok (v := (0, .int n)) (tr_eq (tr_vVar0 hs ⟨rfl, rfl⟩))
    obtain ⟨ks', dl', e', k1, k2, k3, k4⟩ := dc_ok (i := i) (d0 := d0) ns (putK ks dl (.inl n) d0).1 (putK ks dl (.inl n) d0).2 ((e.set i none).set i (some (0, .int n))) (by simpa using hi) (by simp at hl; omega) p.1
    refine ⟨ks', dl', e', ?_, ?_, k3, fun k => ?_⟩
    · rw [List.map_cons]
      unfold dcL
      rw [bnd_ok (show tgM (gVar i) (.int n) (hide [i] e) = .ok () ((e.set i none).set i (some (0, .int n))) by simp only [tgM, h1])]
      show bnd (oV (vVar i)) _ _ = _
      rw [bnd_ok hv]
      show (if ks.length < sLine then (dcL [i] (gVar i) (Mini.ret true) (vVar i) (vC d0) (ns.map D.int) (putK ks dl (.inl n) d0)) else stk) ((e.set i none).set i (some (0, .int n))) = _
      rw [if_pos hlt]
      exact k1
    · rw [k2]
      simp [hide]
    · rw [k4, p.2.2]
      simp only [List.mem_cons]
      constructor
      · rintro ((h | h) | ⟨m, hm, h⟩)
        · exact .inl h
        · exact .inr ⟨n, .inl rfl, h⟩
        · exact .inr ⟨m, .inr hm, h⟩
      · rintro (h | ⟨m, (rfl | hm), h⟩)
        · exact .inl (.inl h)
        · exact .inl (.inr h)
        · exact .inr ⟨m, hm, h⟩
theorem dcomp_ok {i : Nat} {d0 : D} {it : M (List D)} {e e1 : Env} {ns : List Int} (hit : it e = .ok (ns.map D.int) e1) (hc : [i].all (calmS e1) = true) (hi : i < e1.length) (hl : ns.length ≤ 1000) :
    ∃ ks dl, vDComp [i] it (gVar i) (Mini.ret true) (vVar i) (vC d0) e = .ok (1, .dK ks dl) e1 ∧ ks.length = (difI ns).length := by
  obtain ⟨ks, dl, e', h1, h2, h3, h4⟩ := dc_ok (i := i) (d0 := d0) ns [] [] e1 hi (by simpa using hl) List.nodup_nil
  refine ⟨ks, dl, ?_, ?_⟩
  · unfold vDComp
    rw [bnd_ok hit]
    show (if [i].all (calmS e1) then _ else _) = _
    rw [if_pos hc, h1]
    show Res.ok _ (back e1 [i] e') = _
    rw [back_hide [i] h2]
  · have hp : ks.Perm ((difI ns).map Sum.inl) := by
      rw [List.perm_ext_iff_of_nodup h3]
      · intro k
        rw [h4]
        simp only [List.not_mem_nil, false_or, List.mem_map, mem_difI]
        exact ⟨fun ⟨n, hn, h⟩ => ⟨n, hn, h.symm⟩, fun ⟨n, hn, h⟩ => ⟨n, hn, h.symm⟩⟩
      · have := nodup_difI ns
        exact List.Pairwise.map _ (fun a b h z => h (Sum.inl.inj z)) this
    rw [hp.length_eq, List.length_map]
end
end Mini

set_option Elab.async false
set_option linter.all false
set_option maxRecDepth 100000
set_option maxHeartbeats 1000000
namespace Law
open PySem L2 Mini
def top (i : Nat) : Stmt := PySem.Challenge.pw_anytaste_k60_papers_of_orders_judged.main.body.getD i (.Pass ⟨0, 0, 0, 0⟩)
abbrev cc (K : PySem.W.Frag) (A : Nat → Addr) : Mini.Ctx := ⟨K, ⟨A, 4⟩⟩
abbrev st_Against_eq : Stmt := inClass (top 33) 1
abbrev st_frozen : Stmt := top 10
abbrev st_Against_init : Stmt := inClass (top 33) 0
abbrev st_Choices_eq : Stmt := inClass (top 23) 1
abbrev st_is_list : Stmt := top 16
abbrev st_is_whole : Stmt := top 12
abbrev st_is_index : Stmt := top 17
abbrev st_is_lot_of : Stmt := top 18
abbrev st_is_choice : Stmt := top 22
abbrev st_is_name : Stmt := top 19
abbrev st_names_looked : Stmt := top 20
abbrev st_Choices_init : Stmt := inClass (top 23) 0
abbrev st_Order_eq : Stmt := inClass (top 24) 1
abbrev st_Order_init : Stmt := inClass (top 24) 0
abbrev st_Upward_eq : Stmt := inClass (top 32) 1
abbrev st_Upward_init : Stmt := inClass (top 32) 0
abbrev st_law_first : Stmt := top 42
abbrev st_law_is_int : Stmt := top 48
abbrev st_law_against_right : Stmt := top 53
abbrev st_law_orders : Stmt := top 43
abbrev st_law_agreeing : Stmt := top 50
abbrev st_law_draw : Stmt := top 45
abbrev st_law_pen : Stmt := top 44
abbrev st_law_pick : Stmt := top 46
abbrev st_law_shuffled : Stmt := top 47
abbrev st_law_some_list : Stmt := top 41
abbrev st_law_single_rows : Stmt := top 49
abbrev st_law_some_rows : Stmt := top 54
abbrev st_law_things : Stmt := top 51
abbrev st_law_up_right : Stmt := top 52
abbrev st_first_of : Stmt := top 28
abbrev st_agrees_with : Stmt := top 38
abbrev st_is_order_of : Stmt := top 27
abbrev st_told_pairs : Stmt := top 29
abbrev st_least_order : Stmt := top 30
abbrev st_is_single : Stmt := top 25
abbrev st_single_looked : Stmt := top 26
abbrev st_agreeing_looked : Stmt := top 34
abbrev st_thing_told : Stmt := top 35
abbrev st_two_things : Stmt := top 36
abbrev st_against_holds : Stmt := top 39
abbrev st_upward_holds : Stmt := top 37
abbrev st_law : Stmt := top 55
def s_Against_eq : FSem := mkF 2 2 false (sRet (vAnd (vIsI [(.own 3)] (oVar 1)) (op2 fEq (oV (op1 (fAttr "order") (oVar 0))) (oV (op1 (fAttr "order") (oVar 1))))))
def s_frozen : Nat → FSem
  | 0 => fun _ => .stuck
  | n + 1 => mkF 2 1 false (sSeq (sIf (tB (vIsI [.tuple, .list] (oVar 0))) (sRet (opN fTuple [oV (vComp [1] (itV (vVar 0)) (gVar 1) (ret true) (vCall0 (s_frozen n) [oV (vVar 1)]))])) (sNext)) (sRet (vVar 0)))
theorem ar_frozen : ∀ n, Ar 1 (s_frozen n)
  | 0 => fun _ z => absurd rfl z
  | _ + 1 => ar_mkF
def s_Against_init : FSem := mkF 2 2 true (sFldS 0 "order" (vCall0 (s_frozen 6) [oV (vVar 1)]))
def s_Choices_eq : FSem := mkF 2 2 false (sRet (vAnd (vIsI [(.own 0)] (oVar 1)) (vAnd (op2 fEq (oV (op1 (fAttr "things") (oVar 0))) (oV (op1 (fAttr "things") (oVar 1)))) (op2 fEq (oV (op1 (fAttr "rows") (oVar 0))) (oV (op1 (fAttr "rows") (oVar 1)))))))
def s_is_list : FSem := mkF 1 1 false (sRet (vIsI [.tuple, .list] (oVar 0)))
def s_is_whole : FSem := mkF 1 1 false (sRet (vAnd (vIsI [.int] (oVar 0)) (vBool (tNot (tB (vIsI [.bool] (oVar 0)))))))
def s_is_index : FSem := mkF 2 2 false (sRet (vAnd (vCall0 s_is_whole [oV (vVar 1)]) (vChain fLe fLt (oV (vC (.int 0))) (oVar 1) (oVar 0))))
def s_is_lot_of : FSem := mkF 4 2 false (sSeq (sIf (tNot (tB (vCall0 s_is_list [oV (vVar 1)]))) (sRet (vC (.bl false))) (sNext)) (sSeq (sSet 2 (op1 fNeg (oV (vC (.int 1))))) (sSeq (sFor (itV (vVar 1)) (gVar 3) (sSeq (sIf (tOr (tNot (tB (vCall0 s_is_index [oV (vVar 0), oV (vVar 3)]))) (tB (op2 fLe (oVar 3) (oVar 2)))) (sRet (vC (.bl false))) (sNext)) (sSet 2 (vVar 3)))) (sRet (vC (.bl true))))))
def s_is_choice : FSem := mkF 4 2 false (sSeq (sIf (tOr (tNot (tB (vCall0 s_is_list [oV (vVar 1)]))) (tOr (tB (op2 fNe (oV (opN fLen [oVar 1])) (oV (vC (.int 2))))) (tNot (tB (opN fAll [oV (vComp [2] (itV (vVar 1)) (gVar 2) (ret true) (vAnd (vCall0 s_is_lot_of [oV (vVar 0), oV (vVar 2)]) (op2 fGt (oV (opN fLen [oVar 2])) (oV (vC (.int 0))))))]))))) (sRet (vC (.bl false))) (sNext)) (sRet (opN fAll [oV (vComp [3] (itV (op2 fIxA (oVar 1) (oV (vC (.int 1))))) (gVar 3) (ret true) (op2 fInA (oVar 3) (oV (op2 fIxA (oVar 1) (oV (vC (.int 0)))))))])))
def s_is_name : FSem := mkF 2 1 false (sSeq (sIf (tOr (tNot (tB (vIsI [.str] (oVar 0)))) (tOr (tNot (tB (vChain fLe fLe (oV (vC (.int 1))) (oV (opN fLen [oVar 0])) (oV (vC (.int 12)))))) (tB (op2 (fInS true) (oV (op2 fIxA (oVar 0) (oV (vC (.int 0))))) (oV (vC (.str "abcdefghijklmnopqrstuvwxyzABCDEFGHIJKLMNOPQRSTUVWXYZ"))))))) (sRet (vC (.bl false))) (sNext)) (sRet (opN fAll [oV (vComp [1] (itS (vVar 0)) (gVar 1) (ret true) (op2 (fInS false) (oVar 1) (oV (vC (.str "abcdefghijklmnopqrstuvwxyzABCDEFGHIJKLMNOPQRSTUVWXYZ0123456789_")))))])))
def s_names_looked : FSem := mkF 2 1 false (sFor (itRange1 (oV (opN fLen [oVar 0]))) (gVar 1) (sSeq (sIf (tNot (tB (vCall0 s_is_name [oV (op2 fIxA (oVar 0) (oVar 1))]))) (stk) (sNext)) (sIf (tB (op2 fInA (oV (op2 fIxA (oVar 0) (oVar 1))) (oV (vCut (oVar 0) none (some (oVar 1)))))) (stk) (sNext))))
def s_Choices_init : FSem := mkF 5 3 true (sSeq (sIf (tOr (tNot (tB (vCall0 s_is_list [oV (vVar 1)]))) (tB (op2 fEq (oV (opN fLen [oVar 1])) (oV (vC (.int 0)))))) (stk) (sNext)) (sSeq (sExpr (vCall0 s_names_looked [oV (vVar 1)])) (sSeq (sIf (tNot (tB (vCall0 s_is_list [oV (vVar 2)]))) (stk) (sNext)) (sSeq (sSet 3 (vDctT)) (sSeq (sFor (itV (vVar 2)) (gVar 4) (sSeq (sIf (tNot (tB (vCall0 s_is_choice [oV (opN fLen [oVar 1]), oV (vVar 4)]))) (stk) (sNext)) (sSeq (sIf (tB (op2 (fInT false) (oV (opN fTuple [oV (op2 fIxA (oVar 4) (oV (vC (.int 0))))])) (oVar 3))) (stk) (sNext)) (sPutT 3 (oV (opN fTuple [oV (op2 fIxA (oVar 4) (oV (vC (.int 0))))])) (vC (.bl true)))))) (sSeq (sFldS 0 "things" (opN fTuple [oVar 1])) (sSeq (sFldS 0 "rows" (opN fTuple [oV (vComp [4] (itV (vVar 2)) (gVar 4) (ret true) (vTup [oV (opN fTuple [oV (op2 fIxA (oVar 4) (oV (vC (.int 0))))]), oV (opN fTuple [oV (op2 fIxA (oVar 4) (oV (vC (.int 1))))])]))])) (sSeq (sFldS 0 "many" (opN fLen [oV (op1 (fAttr "things") (oVar 0))])) (sFldS 0 "size" (opN fLen [oV (op1 (fAttr "rows") (oVar 0))]))))))))))
def s_Order_eq : FSem := mkF 2 2 false (sRet (vAnd (vIsI [(.own 1)] (oVar 1)) (op2 fEq (oV (op1 (fAttr "things") (oVar 0))) (oV (op1 (fAttr "things") (oVar 1))))))
def s_Order_init : FSem := mkF 2 2 true (sFldS 0 "things" (vCall0 (s_frozen 6) [oV (vVar 1)]))
def s_Upward_eq : FSem := mkF 2 2 false (sRet (vAnd (vIsI [(.own 2)] (oVar 1)) (op2 fEq (oV (op1 (fAttr "rows") (oVar 0))) (oV (op1 (fAttr "rows") (oVar 1))))))
def s_Upward_init : FSem := mkF 2 2 true (sFldS 0 "rows" (vCall0 (s_frozen 6) [oV (vVar 1)]))
def s_law_first : FSem := mkF 3 2 false (sRet (op2 fIxA (oV (vComp [2] (itV (vVar 0)) (gVar 2) (tB (op2 fInA (oVar 2) (oVar 1))) (vVar 2))) (oV (vC (.int 0)))))
def s_law_is_int : FSem := mkF 1 1 false (sRet (vAnd (vIsI [.int] (oVar 0)) (vBool (tNot (tB (vIsI [.bool] (oVar 0)))))))
def s_law_against_right : FSem := mkF 8 5 false (sSeq (sIf (tOr (tNot (tB (vIsI [.tuple] (oVar 4)))) (tOr (tNot (tB (opN fAll [oV (vComp [5] (itV (vVar 4)) (gVar 5) (ret true) (vCall0 s_law_is_int [oV (vVar 5)]))]))) (tB (op2 fNe (oV (opN fSorted [oVar 4])) (oV (vRg false (itRange1 (oVar 0)))))))) (sRet (vC (.bl false))) (sNext)) (sRet (vAnd (opN fAll [oV (vComp [6, 7] (itV (vVar 1)) (gTupD [gVar 6, gVar 7]) (ret true) (op2 fEq (oV (vCall0 s_law_first [oV (vVar 4), oV (vVar 6)])) (oV (op2 fIxA (oVar 7) (oV (vC (.int 0)))))))]) (op2 fLt (oV (vIndex (oVar 4) (oVar 3))) (oV (vIndex (oVar 4) (oVar 2)))))))
def s_law_orders : FSem := mkF 6 1 false (sSeq (sSet 1 (vLst [oV (vTup [])])) (sSeq (sFor (itRange1 (oVar 0)) (gVar 2) (sSeq (sSet 3 (vLst [])) (sSeq (sFor (itV (vVar 1)) (gVar 4) (sSet 3 (op2 fAdd (oVar 3) (oV (vComp [5] (itRange1 (oVar 0)) (gVar 5) (tB (op2 fNotInA (oVar 5) (oVar 4))) (op2 fAdd (oVar 4) (oV (vTup [oV (vVar 5)])))))))) (sSet 1 (vVar 3))))) (sRet (vVar 1))))
def s_law_agreeing : FSem := mkF 5 2 false (sRet (vComp [2] (itV (vCall0 s_law_orders [oV (vVar 0)])) (gVar 2) (tB (opN fAll [oV (vComp [3, 4] (itV (vVar 1)) (gTupD [gVar 3, gVar 4]) (ret true) (op2 fEq (oV (vCall0 s_law_first [oV (vVar 2), oV (vVar 3)])) (oV (op2 fIxA (oVar 4) (oV (vC (.int 0)))))))])) (vVar 2)))
def s_law_draw : FSem := mkF 5 2 true (sSeq (sPutK 0 (oV (vC (.str "count"))) (op2 fAdd (oV (op2 fIxA (oVar 0) (oV (vC (.str "count"))))) (oV (vC (.int 1))))) (sSeq (sIf (tAnd (tB (op2 fEq (oV (op2 fIxA (oVar 0) (oV (vC (.str "digits"))))) (oV (vC (.int 0))))) (tB (op2 fLt (oV (op2 fIxA (oVar 0) (oV (vC (.str "at"))))) (oV (opN fLen [oV (op2 fIxA (oVar 0) (oV (vC (.str "cells"))))]))))) (sSeq (sSet 2 (op2 fIxA (oV (op2 fIxA (oVar 0) (oV (vC (.str "cells"))))) (oV (op2 fIxA (oVar 0) (oV (vC (.str "at"))))))) (sSeq (sPutK 0 (oV (vC (.str "at"))) (op2 fAdd (oV (op2 fIxA (oVar 0) (oV (vC (.str "at"))))) (oV (vC (.int 1))))) (sIf (tB (op2 fGe (oVar 2) (oV (op2 fPow (oV (vC (.int 10))) (oV (vC (.int 18))))))) (sPutK 0 (oV (vC (.str "digits"))) (op2 fSub (oVar 2) (oV (op2 fPow (oV (vC (.int 10))) (oV (vC (.int 18))))))) (sPutK 0 (oV (vC (.str "fold"))) (op2 fMod (oV (opN fInt [oV (op2 fAdd (oV (op2 fMul (oV (op2 fIxA (oVar 0) (oV (vC (.str "fold"))))) (oV (vC (.int 48271))))) (oVar 2))])) (oV (vC (.int 2147483563)))))))) (sNext)) (sSeq (sIf (tB (op2 fGt (oV (op2 fIxA (oVar 0) (oV (vC (.str "digits"))))) (oV (vC (.int 0))))) (sSeq (sSet 3 (op2 fMod (oV (opN fInt [oV (op2 fIxA (oVar 0) (oV (vC (.str "digits"))))])) (oVar 1))) (sSeq (sPutK 0 (oV (vC (.str "digits"))) (op2 fDiv (oV (op2 fIxA (oVar 0) (oV (vC (.str "digits"))))) (oVar 1))) (sRet (vVar 3)))) (sNext)) (sSeq (sSet 4 (op2 fAdd (oV (op2 fAdd (oV (op2 fIxA (oVar 0) (oV (vC (.str "fold"))))) (oV (op2 fMul (oV (op2 fIxA (oVar 0) (oV (vC (.str "count"))))) (oV (vC (.int 8513))))))) (oV (vC (.int 61))))) (sRet (op2 fMod (oV (op2 fDiv (oV (opN fInt [oV (op2 fMod (oV (op2 fPow (oVar 4) (oV (vC (.int 19))))) (oV (vC (.int 2305843009213693951))))])) (oV (vC (.int 256))))) (oVar 1)))))))
def s_law_pen : FSem := mkF 3 1 false (sSeq (sSet 1 (vC (.int 0))) (sSeq (sFor (itV (vVar 0)) (gVar 2) (sSet 1 (op2 fMod (oV (opN fInt [oV (op2 fAdd (oV (op2 fMul (oVar 1) (oV (vC (.int 59))))) (oVar 2))])) (oV (vC (.int 1000000009)))))) (sRet (vDct [.inr "cells", .inr "at", .inr "digits", .inr "count", .inr "fold"] [oV (opN fList [oVar 0]), oV (vC (.int 0)), oV (vC (.int 0)), oV (vC (.int 0)), oV (vVar 1)]))))
def s_law_pick : FSem := mkF 2 2 true (sRet (op2 fIxA (oVar 1) (oV (vCall1 s_law_draw [oVar 0, oV (opN fLen [oVar 1])]))))
def s_law_shuffled : FSem := mkF 5 2 true (sSeq (sPar2 2 3 (opN fList [oVar 1]) (vLst [])) (sSeq (sFor (itRange1 (oV (opN fLen [oVar 1]))) (gVar 4) (sExpr (vApp 3 (oV (vPopAt 2 (oV (vCall1 s_law_draw [oVar 0, oV (opN fLen [oVar 2])]))))))) (sRet (vVar 3))))
def s_law_some_list : FSem := mkF 4 2 true (sSeq (sSet 2 (opN fTuple [oV (vComp [3] (itRange1 (oVar 1)) (gVar 3) (tB (op2 fEq (oV (vCall1 s_law_draw [oVar 0, oV (vC (.int 2))])) (oV (vC (.int 0))))) (vVar 3))])) (sRet (vIf (tB (op2 fNe (oVar 2) (oV (vTup [])))) (vVar 2) (vTup [oV (vCall1 s_law_draw [oVar 0, oV (vVar 1)])]))))
def s_law_single_rows : FSem := mkF 8 3 true (sSeq (sPar3 3 4 5 (opN fTuple [oV (vCall1 s_law_shuffled [oVar 0, oV (vRg false (itRange1 (oVar 1)))])]) (vLst []) (vLst [])) (sSeq (sFor (itRange1 (oVar 2)) (gVar 6) (sSeq (sSet 7 (vIf (tB (op2 fEq (oV (vCall1 s_law_draw [oVar 0, oV (vC (.int 2))])) (oV (vC (.int 0))))) (vCall1 s_law_some_list [oVar 0, oV (vVar 1)]) (opN fTuple [oV (opN fSorted [oV (vCut (oV (vCall1 s_law_shuffled [oVar 0, oV (vRg false (itRange1 (oVar 1)))])) none (some (oV (vC (.int 2)))))])]))) (sIf (tB (op2 (fInP true) (oVar 7) (oVar 5))) (sSeq (sExpr (vApp 5 (oV (vVar 7)))) (sExpr (vApp 4 (oV (vTup [oV (vVar 7), oV (vTup [oV (vCall0 s_law_first [oV (vVar 3), oV (vVar 7)])])]))))) (sNext)))) (sRet (vTup [oV (opN fTuple [oVar 4]), oV (vVar 3)]))))
def s_law_some_rows : FSem := mkF 6 2 true (sSeq (sSet 2 (vTup [oV (vCall1 s_law_draw [oVar 0, oV (opN fLen [oVar 1])])])) (sSeq (sFor (itRange1 (oV (vCall1 s_law_draw [oVar 0, oV (vC (.int 4))]))) (gVar 3) (sSeq (sSet 4 (vComp [5] (itRange1 (oV (opN fLen [oVar 1]))) (gVar 5) (tB (op2 fInA (oV (op2 fIxA (oV (op2 fIxA (oV (op2 fIxA (oVar 1) (oVar 5))) (oV (vC (.int 1))))) (oV (vC (.int 0))))) (oV (op2 fIxA (oV (op2 fIxA (oVar 1) (oV (op2 fIxA (oVar 2) (oV (op1 fNeg (oV (vC (.int 1))))))))) (oV (vC (.int 0))))))) (vVar 5))) (sSet 2 (op2 fAdd (oVar 2) (oV (vTup [oV (vCall1 s_law_pick [oVar 0, oV (vVar 4)])])))))) (sRet (vVar 2))))
def s_law_things : FSem := mkF 1 1 false (sRet (vCut (oV (vLst [oV (vC (.str "a")), oV (vC (.str "b")), oV (vC (.str "c")), oV (vC (.str "d")), oV (vC (.str "e")), oV (vC (.str "f"))])) none (some (oVar 0))))
def s_law_up_right : FSem := mkF 5 4 false (sSeq (sIf (tOr (tNot (tB (vIsI [.tuple] (oVar 3)))) (tOr (tB (op2 fEq (oVar 3) (oV (vTup [])))) (tNot (tB (opN fAll [oV (vComp [4] (itV (vVar 3)) (gVar 4) (ret true) (vAnd (vCall0 s_law_is_int [oV (vVar 4)]) (vChain fLe fLt (oV (vC (.int 0))) (oVar 4) (oV (opN fLen [oVar 0])))))]))))) (sRet (vC (.bl false))) (sNext)) (sSeq (sIf (tOr (tB (op2 fNe (oV (op2 fIxA (oV (op2 fIxA (oV (op2 fIxA (oVar 0) (oV (op2 fIxA (oVar 3) (oV (vC (.int 0))))))) (oV (vC (.int 1))))) (oV (vC (.int 0))))) (oVar 1))) (tOr (tB (op2 fNotInA (oVar 2) (oV (op2 fIxA (oV (op2 fIxA (oVar 0) (oV (op2 fIxA (oVar 3) (oV (op1 fNeg (oV (vC (.int 1))))))))) (oV (vC (.int 0))))))) (tB (op2 fEq (oV (op2 fIxA (oV (op2 fIxA (oV (op2 fIxA (oVar 0) (oV (op2 fIxA (oVar 3) (oV (op1 fNeg (oV (vC (.int 1))))))))) (oV (vC (.int 1))))) (oV (vC (.int 0))))) (oVar 2))))) (sRet (vC (.bl false))) (sNext)) (sRet (opN fAll [oV (vComp [4] (itRange1 (oV (op2 fSub (oV (opN fLen [oVar 3])) (oV (vC (.int 1)))))) (gVar 4) (ret true) (op2 fInA (oV (op2 fIxA (oV (op2 fIxA (oV (op2 fIxA (oVar 0) (oV (op2 fIxA (oVar 3) (oV (op2 fAdd (oVar 4) (oV (vC (.int 1))))))))) (oV (vC (.int 1))))) (oV (vC (.int 0))))) (oV (op2 fIxA (oV (op2 fIxA (oVar 0) (oV (op2 fIxA (oVar 3) (oVar 4))))) (oV (vC (.int 0)))))))]))))
def s_first_of : FSem := mkF 3 2 false (sRet (op2 fIxA (oV (vComp [2] (itV (vVar 0)) (gVar 2) (tB (op2 fInA (oVar 2) (oVar 1))) (vVar 2))) (oV (vC (.int 0)))))
def s_agrees_with : FSem := mkF 4 2 false (sRet (opN fAll [oV (vComp [2, 3] (itV (op1 (fAttr "rows") (oVar 0))) (gTupD [gVar 2, gVar 3]) (ret true) (op2 fEq (oVar 3) (oV (vTup [oV (vCall0 s_first_of [oV (vVar 1), oV (vVar 2)])]))))]))
def s_is_order_of : FSem := mkF 3 2 false (sSeq (sIf (tOr (tNot (tB (vIsI [.tuple] (oVar 1)))) (tNot (tB (opN fAll [oV (vComp [2] (itV (vVar 1)) (gVar 2) (ret true) (vCall0 s_is_index [oV (vVar 0), oV (vVar 2)]))])))) (sRet (vC (.bl false))) (sNext)) (sRet (op2 fEq (oV (opN fSorted [oVar 1])) (oV (vRg false (itRange1 (oVar 0)))))))
def s_told_pairs : FSem := mkF 8 1 false (sSeq (sSet 1 (vComp [7] (itRange1 (oV (op1 (fAttr "many") (oVar 0)))) (gVar 7) (ret true) (vDct [] []))) (sSeq (sFor (itRange1 (oV (op1 (fAttr "size") (oVar 0)))) (gVar 2) (sSeq (sAsg (gTupD [gVar 3, gVar 4]) (op2 fIxA (oV (op1 (fAttr "rows") (oVar 0))) (oVar 2))) (sFor (itV (vVar 4)) (gVar 5) (sFor (itV (vVar 3)) (gVar 6) (sIf (tAnd (tB (op2 fNe (oVar 6) (oVar 5))) (tB (vIn2 true 6 1 5))) (sPut2 1 5 6 (vVar 2)) (sNext)))))) (sRet (vVar 1))))
def s_least_order : FSem := mkF 6 1 false (sSeq (sSet 1 (vCall0 s_told_pairs [oV (vVar 0)])) (sSeq (sSet 2 (vLst [])) (sSeq (whileL (tB (op2 fLt (oV (opN fLen [oVar 2])) (oV (op1 (fAttr "many") (oVar 0))))) (sSeq (sSet 3 (vComp [4] (itRange1 (oV (op1 (fAttr "many") (oVar 0)))) (gVar 4) (tAnd (tB (op2 fNotInA (oVar 4) (oVar 2))) (tNot (tB (opN fAny [oV (vComp [5] (itRange1 (oV (op1 (fAttr "many") (oVar 0)))) (gVar 5) (tB (op2 fNotInA (oVar 5) (oVar 2))) (op2 fInA (oVar 4) (oV (op2 fIxA (oVar 1) (oVar 5)))))])))) (vVar 4))) (sSeq (sIf (tB (op2 fEq (oV (opN fLen [oVar 3])) (oV (vC (.int 0))))) (sRet (vC .non)) (sNext)) (sExpr (vApp 2 (oV (op2 fIxA (oVar 3) (oV (vC (.int 0))))))))) 200) (sRet (opN fTuple [oVar 2])))))
def s_is_single : FSem := mkF 3 1 false (sRet (opN fAll [oV (vComp [1, 2] (itV (op1 (fAttr "rows") (oVar 0))) (gTupD [gVar 1, gVar 2]) (ret true) (op2 fEq (oV (opN fLen [oVar 2])) (oV (vC (.int 1)))))]))
def s_single_looked : FSem := mkF 1 1 false (sIf (tNot (tB (vCall0 s_is_single [oV (vVar 0)]))) (stk) (sNext))
def s_agreeing_looked : FSem := mkF 1 1 false (sSeq (sExpr (vCall0 s_single_looked [oV (vVar 0)])) (sIf (tB (op2 fIsN (oV (vCall0 s_least_order [oV (vVar 0)])) (oV (vC .non)))) (stk) (sNext)))
def s_thing_told : FSem := mkF 2 2 false (sSeq (sIf (tNot (tB (vCall0 s_is_index [oV (op1 (fAttr "many") (oVar 0)), oV (vVar 1)]))) (stk) (sNext)) (sRet (vVar 1)))
def s_two_things : FSem := mkF 3 3 false (sSeq (sExpr (vCall0 s_agreeing_looked [oV (vVar 0)])) (sSeq (sExpr (vCall0 s_thing_told [oV (vVar 0), oV (vVar 1)])) (sExpr (vCall0 s_thing_told [oV (vVar 0), oV (vVar 2)]))))
def s_against_holds : FSem := mkF 4 4 false (sSeq (sExpr (vCall0 s_two_things [oV (vVar 0), oV (vVar 1), oV (vVar 2)])) (sSeq (sIf (tOr (tNot (tB (vIsI [(.own 3)] (oVar 3)))) (tNot (tB (vCall0 s_is_order_of [oV (op1 (fAttr "many") (oVar 0)), oV (op1 (fAttr "order") (oVar 3))])))) (sRet (vC (.bl false))) (sNext)) (sRet (vAnd (vCall0 s_agrees_with [oV (vVar 0), oV (op1 (fAttr "order") (oVar 3))]) (op2 fLt (oV (vIndex (oV (op1 (fAttr "order") (oVar 3))) (oVar 2))) (oV (vIndex (oV (op1 (fAttr "order") (oVar 3))) (oVar 1))))))))
def s_upward_holds : FSem := mkF 7 4 false (sSeq (sExpr (vCall0 s_two_things [oV (vVar 0), oV (vVar 1), oV (vVar 2)])) (sSeq (sIf (tOr (tNot (tB (vIsI [(.own 2)] (oVar 3)))) (tOr (tNot (tB (vIsI [.tuple] (oV (op1 (fAttr "rows") (oVar 3)))))) (tB (op2 fEq (oV (opN fLen [oV (op1 (fAttr "rows") (oVar 3))])) (oV (vC (.int 0))))))) (sRet (vC (.bl false))) (sNext)) (sSeq (sIf (tNot (tB (opN fAll [oV (vComp [5] (itV (op1 (fAttr "rows") (oVar 3))) (gVar 5) (ret true) (vCall0 s_is_index [oV (op1 (fAttr "size") (oVar 0)), oV (vVar 5)]))]))) (sRet (vC (.bl false))) (sNext)) (sSeq (sSet 4 (vComp [5] (itV (op1 (fAttr "rows") (oVar 3))) (gVar 5) (ret true) (vTup [oV (op2 fIxA (oV (op2 fIxA (oV (op1 (fAttr "rows") (oVar 0))) (oVar 5))) (oV (vC (.int 0)))), oV (op2 fIxA (oV (op2 fIxA (oV (op2 fIxA (oV (op1 (fAttr "rows") (oVar 0))) (oVar 5))) (oV (vC (.int 1))))) (oV (vC (.int 0))))]))) (sSeq (sIf (tOr (tB (op2 fNe (oV (op2 fIxA (oV (op2 fIxA (oVar 4) (oV (vC (.int 0))))) (oV (vC (.int 1))))) (oVar 1))) (tOr (tB (op2 fNotInA (oVar 2) (oV (op2 fIxA (oV (op2 fIxA (oVar 4) (oV (op1 fNeg (oV (vC (.int 1))))))) (oV (vC (.int 0))))))) (tB (op2 fEq (oVar 2) (oV (op2 fIxA (oV (op2 fIxA (oVar 4) (oV (op1 fNeg (oV (vC (.int 1))))))) (oV (vC (.int 1))))))))) (sRet (vC (.bl false))) (sNext)) (sRet (opN fAll [oV (vComp [6] (itRange1 (oV (op2 fSub (oV (opN fLen [oVar 4])) (oV (vC (.int 1)))))) (gVar 6) (ret true) (op2 fInA (oV (op2 fIxA (oV (op2 fIxA (oVar 4) (oV (op2 fAdd (oVar 6) (oV (vC (.int 1))))))) (oV (vC (.int 1))))) (oV (op2 fIxA (oV (op2 fIxA (oVar 4) (oVar 6))) (oV (vC (.int 0)))))))])))))))
def teq : Nat → Option FSem
  | 0 => some s_Choices_eq
  | 1 => some s_Order_eq
  | 2 => some s_Upward_eq
  | 3 => some s_Against_eq
  | _ => none
def s_law : FSem := mkF 15 1 false (sSeq (sSet 1 (vCall0 s_law_pen [oV (vVar 0)])) (sSeq (sSet 2 (vCall1 s_law_pick [oVar 1, oV (vLst [oV (vC (.int 4)), oV (vC (.int 3)), oV (vC (.int 5)), oV (vC (.int 2))])])) (sSeq (sAsg (gTupD [gVar 3, gVar 4]) (vCall1 s_law_single_rows [oVar 1, oV (vVar 2), oV (op2 fAdd (oV (vC (.int 2))) (oV (vCall1 s_law_draw [oVar 1, oV (vC (.int 5))])))])) (sSeq (sPar2 5 6 (vNew 0 s_Choices_init [oV (vCall0 s_law_things [oV (vVar 2)]), oV (vVar 3)]) (vCall0 s_law_agreeing [oV (vVar 2), oV (vVar 3)])) (sSeq (sFor (itRange1 (oV (vC (.int 16)))) (gVar 7) (sSeq (sPar2 8 9 (vCall1 s_law_draw [oVar 1, oV (vVar 2)]) (vCall1 s_law_draw [oVar 1, oV (vVar 2)])) (sSeq (sSet 10 (vCall1 s_law_some_rows [oVar 1, oV (vVar 3)])) (sSeq (sIf (tB (op2 fLt (oVar 7) (oV (vC (.int 9))))) (sPar2 8 9 (op2 fIxA (oV (op2 fIxA (oV (op2 fIxA (oVar 3) (oV (op2 fIxA (oVar 10) (oV (vC (.int 0))))))) (oV (vC (.int 1))))) (oV (vC (.int 0)))) (vCall1 s_law_pick [oVar 1, oV (opN fList [oV (op2 fIxA (oV (op2 fIxA (oVar 3) (oV (op2 fIxA (oVar 10) (oV (op1 fNeg (oV (vC (.int 1))))))))) (oV (vC (.int 0))))])])) (sNext)) (sSeq (sIf (tB (op2 fGt (oVar 7) (oV (vC (.int 4))))) (sSeq (sSet 11 (vCall1 s_law_draw [oVar 1, oV (op2 fAdd (oV (opN fLen [oVar 10])) (oV (vC (.int 1))))])) (sSeq (sSet 12 (vCall1 s_law_pick [oVar 1, oV (vLst [oV (opN fLen [oVar 3]), oV (op1 fNeg (oV (vC (.int 1)))), oV (vC .non), oV (vC (.bl true)), oV (vCall1 s_law_draw [oVar 1, oV (opN fLen [oVar 3])])])])) (sSet 10 (vCall1 s_law_pick [oVar 1, oV (vLst [oV (vVar 10), oV (op2 fAdd (oV (op2 fAdd (oV (vCut (oVar 10) none (some (oVar 11)))) (oV (vTup [oV (vVar 12)])))) (oV (vCut (oVar 10) (some (oV (op2 fAdd (oVar 11) (oV (vC (.int 1)))))) none))), oV (op2 fAdd (oV (op2 fAdd (oV (vCut (oVar 10) none (some (oVar 11)))) (oV (vTup [oV (vVar 12)])))) (oV (vCut (oVar 10) (some (oVar 11)) none))), oV (vCut (oVar 10) (some (oV (vC (.int 1)))) none), oV (op1 fRev (oVar 10)), oV (vC .non), oV (vTup []), oV (vC (.int 0))])])))) (sNext)) (sSeq (sSet 13 (vCall0 s_upward_holds [oV (vVar 5), oV (vVar 8), oV (vVar 9), oV (vNew 2 s_Upward_init [oV (vIf (tB (op2 fEq (oVar 7) (oV (vC (.int 1))))) (opN fList [oVar 10]) (vVar 10))])])) (sSeq (sIf (tOr (tNot (tB (vIsI [.bool] (oVar 13)))) (tB (op2 fNe (oVar 13) (oV (vCall0 s_law_up_right [oV (vVar 3), oV (vVar 8), oV (vVar 9), oV (vVar 10)]))))) (sRet (vC (.bl false))) (sNext)) (sSeq (sSet 14 (vCall1 s_law_pick [oVar 1, oV (vVar 6)])) (sSeq (sIf (tB (op2 fGt (oVar 7) (oV (vC (.int 6))))) (sSet 14 (vCall1 s_law_pick [oVar 1, oV (vLst [oV (vVar 14), oV (op1 fRev (oVar 14)), oV (vCut (oVar 14) (some (oV (vC (.int 1)))) none), oV (op2 fAdd (oVar 14) (oV (vTup [oV (vC (.int 0))]))), oV (op2 fAdd (oV (vCut (oVar 14) none (some (oV (op1 fNeg (oV (vC (.int 1)))))))) (oV (vTup [oV (vC .non)]))), oV (vC .non), oV (opN fTuple [oV (vCall1 s_law_shuffled [oVar 1, oV (vRg false (itRange1 (oVar 2)))])]), oV (op2 fAdd (oV (vTup [oV (vC (.bl true))])) (oV (vCut (oVar 14) (some (oV (vC (.int 1)))) none))), oV (vC (.int 0))])])) (sNext)) (sSeq (sSet 13 (vCall0 s_against_holds [oV (vVar 5), oV (vVar 8), oV (vVar 9), oV (vNew 3 s_Against_init [oV (vIf (tB (op2 fEq (oVar 7) (oV (vC (.int 1))))) (opN fList [oVar 14]) (vVar 14))])])) (sIf (tOr (tNot (tB (vIsI [.bool] (oVar 13)))) (tB (op2 fNe (oVar 13) (oV (vCall0 s_law_against_right [oV (vVar 2), oV (vVar 3), oV (vVar 8), oV (vVar 9), oV (vVar 14)]))))) (sRet (vC (.bl false))) (sNext)))))))))))) (sSeq (sFor (itV (vLst [oV (vC .non), oV (vC (.int 5)), oV (vTup []), oV (vC (.str "")), oV (vVar 5), oV (vNew 2 s_Upward_init [oV (vC .non)]), oV (vNew 2 s_Upward_init [oV (vTup [])]), oV (vNew 2 s_Upward_init [oV (vC (.int 5))]), oV (vNew 3 s_Against_init [oV (vC .non)]), oV (vNew 3 s_Against_init [oV (vTup [])]), oV (vNew 1 s_Order_init [oV (op2 fIxA (oVar 6) (oV (vC (.int 0))))]), oV (op2 fIxA (oVar 6) (oV (vC (.int 0))))])) (gVar 12) (sIf (tOr (tB (op2 (fIsB true) (oV (vCall0 s_upward_holds [oV (vVar 5), oV (vC (.int 0)), oV (vC (.int 1)), oV (vVar 12)])) (oV (vC (.bl false))))) (tB (op2 (fIsB true) (oV (vCall0 s_against_holds [oV (vVar 5), oV (vC (.int 0)), oV (vC (.int 1)), oV (vVar 12)])) (oV (vC (.bl false)))))) (sRet (vC (.bl false))) (sNext))) (sSeq (sIf (tOr (tB (vEqO teq true (vNew 2 s_Upward_init [oV (vLst [oV (vC (.int 1))])]) (vNew 2 s_Upward_init [oV (vTup [oV (vC (.int 1))])]))) (tOr (tB (vEqO teq false (vNew 2 s_Upward_init [oV (vTup [oV (vC (.int 1))])]) (vNew 2 s_Upward_init [oV (vTup [oV (vC (.int 2))])]))) (tOr (tB (vEqO teq true (vNew 3 s_Against_init [oV (vLst [oV (vC (.int 1))])]) (vNew 3 s_Against_init [oV (vTup [oV (vC (.int 1))])]))) (tB (vEqO teq false (vNew 3 s_Against_init [oV (vTup [oV (vC (.int 1))])]) (vNew 3 s_Against_init [oV (vTup [oV (vC (.int 2))])])))))) (sRet (vC (.bl false))) (sNext)) (sRet (vEqO teq true (vNew 2 s_Upward_init [oV (vTup [oV (vC (.int 1))])]) (vNew 3 s_Against_init [oV (vTup [oV (vC (.int 1))])]))))))))))
structure Txt (K : PySem.W.Frag) (mg : Str → Option Value) (A : Nat → Addr) : Prop where
  I : ∀ k, k < 4 → IsC K ⟨A, 4⟩ k
  gd : ∀ k, k < 4 → GoodC K ⟨A, 4⟩ k
  n_many : ∀ k, k < 4 → NoAttr K (A k) "many"
  n_order : ∀ k, k < 4 → NoAttr K (A k) "order"
  n_rows : ∀ k, k < 4 → NoAttr K (A k) "rows"
  n_size : ∀ k, k < 4 → NoAttr K (A k) "size"
  n_things : ∀ k, k < 4 → NoAttr K (A k) "things"
  m_all : mg "all" = none
  m_any : mg "any" = none
  m_bool : mg "bool" = none
  m_int : mg "int" = none
  m_isinstance : mg "isinstance" = none
  m_len : mg "len" = none
  m_list : mg "list" = none
  m_range : mg "range" = none
  m_sorted : mg "sorted" = none
  m_str : mg "str" = none
  m_tuple : mg "tuple" = none
  g_LETTERS : ∃ t, mg "LETTERS" = some (.str "abcdefghijklmnopqrstuvwxyzABCDEFGHIJKLMNOPQRSTUVWXYZ" t)
  g_SIGNS : ∃ t, mg "SIGNS" = some (.str "abcdefghijklmnopqrstuvwxyzABCDEFGHIJKLMNOPQRSTUVWXYZ0123456789_" t)
  c_Choices : mg "Choices" = some (.ref (A 0))
  c_Order : mg "Order" = some (.ref (A 1))
  c_Upward : mg "Upward" = some (.ref (A 2))
  c_Against : mg "Against" = some (.ref (A 3))
  d_Against_eq : ET K (A 3) "Against.__eq__" st_Against_eq ["self", "other"]
  d_frozen : DT K mg "frozen" st_frozen ["value"]
  d_Against_init : IT K (A 3) "Against.__init__" st_Against_init ["self", "order"]
  d_Choices_eq : ET K (A 0) "Choices.__eq__" st_Choices_eq ["self", "other"]
  d_is_list : DT K mg "is_list" st_is_list ["value"]
  d_is_whole : DT K mg "is_whole" st_is_whole ["value"]
  d_is_index : DT K mg "is_index" st_is_index ["many", "value"]
  d_is_lot_of : DT K mg "is_lot_of" st_is_lot_of ["many", "value"]
  d_is_choice : DT K mg "is_choice" st_is_choice ["many", "value"]
  d_is_name : DT K mg "is_name" st_is_name ["value"]
  d_names_looked : DT K mg "names_looked" st_names_looked ["names"]
  d_Choices_init : IT K (A 0) "Choices.__init__" st_Choices_init ["self", "things", "rows"]
  d_Order_eq : ET K (A 1) "Order.__eq__" st_Order_eq ["self", "other"]
  d_Order_init : IT K (A 1) "Order.__init__" st_Order_init ["self", "things"]
  d_Upward_eq : ET K (A 2) "Upward.__eq__" st_Upward_eq ["self", "other"]
  d_Upward_init : IT K (A 2) "Upward.__init__" st_Upward_init ["self", "rows"]
  d_law_first : DT K mg "_law_first" st_law_first ["order", "seen"]
  d_law_is_int : DT K mg "_law_is_int" st_law_is_int ["thing"]
  d_law_against_right : DT K mg "_law_against_right" st_law_against_right ["many", "rows", "i", "j", "order"]
  d_law_orders : DT K mg "_law_orders" st_law_orders ["many"]
  d_law_agreeing : DT K mg "_law_agreeing" st_law_agreeing ["many", "rows"]
  d_law_draw : DT K mg "_law_draw" st_law_draw ["pen", "many"]
  d_law_pen : DT K mg "_law_pen" st_law_pen ["script"]
  d_law_pick : DT K mg "_law_pick" st_law_pick ["pen", "some"]
  d_law_shuffled : DT K mg "_law_shuffled" st_law_shuffled ["pen", "some"]
  d_law_some_list : DT K mg "_law_some_list" st_law_some_list ["pen", "many"]
  d_law_single_rows : DT K mg "_law_single_rows" st_law_single_rows ["pen", "many", "size"]
  d_law_some_rows : DT K mg "_law_some_rows" st_law_some_rows ["pen", "rows"]
  d_law_things : DT K mg "_law_things" st_law_things ["many"]
  d_law_up_right : DT K mg "_law_up_right" st_law_up_right ["rows", "i", "j", "steps"]
  d_first_of : DT K mg "first_of" st_first_of ["order", "seen"]
  d_agrees_with : DT K mg "agrees_with" st_agrees_with ["choices", "order"]
  d_is_order_of : DT K mg "is_order_of" st_is_order_of ["many", "value"]
  d_told_pairs : DT K mg "told_pairs" st_told_pairs ["choices"]
  d_least_order : DT K mg "least_order" st_least_order ["choices"]
  d_is_single : DT K mg "is_single" st_is_single ["choices"]
  d_single_looked : DT K mg "single_looked" st_single_looked ["choices"]
  d_agreeing_looked : DT K mg "agreeing_looked" st_agreeing_looked ["choices"]
  d_thing_told : DT K mg "thing_told" st_thing_told ["choices", "thing"]
  d_two_things : DT K mg "two_things" st_two_things ["choices", "thing", "other"]
  d_against_holds : DT K mg "against_holds" st_against_holds ["choices", "thing", "other", "value"]
  d_upward_holds : DT K mg "upward_holds" st_upward_holds ["choices", "thing", "other", "value"]
  d_law : DT K mg "law" st_law ["script"]
section
variable {P : Program} {w : World} {K : PySem.W.Frag} {mg : Str → Option Value} {base : Heap} {A : Nat → Addr}
theorem sc_Against_eq : FnScope ["self", "other"] ["self", "other"] (defScope st_Against_eq) := ⟨rfl, rfl, rfl, by decide +kernel, rfl, by decide +kernel, by decide +kernel⟩
theorem ok_Against_eq (T : Txt K mg A) : GE P w K mg base (cc K A) 3 1 s_Against_eq := by
  obtain ⟨fa, fd, F, hb, hf, hi⟩ := T.d_Against_eq.ex
  exact ⟨⟨fa, fd, ["self", "other"], def_ok (mu := false) (k := 0) F sc_Against_eq rfl (by decide) T.I (fun cdv Ar outer s H E pn g hpn => ss_one (os_ret (ov_and (ok_isi g.hK g.I T.m_isinstance (oo_var 1) (oy_own T.c_Against (show 3 < 4 by decide))) (ov_one (g_eq g (oo_val (ok_attr g.hK T.n_order (oo_var 0))) (oo_val (ok_attr g.hK T.n_order (oo_var 1)))))))), hb, hf, hi⟩, T.d_Against_eq.ne⟩
theorem sc_frozen : FnScope ["value", "item"] ["value"] (defScope st_frozen) := ⟨rfl, rfl, rfl, by decide +kernel, rfl, by decide +kernel, by decide +kernel⟩
theorem ok_frozen (T : Txt K mg A) : ∀ n, GF P w K mg base (cc K A) "frozen" 1 (1 + n) (s_frozen n)
  | 0 => by
    obtain ⟨fa, fd, F, hm, hb⟩ := T.d_frozen.ex
    exact ⟨⟨fa, fd, ["value"], fn_stk, hm, F.kp, hb⟩⟩
  | n + 1 => by
    obtain ⟨fa, fd, F, hm, hb⟩ := T.d_frozen.ex
    have ih := ok_frozen T n
    exact ⟨⟨fa, fd, ["value"], def_ok (mu := false) (k := 1 + n) F sc_frozen rfl (by decide) T.I (fun cdv Ar outer s H E pn g hpn => ss_cons (os_if (ot_val (ok_isi2 g.hK g.I T.m_isinstance (oo_var 0) (oy_ty .tuple T.m_tuple (by decide +kernel) rfl trivial) (oy_ty .list T.m_list (by decide +kernel) rfl trivial))) (ss_one (os_ret (g_tuple g T.m_tuple (oa_cons (oo_val (ok_comp (own := [("item", 1)]) (T := [1]) g.hc g.hN (by decide) (pn_no hpn _ (by decide)) (oi_seq g.hK (ok_var 0)) (blk_mk (by kernel_rfl) rfl) (fun _ _ _ _ _ => gv g.blk hpn 1) (fun _ _ _ _ _ => oc_nil) (fun _ _ _ _ _ => ok_call0 (GF.at ih g.blk.hr (by omega)) (ar_frozen n) g.blk.tk (oa_cons (oo_val (ok_var 1)) (oa_nil))))) oa_nil)))) (ss_nil)) (ss_one (os_ret (ok_var 0)))), hm, F.kp, hb⟩⟩
theorem sc_Against_init : FnScope ["self", "order"] ["self", "order"] (defScope st_Against_init) := ⟨rfl, rfl, rfl, by decide +kernel, rfl, by decide +kernel, by decide +kernel⟩
theorem ok_Against_init (T : Txt K mg A) : GN P w K mg base (cc K A) "Against" 3 2 8 s_Against_init := by
  obtain ⟨fa, fd, F, hm, hb⟩ := T.d_Against_init.ex
  exact ⟨⟨fa, fd, ["self", "order"], def_ok (mu := true) (k := 7) F sc_Against_init rfl (by decide) T.I (fun cdv Ar outer s H E pn g hpn => ss_one (os_fld 0 g.hK T.n_order (ok_call0 (GF.at (ok_frozen T 6) g.hr (by omega)) (ar_frozen 6) g.tk (oa_cons (oo_val (ok_var 1)) (oa_nil))))), T.c_Against, hm, hb⟩, T.gd 3 (by decide)⟩
theorem sc_Choices_eq : FnScope ["self", "other"] ["self", "other"] (defScope st_Choices_eq) := ⟨rfl, rfl, rfl, by decide +kernel, rfl, by decide +kernel, by decide +kernel⟩
theorem ok_Choices_eq (T : Txt K mg A) : GE P w K mg base (cc K A) 0 1 s_Choices_eq := by
  obtain ⟨fa, fd, F, hb, hf, hi⟩ := T.d_Choices_eq.ex
  exact ⟨⟨fa, fd, ["self", "other"], def_ok (mu := false) (k := 0) F sc_Choices_eq rfl (by decide) T.I (fun cdv Ar outer s H E pn g hpn => ss_one (os_ret (ov_and (ok_isi g.hK g.I T.m_isinstance (oo_var 1) (oy_own T.c_Choices (show 0 < 4 by decide))) (ov_and (g_eq g (oo_val (ok_attr g.hK T.n_things (oo_var 0))) (oo_val (ok_attr g.hK T.n_things (oo_var 1)))) (ov_one (g_eq g (oo_val (ok_attr g.hK T.n_rows (oo_var 0))) (oo_val (ok_attr g.hK T.n_rows (oo_var 1))))))))), hb, hf, hi⟩, T.d_Choices_eq.ne⟩
theorem sc_is_list : FnScope ["value"] ["value"] (defScope st_is_list) := ⟨rfl, rfl, rfl, by decide +kernel, rfl, by decide +kernel, by decide +kernel⟩
theorem ok_is_list (T : Txt K mg A) : GF P w K mg base (cc K A) "is_list" 1 1 s_is_list := by
  obtain ⟨fa, fd, F, hm, hb⟩ := T.d_is_list.ex
  exact ⟨⟨fa, fd, ["value"], def_ok (mu := false) (k := 0) F sc_is_list rfl (by decide) T.I (fun cdv Ar outer s H E pn g hpn => ss_one (os_ret (ok_isi2 g.hK g.I T.m_isinstance (oo_var 0) (oy_ty .tuple T.m_tuple (by decide +kernel) rfl trivial) (oy_ty .list T.m_list (by decide +kernel) rfl trivial)))), hm, F.kp, hb⟩⟩
theorem sc_is_whole : FnScope ["value"] ["value"] (defScope st_is_whole) := ⟨rfl, rfl, rfl, by decide +kernel, rfl, by decide +kernel, by decide +kernel⟩
theorem ok_is_whole (T : Txt K mg A) : GF P w K mg base (cc K A) "is_whole" 1 1 s_is_whole := by
  obtain ⟨fa, fd, F, hm, hb⟩ := T.d_is_whole.ex
  exact ⟨⟨fa, fd, ["value"], def_ok (mu := false) (k := 0) F sc_is_whole rfl (by decide) T.I (fun cdv Ar outer s H E pn g hpn => ss_one (os_ret (ov_and (ok_isi g.hK g.I T.m_isinstance (oo_var 0) (oy_ty .int T.m_int (by decide +kernel) rfl trivial)) (ov_one (ov_not (ok_isi g.hK g.I T.m_isinstance (oo_var 0) (oy_ty .bool T.m_bool (by decide +kernel) rfl trivial))))))), hm, F.kp, hb⟩⟩
theorem sc_is_index : FnScope ["many", "value"] ["many", "value"] (defScope st_is_index) := ⟨rfl, rfl, rfl, by decide +kernel, rfl, by decide +kernel, by decide +kernel⟩
theorem ok_is_index (T : Txt K mg A) : GF P w K mg base (cc K A) "is_index" 2 2 s_is_index := by
  obtain ⟨fa, fd, F, hm, hb⟩ := T.d_is_index.ex
  exact ⟨⟨fa, fd, ["many", "value"], def_ok (mu := false) (k := 1) F sc_is_index rfl (by decide) T.I (fun cdv Ar outer s H E pn g hpn => ss_one (os_ret (ov_and (ok_call0 (GF.at (ok_is_whole T) g.hr (by omega)) ar_mkF g.tk (oa_cons (oo_val (ok_var 1)) (oa_nil))) (ov_one (g_lelt g (oo_val (ok_int)) (oo_var 1) (oo_var 0)))))), hm, F.kp, hb⟩⟩
theorem sc_is_lot_of : FnScope ["many", "value", "last", "item"] ["many", "value"] (defScope st_is_lot_of) := ⟨rfl, rfl, rfl, by decide +kernel, rfl, by decide +kernel, by decide +kernel⟩
theorem ok_is_lot_of (T : Txt K mg A) : GF P w K mg base (cc K A) "is_lot_of" 2 3 s_is_lot_of := by
  obtain ⟨fa, fd, F, hm, hb⟩ := T.d_is_lot_of.ex
  exact ⟨⟨fa, fd, ["many", "value"], def_ok (mu := false) (k := 2) F sc_is_lot_of rfl (by decide) T.I (fun cdv Ar outer s H E pn g hpn => ss_cons (os_if (ot_not (ot_val (ok_call0 (GF.at (ok_is_list T) g.hr (by omega)) ar_mkF g.tk (oa_cons (oo_val (ok_var 1)) (oa_nil))))) (ss_one (os_ret (ok_bl))) (ss_nil)) (ss_cons (g_set g hpn 2 (g_neg g (oo_val (ok_int)))) (ss_cons (g_for g (oi_seq g.hK (ok_var 1)) (gv g hpn 3) (ss_cons (os_if ((ow_or (ot_not (ot_val (ok_call0 (GF.at (ok_is_index T) g.hr (by omega)) ar_mkF g.tk (oa_cons (oo_val (ok_var 0)) (oa_cons (oo_val (ok_var 3)) (oa_nil)))))) (ow_or1 (t_le g (oo_var 3) (oo_var 2)))).t) (ss_one (os_ret (ok_bl))) (ss_nil)) (ss_one (g_set g hpn 2 (ok_var 3))))) (ss_one (os_ret (ok_bl)))))), hm, F.kp, hb⟩⟩
theorem sc_is_choice : FnScope ["many", "value", "lot", "thing"] ["many", "value"] (defScope st_is_choice) := ⟨rfl, rfl, rfl, by decide +kernel, rfl, by decide +kernel, by decide +kernel⟩
theorem ok_is_choice (T : Txt K mg A) : GF P w K mg base (cc K A) "is_choice" 2 4 s_is_choice := by
  obtain ⟨fa, fd, F, hm, hb⟩ := T.d_is_choice.ex
  exact ⟨⟨fa, fd, ["many", "value"], def_ok (mu := false) (k := 3) F sc_is_choice rfl (by decide) T.I (fun cdv Ar outer s H E pn g hpn => ss_cons (os_if ((ow_or (ot_not (ot_val (ok_call0 (GF.at (ok_is_list T) g.hr (by omega)) ar_mkF g.tk (oa_cons (oo_val (ok_var 1)) (oa_nil))))) (ow_or (t_ne g (oo_val (g_len g T.m_len (oa_cons (oo_var 1) oa_nil))) (oo_val (ok_int))) (ow_or1 (ot_not (ot_val (g_all g T.m_all (oa_cons (oo_val (ok_comp (own := [("lot", 2)]) (T := [2]) g.hc g.hN (by decide) (pn_no hpn _ (by decide)) (oi_seq g.hK (ok_var 1)) (blk_mk (by kernel_rfl) rfl) (fun _ _ _ _ _ => gv g.blk hpn 2) (fun _ _ _ _ _ => oc_nil) (fun _ _ _ _ _ => ov_and (ok_call0 (GF.at (ok_is_lot_of T) g.blk.hr (by omega)) ar_mkF g.blk.tk (oa_cons (oo_val (ok_var 0)) (oa_cons (oo_val (ok_var 2)) (oa_nil)))) (ov_one (g_gt g.blk (oo_val (g_len g.blk T.m_len (oa_cons (oo_var 2) oa_nil))) (oo_val (ok_int))))))) oa_nil))))))).t) (ss_one (os_ret (ok_bl))) (ss_nil)) (ss_one (os_ret (g_all g T.m_all (oa_cons (oo_val (ok_comp (own := [("thing", 3)]) (T := [3]) g.hc g.hN (by decide) (pn_no hpn _ (by decide)) (oi_seq g.hK (g_ix g (oo_var 1) (oo_val (ok_int)))) (blk_mk (by kernel_rfl) rfl) (fun _ _ _ _ _ => gv g.blk hpn 3) (fun _ _ _ _ _ => oc_nil) (fun _ _ _ _ _ => g_in g.blk (oo_var 3) (oo_val (g_ix g.blk (oo_var 1) (oo_val (ok_int))))))) oa_nil))))), hm, F.kp, hb⟩⟩
theorem sc_is_name : FnScope ["value", "sign"] ["value"] (defScope st_is_name) := ⟨rfl, rfl, rfl, by decide +kernel, rfl, by decide +kernel, by decide +kernel⟩
theorem ok_is_name (T : Txt K mg A) : GF P w K mg base (cc K A) "is_name" 1 1 s_is_name := by
  obtain ⟨fa, fd, F, hm, hb⟩ := T.d_is_name.ex
  exact ⟨⟨fa, fd, ["value"], def_ok (mu := false) (k := 0) F sc_is_name rfl (by decide) T.I (fun cdv Ar outer s H E pn g hpn => ss_cons (os_if ((ow_or (ot_not (ot_val (ok_isi g.hK g.I T.m_isinstance (oo_var 0) (oy_ty .str T.m_str (by decide +kernel) rfl trivial)))) (ow_or (ot_not (t_lele g (oo_val (ok_int)) (oo_val (g_len g T.m_len (oa_cons (oo_var 0) oa_nil))) (oo_val (ok_int)))) (ow_or1 (t_notInS g (oo_val (g_ix g (oo_var 0) (oo_val (ok_int)))) (oo_val (ok_gstr T.g_LETTERS)))))).t) (ss_one (os_ret (ok_bl))) (ss_nil)) (ss_one (os_ret (g_all g T.m_all (oa_cons (oo_val (ok_comp (own := [("sign", 1)]) (T := [1]) g.hc g.hN (by decide) (pn_no hpn _ (by decide)) (oi_str (ok_var 0)) (blk_mk (by kernel_rfl) rfl) (fun _ _ _ _ _ => gv g.blk hpn 1) (fun _ _ _ _ _ => oc_nil) (fun _ _ _ _ _ => g_inS g.blk (oo_var 1) (oo_val (ok_gstr T.g_SIGNS))))) oa_nil))))), hm, F.kp, hb⟩⟩
theorem sc_names_looked : FnScope ["names", "at"] ["names"] (defScope st_names_looked) := ⟨rfl, rfl, rfl, by decide +kernel, rfl, by decide +kernel, by decide +kernel⟩
theorem ok_names_looked (T : Txt K mg A) : GF P w K mg base (cc K A) "names_looked" 1 2 s_names_looked := by
  obtain ⟨fa, fd, F, hm, hb⟩ := T.d_names_looked.ex
  exact ⟨⟨fa, fd, ["names"], def_ok (mu := false) (k := 1) F sc_names_looked rfl (by decide) T.I (fun cdv Ar outer s H E pn g hpn => ss_one (g_for g (oi_range1 T.m_range (oa_cons (oo_val (g_len g T.m_len (oa_cons (oo_var 0) oa_nil))) (oa_nil))) (gv g hpn 1) (ss_cons (os_if (ot_not (ot_val (ok_call0 (GF.at (ok_is_name T) g.hr (by omega)) ar_mkF g.tk (oa_cons (oo_val (g_ix g (oo_var 0) (oo_var 1))) (oa_nil))))) (ss_one (os_stk)) (ss_nil)) (ss_one (os_if (t_in g (oo_val (g_ix g (oo_var 0) (oo_var 1))) (oo_val (g_cut g (oo_var 0) .none (.some (oo_var 1))))) (ss_one (os_stk)) (ss_nil)))))), hm, F.kp, hb⟩⟩
theorem sc_Choices_init : FnScope ["self", "things", "rows", "seen", "row"] ["self", "things", "rows"] (defScope st_Choices_init) := ⟨rfl, rfl, rfl, by decide +kernel, rfl, by decide +kernel, by decide +kernel⟩
theorem ok_Choices_init (T : Txt K mg A) : GN P w K mg base (cc K A) "Choices" 0 3 5 s_Choices_init := by
  obtain ⟨fa, fd, F, hm, hb⟩ := T.d_Choices_init.ex
  exact ⟨⟨fa, fd, ["self", "things", "rows"], def_ok (mu := true) (k := 4) F sc_Choices_init rfl (by decide) T.I (fun cdv Ar outer s H E pn g hpn => ss_cons (os_if ((ow_or (ot_not (ot_val (ok_call0 (GF.at (ok_is_list T) g.hr (by omega)) ar_mkF g.tk (oa_cons (oo_val (ok_var 1)) (oa_nil))))) (ow_or1 (t_eq g (oo_val (g_len g T.m_len (oa_cons (oo_var 1) oa_nil))) (oo_val (ok_int))))).t) (ss_one (os_stk)) (ss_nil)) (ss_cons (os_expr (ok_call0 (GF.at (ok_names_looked T) g.hr (by omega)) ar_mkF g.tk (oa_cons (oo_val (ok_var 1)) (oa_nil)))) (ss_cons (os_if (ot_not (ot_val (ok_call0 (GF.at (ok_is_list T) g.hr (by omega)) ar_mkF g.tk (oa_cons (oo_val (ok_var 2)) (oa_nil))))) (ss_one (os_stk)) (ss_nil)) (ss_cons (g_set g hpn 3 (ok_dctT)) (ss_cons (g_for g (oi_seq g.hK (ok_var 2)) (gv g hpn 4) (ss_cons (os_if (ot_not (ot_val (ok_call0 (GF.at (ok_is_choice T) g.hr (by omega)) ar_mkF g.tk (oa_cons (oo_val (g_len g T.m_len (oa_cons (oo_var 1) oa_nil))) (oa_cons (oo_val (ok_var 4)) (oa_nil)))))) (ss_one (os_stk)) (ss_nil)) (ss_cons (os_if (t_inT g (oo_val (g_tuple g T.m_tuple (oa_cons (oo_val (g_ix g (oo_var 4) (oo_val (ok_int)))) oa_nil))) (oo_var 3)) (ss_one (os_stk)) (ss_nil)) (ss_one (os_putT 3 g.hK g.hu1 (oo_val (g_tuple g T.m_tuple (oa_cons (oo_val (g_ix g (oo_var 4) (oo_val (ok_int)))) oa_nil))) (ok_bl)))))) (ss_cons (os_fld 0 g.hK T.n_things (g_tuple g T.m_tuple (oa_cons (oo_var 1) oa_nil))) (ss_cons (os_fld 0 g.hK T.n_rows (g_tuple g T.m_tuple (oa_cons (oo_val (ok_comp (own := [("row", 4)]) (T := [4]) g.hc g.hN (by decide) (pn_no hpn _ (by decide)) (oi_seq g.hK (ok_var 2)) (blk_mk (by kernel_rfl) rfl) (fun _ _ _ _ _ => gv g.blk hpn 4) (fun _ _ _ _ _ => oc_nil) (fun _ _ _ _ _ => ok_tup (oa_cons (oo_val (g_tuple g.blk T.m_tuple (oa_cons (oo_val (g_ix g.blk (oo_var 4) (oo_val (ok_int)))) oa_nil))) (oa_cons (oo_val (g_tuple g.blk T.m_tuple (oa_cons (oo_val (g_ix g.blk (oo_var 4) (oo_val (ok_int)))) oa_nil))) (oa_nil)))))) oa_nil))) (ss_cons (os_fld 0 g.hK T.n_many (g_len g T.m_len (oa_cons (oo_val (ok_attr g.hK T.n_things (oo_var 0))) oa_nil))) (ss_one (os_fld 0 g.hK T.n_size (g_len g T.m_len (oa_cons (oo_val (ok_attr g.hK T.n_rows (oo_var 0))) oa_nil)))))))))))), T.c_Choices, hm, hb⟩, T.gd 0 (by decide)⟩
theorem sc_Order_eq : FnScope ["self", "other"] ["self", "other"] (defScope st_Order_eq) := ⟨rfl, rfl, rfl, by decide +kernel, rfl, by decide +kernel, by decide +kernel⟩
theorem ok_Order_eq (T : Txt K mg A) : GE P w K mg base (cc K A) 1 1 s_Order_eq := by
  obtain ⟨fa, fd, F, hb, hf, hi⟩ := T.d_Order_eq.ex
  exact ⟨⟨fa, fd, ["self", "other"], def_ok (mu := false) (k := 0) F sc_Order_eq rfl (by decide) T.I (fun cdv Ar outer s H E pn g hpn => ss_one (os_ret (ov_and (ok_isi g.hK g.I T.m_isinstance (oo_var 1) (oy_own T.c_Order (show 1 < 4 by decide))) (ov_one (g_eq g (oo_val (ok_attr g.hK T.n_things (oo_var 0))) (oo_val (ok_attr g.hK T.n_things (oo_var 1)))))))), hb, hf, hi⟩, T.d_Order_eq.ne⟩
theorem sc_Order_init : FnScope ["self", "things"] ["self", "things"] (defScope st_Order_init) := ⟨rfl, rfl, rfl, by decide +kernel, rfl, by decide +kernel, by decide +kernel⟩
theorem ok_Order_init (T : Txt K mg A) : GN P w K mg base (cc K A) "Order" 1 2 8 s_Order_init := by
  obtain ⟨fa, fd, F, hm, hb⟩ := T.d_Order_init.ex
  exact ⟨⟨fa, fd, ["self", "things"], def_ok (mu := true) (k := 7) F sc_Order_init rfl (by decide) T.I (fun cdv Ar outer s H E pn g hpn => ss_one (os_fld 0 g.hK T.n_things (ok_call0 (GF.at (ok_frozen T 6) g.hr (by omega)) (ar_frozen 6) g.tk (oa_cons (oo_val (ok_var 1)) (oa_nil))))), T.c_Order, hm, hb⟩, T.gd 1 (by decide)⟩
theorem sc_Upward_eq : FnScope ["self", "other"] ["self", "other"] (defScope st_Upward_eq) := ⟨rfl, rfl, rfl, by decide +kernel, rfl, by decide +kernel, by decide +kernel⟩
theorem ok_Upward_eq (T : Txt K mg A) : GE P w K mg base (cc K A) 2 1 s_Upward_eq := by
  obtain ⟨fa, fd, F, hb, hf, hi⟩ := T.d_Upward_eq.ex
  exact ⟨⟨fa, fd, ["self", "other"], def_ok (mu := false) (k := 0) F sc_Upward_eq rfl (by decide) T.I (fun cdv Ar outer s H E pn g hpn => ss_one (os_ret (ov_and (ok_isi g.hK g.I T.m_isinstance (oo_var 1) (oy_own T.c_Upward (show 2 < 4 by decide))) (ov_one (g_eq g (oo_val (ok_attr g.hK T.n_rows (oo_var 0))) (oo_val (ok_attr g.hK T.n_rows (oo_var 1)))))))), hb, hf, hi⟩, T.d_Upward_eq.ne⟩
theorem sc_Upward_init : FnScope ["self", "rows"] ["self", "rows"] (defScope st_Upward_init) := ⟨rfl, rfl, rfl, by decide +kernel, rfl, by decide +kernel, by decide +kernel⟩
theorem ok_Upward_init (T : Txt K mg A) : GN P w K mg base (cc K A) "Upward" 2 2 8 s_Upward_init := by
  obtain ⟨fa, fd, F, hm, hb⟩ := T.d_Upward_init.ex
  exact ⟨⟨fa, fd, ["self", "rows"], def_ok (mu := true) (k := 7) F sc_Upward_init rfl (by decide) T.I (fun cdv Ar outer s H E pn g hpn => ss_one (os_fld 0 g.hK T.n_rows (ok_call0 (GF.at (ok_frozen T 6) g.hr (by omega)) (ar_frozen 6) g.tk (oa_cons (oo_val (ok_var 1)) (oa_nil))))), T.c_Upward, hm, hb⟩, T.gd 2 (by decide)⟩
theorem sc_law_first : FnScope ["order", "seen", "thing"] ["order", "seen"] (defScope st_law_first) := ⟨rfl, rfl, rfl, by decide +kernel, rfl, by decide +kernel, by decide +kernel⟩
theorem ok_law_first (T : Txt K mg A) : GF P w K mg base (cc K A) "_law_first" 2 1 s_law_first := by
  obtain ⟨fa, fd, F, hm, hb⟩ := T.d_law_first.ex
  exact ⟨⟨fa, fd, ["order", "seen"], def_ok (mu := false) (k := 0) F sc_law_first rfl (by decide) T.I (fun cdv Ar outer s H E pn g hpn => ss_one (os_ret (g_ix g (oo_val (ok_comp (own := [("thing", 2)]) (T := [2]) g.hc g.hN (by decide) (pn_no hpn _ (by decide)) (oi_seq g.hK (ok_var 0)) (blk_mk (by kernel_rfl) rfl) (fun _ _ _ _ _ => gv g.blk hpn 2) (fun _ _ _ _ _ => oc_one (t_in g.blk (oo_var 2) (oo_var 1))) (fun _ _ _ _ _ => ok_var 2))) (oo_val (ok_int))))), hm, F.kp, hb⟩⟩
theorem sc_law_is_int : FnScope ["thing"] ["thing"] (defScope st_law_is_int) := ⟨rfl, rfl, rfl, by decide +kernel, rfl, by decide +kernel, by decide +kernel⟩
theorem ok_law_is_int (T : Txt K mg A) : GF P w K mg base (cc K A) "_law_is_int" 1 1 s_law_is_int := by
  obtain ⟨fa, fd, F, hm, hb⟩ := T.d_law_is_int.ex
  exact ⟨⟨fa, fd, ["thing"], def_ok (mu := false) (k := 0) F sc_law_is_int rfl (by decide) T.I (fun cdv Ar outer s H E pn g hpn => ss_one (os_ret (ov_and (ok_isi g.hK g.I T.m_isinstance (oo_var 0) (oy_ty .int T.m_int (by decide +kernel) rfl trivial)) (ov_one (ov_not (ok_isi g.hK g.I T.m_isinstance (oo_var 0) (oy_ty .bool T.m_bool (by decide +kernel) rfl trivial))))))), hm, F.kp, hb⟩⟩
theorem sc_law_against_right : FnScope ["many", "rows", "i", "j", "order", "thing", "seen", "chosen"] ["many", "rows", "i", "j", "order"] (defScope st_law_against_right) := ⟨rfl, rfl, rfl, by decide +kernel, rfl, by decide +kernel, by decide +kernel⟩
theorem ok_law_against_right (T : Txt K mg A) : GF P w K mg base (cc K A) "_law_against_right" 5 2 s_law_against_right := by
  obtain ⟨fa, fd, F, hm, hb⟩ := T.d_law_against_right.ex
  exact ⟨⟨fa, fd, ["many", "rows", "i", "j", "order"], def_ok (mu := false) (k := 1) F sc_law_against_right rfl (by decide) T.I (fun cdv Ar outer s H E pn g hpn => ss_cons (os_if ((ow_or (ot_not (ot_val (ok_isi g.hK g.I T.m_isinstance (oo_var 4) (oy_ty .tuple T.m_tuple (by decide +kernel) rfl trivial)))) (ow_or (ot_not (ot_val (g_all g T.m_all (oa_cons (oo_val (ok_comp (own := [("thing", 5)]) (T := [5]) g.hc g.hN (by decide) (pn_no hpn _ (by decide)) (oi_seq g.hK (ok_var 4)) (blk_mk (by kernel_rfl) rfl) (fun _ _ _ _ _ => gv g.blk hpn 5) (fun _ _ _ _ _ => oc_nil) (fun _ _ _ _ _ => ok_call0 (GF.at (ok_law_is_int T) g.blk.hr (by omega)) ar_mkF g.blk.tk (oa_cons (oo_val (ok_var 5)) (oa_nil))))) oa_nil)))) (ow_or1 (t_ne g (oo_val (g_sorted g T.m_sorted (oa_cons (oo_var 4) oa_nil))) (oo_val (ok_lstRg1 g.hc T.m_list T.m_range (oo_var 0))))))).t) (ss_one (os_ret (ok_bl))) (ss_nil)) (ss_one (os_ret (ov_and (g_all g T.m_all (oa_cons (oo_val (ok_comp (own := [("seen", 6), ("chosen", 7)]) (T := [6, 7]) g.hc g.hN (by decide) (pn_no hpn _ (by decide)) (oi_seq g.hK (ok_var 1)) (blk_mk (by kernel_rfl) rfl) (fun _ _ _ _ _ => gt g.blk (ogs_cons (gv g.blk hpn 6) (ogs_cons (gv g.blk hpn 7) (ogs_nil)))) (fun _ _ _ _ _ => oc_nil) (fun _ _ _ _ _ => g_eq g.blk (oo_val (ok_call0 (GF.at (ok_law_first T) g.blk.hr (by omega)) ar_mkF g.blk.tk (oa_cons (oo_val (ok_var 4)) (oa_cons (oo_val (ok_var 6)) (oa_nil))))) (oo_val (g_ix g.blk (oo_var 7) (oo_val (ok_int))))))) oa_nil)) (ov_one (g_lt g (oo_val (ok_index g.hK (oo_var 4) (oa_cons (oo_var 3) oa_nil))) (oo_val (ok_index g.hK (oo_var 4) (oa_cons (oo_var 2) oa_nil))))))))), hm, F.kp, hb⟩⟩
theorem sc_law_orders : FnScope ["many", "layer", "lap", "longer", "way", "thing"] ["many"] (defScope st_law_orders) := ⟨rfl, rfl, rfl, by decide +kernel, rfl, by decide +kernel, by decide +kernel⟩
theorem ok_law_orders (T : Txt K mg A) : GF P w K mg base (cc K A) "_law_orders" 1 1 s_law_orders := by
  obtain ⟨fa, fd, F, hm, hb⟩ := T.d_law_orders.ex
  exact ⟨⟨fa, fd, ["many"], def_ok (mu := false) (k := 0) F sc_law_orders rfl (by decide) T.I (fun cdv Ar outer s H E pn g hpn => ss_cons (g_set g hpn 1 (ok_lst (oa_cons (oo_val (ok_tup (oa_nil))) (oa_nil)))) (ss_cons (g_for g (oi_range1 T.m_range (oa_cons (oo_var 0) (oa_nil))) (gv g hpn 2) (ss_cons (g_set g hpn 3 (ok_lst (oa_nil))) (ss_cons (g_for g (oi_seq g.hK (ok_var 1)) (gv g hpn 4) (ss_one (g_set g hpn 3 (g_add g (oo_var 3) (oo_val (ok_comp (own := [("thing", 5)]) (T := [5]) g.hc g.hN (by decide) (pn_no hpn _ (by decide)) (oi_range1 T.m_range (oa_cons (oo_var 0) (oa_nil))) (blk_mk (by kernel_rfl) rfl) (fun _ _ _ _ _ => gv g.blk hpn 5) (fun _ _ _ _ _ => oc_one (t_notIn g.blk (oo_var 5) (oo_var 4))) (fun _ _ _ _ _ => g_add g.blk (oo_var 4) (oo_val (ok_tup (oa_cons (oo_val (ok_var 5)) (oa_nil))))))))))) (ss_one (g_set g hpn 1 (ok_var 3)))))) (ss_one (os_ret (ok_var 1))))), hm, F.kp, hb⟩⟩
theorem sc_law_agreeing : FnScope ["many", "rows", "order", "seen", "chosen"] ["many", "rows"] (defScope st_law_agreeing) := ⟨rfl, rfl, rfl, by decide +kernel, rfl, by decide +kernel, by decide +kernel⟩
theorem ok_law_agreeing (T : Txt K mg A) : GF P w K mg base (cc K A) "_law_agreeing" 2 2 s_law_agreeing := by
  obtain ⟨fa, fd, F, hm, hb⟩ := T.d_law_agreeing.ex
  exact ⟨⟨fa, fd, ["many", "rows"], def_ok (mu := false) (k := 1) F sc_law_agreeing rfl (by decide) T.I (fun cdv Ar outer s H E pn g hpn => ss_one (os_ret (ok_comp (own := [("order", 2)]) (T := [2]) g.hc g.hN (by decide) (pn_no hpn _ (by decide)) (oi_seq g.hK (ok_call0 (GF.at (ok_law_orders T) g.hr (by omega)) ar_mkF g.tk (oa_cons (oo_val (ok_var 0)) (oa_nil)))) (blk_mk (by kernel_rfl) rfl) (fun _ _ _ _ _ => gv g.blk hpn 2) (fun _ _ _ _ _ => oc_one (ot_val (g_all g.blk T.m_all (oa_cons (oo_val (ok_comp (own := [("seen", 3), ("chosen", 4)]) (T := [3, 4]) g.blk.hc g.blk.hN (by decide) (pn_no hpn _ (by decide)) (oi_seq g.blk.hK (ok_var 1)) (blk_mk (by kernel_rfl) rfl) (fun _ _ _ _ _ => gt g.blk.blk (ogs_cons (gv g.blk.blk hpn 3) (ogs_cons (gv g.blk.blk hpn 4) (ogs_nil)))) (fun _ _ _ _ _ => oc_nil) (fun _ _ _ _ _ => g_eq g.blk.blk (oo_val (ok_call0 (GF.at (ok_law_first T) g.blk.blk.hr (by omega)) ar_mkF g.blk.blk.tk (oa_cons (oo_val (ok_var 2)) (oa_cons (oo_val (ok_var 3)) (oa_nil))))) (oo_val (g_ix g.blk.blk (oo_var 4) (oo_val (ok_int))))))) oa_nil)))) (fun _ _ _ _ _ => ok_var 2)))), hm, F.kp, hb⟩⟩
theorem sc_law_draw : FnScope ["pen", "many", "cell", "digit", "blend"] ["pen", "many"] (defScope st_law_draw) := ⟨rfl, rfl, rfl, by decide +kernel, rfl, by decide +kernel, by decide +kernel⟩
theorem ok_law_draw (T : Txt K mg A) : GF P w K mg base (cc K A) "_law_draw" 2 1 s_law_draw := by
  obtain ⟨fa, fd, F, hm, hb⟩ := T.d_law_draw.ex
  exact ⟨⟨fa, fd, ["pen", "many"], def_ok (mu := true) (k := 0) F sc_law_draw rfl (by decide) T.I (fun cdv Ar outer s H E pn g hpn => ss_cons (os_put 0 g.hu1 (oo_val (ok_str)) (g_add g (oo_val (g_ix g (oo_var 0) (oo_val (ok_str)))) (oo_val (ok_int)))) (ss_cons (os_if ((ow_and (t_eq g (oo_val (g_ix g (oo_var 0) (oo_val (ok_str)))) (oo_val (ok_int))) (ow_and1 (t_lt g (oo_val (g_ix g (oo_var 0) (oo_val (ok_str)))) (oo_val (g_len g T.m_len (oa_cons (oo_val (g_ix g (oo_var 0) (oo_val (ok_str)))) oa_nil)))))).t) (ss_cons (g_set g hpn 2 (g_ix g (oo_val (g_ix g (oo_var 0) (oo_val (ok_str)))) (oo_val (g_ix g (oo_var 0) (oo_val (ok_str)))))) (ss_cons (os_put 0 g.hu1 (oo_val (ok_str)) (g_add g (oo_val (g_ix g (oo_var 0) (oo_val (ok_str)))) (oo_val (ok_int)))) (ss_one (os_if (t_ge g (oo_var 2) (oo_val (g_pow g (oo_val (ok_int)) (oo_val (ok_int))))) (ss_one (os_put 0 g.hu1 (oo_val (ok_str)) (g_sub g (oo_var 2) (oo_val (g_pow g (oo_val (ok_int)) (oo_val (ok_int))))))) (ss_one (os_put 0 g.hu1 (oo_val (ok_str)) (g_mod g (oo_val (g_int g T.m_int (oa_cons (oo_val (g_add g (oo_val (g_mul g (oo_val (g_ix g (oo_var 0) (oo_val (ok_str)))) (oo_val (ok_int)))) (oo_var 2))) oa_nil))) (oo_val (ok_int))))))))) (ss_nil)) (ss_cons (os_if (t_gt g (oo_val (g_ix g (oo_var 0) (oo_val (ok_str)))) (oo_val (ok_int))) (ss_cons (g_set g hpn 3 (g_mod g (oo_val (g_int g T.m_int (oa_cons (oo_val (g_ix g (oo_var 0) (oo_val (ok_str)))) oa_nil))) (oo_var 1))) (ss_cons (os_put 0 g.hu1 (oo_val (ok_str)) (g_div g (oo_val (g_ix g (oo_var 0) (oo_val (ok_str)))) (oo_var 1))) (ss_one (os_ret (ok_var 3))))) (ss_nil)) (ss_cons (g_set g hpn 4 (g_add g (oo_val (g_add g (oo_val (g_ix g (oo_var 0) (oo_val (ok_str)))) (oo_val (g_mul g (oo_val (g_ix g (oo_var 0) (oo_val (ok_str)))) (oo_val (ok_int)))))) (oo_val (ok_int)))) (ss_one (os_ret (g_mod g (oo_val (g_div g (oo_val (g_int g T.m_int (oa_cons (oo_val (g_mod g (oo_val (g_pow g (oo_var 4) (oo_val (ok_int)))) (oo_val (ok_int)))) oa_nil))) (oo_val (ok_int)))) (oo_var 1)))))))), hm, F.kp, hb⟩⟩
theorem sc_law_pen : FnScope ["script", "fold", "cell"] ["script"] (defScope st_law_pen) := ⟨rfl, rfl, rfl, by decide +kernel, rfl, by decide +kernel, by decide +kernel⟩
theorem ok_law_pen (T : Txt K mg A) : GF P w K mg base (cc K A) "_law_pen" 1 1 s_law_pen := by
  obtain ⟨fa, fd, F, hm, hb⟩ := T.d_law_pen.ex
  exact ⟨⟨fa, fd, ["script"], def_ok (mu := false) (k := 0) F sc_law_pen rfl (by decide) T.I (fun cdv Ar outer s H E pn g hpn => ss_cons (g_set g hpn 1 (ok_int)) (ss_cons (g_for g (oi_seq g.hK (ok_var 0)) (gv g hpn 2) (ss_one (g_set g hpn 1 (g_mod g (oo_val (g_int g T.m_int (oa_cons (oo_val (g_add g (oo_val (g_mul g (oo_var 1) (oo_val (ok_int)))) (oo_var 2))) oa_nil))) (oo_val (ok_int)))))) (ss_one (os_ret (ok_dct (.cons (pe_str) (oo_val (g_list g T.m_list (oa_cons (oo_var 0) oa_nil))) (.cons (pe_str) (oo_val (ok_int)) (.cons (pe_str) (oo_val (ok_int)) (.cons (pe_str) (oo_val (ok_int)) (.cons (pe_str) (oo_val (ok_var 1)) (.nil)))))) (by simp) (by decide) (by decide)))))), hm, F.kp, hb⟩⟩
theorem sc_law_pick : FnScope ["pen", "some"] ["pen", "some"] (defScope st_law_pick) := ⟨rfl, rfl, rfl, by decide +kernel, rfl, by decide +kernel, by decide +kernel⟩
theorem ok_law_pick (T : Txt K mg A) : GF P w K mg base (cc K A) "_law_pick" 2 2 s_law_pick := by
  obtain ⟨fa, fd, F, hm, hb⟩ := T.d_law_pick.ex
  exact ⟨⟨fa, fd, ["pen", "some"], def_ok (mu := true) (k := 1) F sc_law_pick rfl (by decide) T.I (fun cdv Ar outer s H E pn g hpn => ss_one (os_ret (g_ix g (oo_var 1) (oo_val (ok_call1 (GF.at (ok_law_draw T) g.hr (by omega)) ar_mkF g.tk (oa_cons (oo_var 0) (oa_cons (oo_val (g_len g T.m_len (oa_cons (oo_var 1) oa_nil))) (oa_nil)))))))), hm, F.kp, hb⟩⟩
theorem sc_law_shuffled : FnScope ["pen", "some", "remain", "found", "lap"] ["pen", "some"] (defScope st_law_shuffled) := ⟨rfl, rfl, rfl, by decide +kernel, rfl, by decide +kernel, by decide +kernel⟩
theorem ok_law_shuffled (T : Txt K mg A) : GF P w K mg base (cc K A) "_law_shuffled" 2 2 s_law_shuffled := by
  obtain ⟨fa, fd, F, hm, hb⟩ := T.d_law_shuffled.ex
  exact ⟨⟨fa, fd, ["pen", "some"], def_ok (mu := true) (k := 1) F sc_law_shuffled rfl (by decide) T.I (fun cdv Ar outer s H E pn g hpn => ss_cons (os_par2 (i := 2) (j := 3) g.hc g.hN (pn_ne hpn 2 (by decide)) (pn_ne hpn 3 (by decide)) (by decide) (g_list g T.m_list (oa_cons (oo_var 1) oa_nil)) (ok_lst (oa_nil))) (ss_cons (g_for g (oi_range1 T.m_range (oa_cons (oo_val (g_len g T.m_len (oa_cons (oo_var 1) oa_nil))) (oa_nil))) (gv g hpn 4) (ss_one (os_expr (ok_app 3 (oa_cons (oo_val (ok_popAt 2 (oa_cons (oo_val (ok_call1 (GF.at (ok_law_draw T) g.hr (by omega)) ar_mkF g.tk (oa_cons (oo_var 0) (oa_cons (oo_val (g_len g T.m_len (oa_cons (oo_var 2) oa_nil))) (oa_nil))))) oa_nil))) oa_nil))))) (ss_one (os_ret (ok_var 3))))), hm, F.kp, hb⟩⟩
theorem sc_law_some_list : FnScope ["pen", "many", "lot", "i"] ["pen", "many"] (defScope st_law_some_list) := ⟨rfl, rfl, rfl, by decide +kernel, rfl, by decide +kernel, by decide +kernel⟩
theorem ok_law_some_list (T : Txt K mg A) : GF P w K mg base (cc K A) "_law_some_list" 2 2 s_law_some_list := by
  obtain ⟨fa, fd, F, hm, hb⟩ := T.d_law_some_list.ex
  exact ⟨⟨fa, fd, ["pen", "many"], def_ok (mu := true) (k := 1) F sc_law_some_list rfl (by decide) T.I (fun cdv Ar outer s H E pn g hpn => ss_cons (g_set g hpn 2 (g_tuple g T.m_tuple (oa_cons (oo_val (ok_comp (own := [("i", 3)]) (T := [3]) g.hc g.hN (by decide) (pn_no hpn _ (by decide)) (oi_range1 T.m_range (oa_cons (oo_var 1) (oa_nil))) (blk_mk (by kernel_rfl) rfl) (fun _ _ _ _ _ => gv g.blk hpn 3) (fun _ _ _ _ _ => oc_one (t_eq g.blk (oo_val (ok_call1 (GF.at (ok_law_draw T) g.blk.hr (by omega)) ar_mkF g.blk.tk (oa_cons (oo_var 0) (oa_cons (oo_val (ok_int)) (oa_nil))))) (oo_val (ok_int)))) (fun _ _ _ _ _ => ok_var 3))) oa_nil))) (ss_one (os_ret (ov_if (t_ne g (oo_var 2) (oo_val (ok_tup (oa_nil)))) (ok_var 2) (ok_tup (oa_cons (oo_val (ok_call1 (GF.at (ok_law_draw T) g.hr (by omega)) ar_mkF g.tk (oa_cons (oo_var 0) (oa_cons (oo_val (ok_var 1)) (oa_nil))))) (oa_nil))))))), hm, F.kp, hb⟩⟩
theorem sc_law_single_rows : FnScope ["pen", "many", "size", "order", "rows", "lists", "lap", "seen"] ["pen", "many", "size"] (defScope st_law_single_rows) := ⟨rfl, rfl, rfl, by decide +kernel, rfl, by decide +kernel, by decide +kernel⟩
theorem ok_law_single_rows (T : Txt K mg A) : GF P w K mg base (cc K A) "_law_single_rows" 3 3 s_law_single_rows := by
  obtain ⟨fa, fd, F, hm, hb⟩ := T.d_law_single_rows.ex
  exact ⟨⟨fa, fd, ["pen", "many", "size"], def_ok (mu := true) (k := 2) F sc_law_single_rows rfl (by decide) T.I (fun cdv Ar outer s H E pn g hpn => ss_cons (os_par3 (i := 3) (j := 4) (k := 5) g.hc g.hN (pn_ne hpn 3 (by decide)) (pn_ne hpn 4 (by decide)) (pn_ne hpn 5 (by decide)) (by decide) (by decide) (by decide) (g_tuple g T.m_tuple (oa_cons (oo_val (ok_call1 (GF.at (ok_law_shuffled T) g.hr (by omega)) ar_mkF g.tk (oa_cons (oo_var 0) (oa_cons (oo_val (ok_lstRg1 g.hc T.m_list T.m_range (oo_var 1))) (oa_nil))))) oa_nil)) (ok_lst (oa_nil)) (ok_lst (oa_nil))) (ss_cons (g_for g (oi_range1 T.m_range (oa_cons (oo_var 2) (oa_nil))) (gv g hpn 6) (ss_cons (g_set g hpn 7 (ov_if (t_eq g (oo_val (ok_call1 (GF.at (ok_law_draw T) g.hr (by omega)) ar_mkF g.tk (oa_cons (oo_var 0) (oa_cons (oo_val (ok_int)) (oa_nil))))) (oo_val (ok_int))) (ok_call1 (GF.at (ok_law_some_list T) g.hr (by omega)) ar_mkF g.tk (oa_cons (oo_var 0) (oa_cons (oo_val (ok_var 1)) (oa_nil)))) (g_tuple g T.m_tuple (oa_cons (oo_val (g_sorted g T.m_sorted (oa_cons (oo_val (g_cut g (oo_val (ok_call1 (GF.at (ok_law_shuffled T) g.hr (by omega)) ar_mkF g.tk (oa_cons (oo_var 0) (oa_cons (oo_val (ok_lstRg1 g.hc T.m_list T.m_range (oo_var 1))) (oa_nil))))) .none (.some (oo_val (ok_int))))) oa_nil))) oa_nil)))) (ss_one (os_if (t_notInP g (oo_var 7) (oo_var 5)) (ss_cons (os_expr (ok_app 5 (oa_cons (oo_val (ok_var 7)) oa_nil))) (ss_one (os_expr (ok_app 4 (oa_cons (oo_val (ok_tup (oa_cons (oo_val (ok_var 7)) (oa_cons (oo_val (ok_tup (oa_cons (oo_val (ok_call0 (GF.at (ok_law_first T) g.hr (by omega)) ar_mkF g.tk (oa_cons (oo_val (ok_var 3)) (oa_cons (oo_val (ok_var 7)) (oa_nil))))) (oa_nil)))) (oa_nil))))) oa_nil))))) (ss_nil))))) (ss_one (os_ret (ok_tup (oa_cons (oo_val (g_tuple g T.m_tuple (oa_cons (oo_var 4) oa_nil))) (oa_cons (oo_val (ok_var 3)) (oa_nil)))))))), hm, F.kp, hb⟩⟩
theorem sc_law_some_rows : FnScope ["pen", "rows", "steps", "lap", "able", "at"] ["pen", "rows"] (defScope st_law_some_rows) := ⟨rfl, rfl, rfl, by decide +kernel, rfl, by decide +kernel, by decide +kernel⟩
theorem ok_law_some_rows (T : Txt K mg A) : GF P w K mg base (cc K A) "_law_some_rows" 2 3 s_law_some_rows := by
  obtain ⟨fa, fd, F, hm, hb⟩ := T.d_law_some_rows.ex
  exact ⟨⟨fa, fd, ["pen", "rows"], def_ok (mu := true) (k := 2) F sc_law_some_rows rfl (by decide) T.I (fun cdv Ar outer s H E pn g hpn => ss_cons (g_set g hpn 2 (ok_tup (oa_cons (oo_val (ok_call1 (GF.at (ok_law_draw T) g.hr (by omega)) ar_mkF g.tk (oa_cons (oo_var 0) (oa_cons (oo_val (g_len g T.m_len (oa_cons (oo_var 1) oa_nil))) (oa_nil))))) (oa_nil)))) (ss_cons (g_for g (oi_range1 T.m_range (oa_cons (oo_val (ok_call1 (GF.at (ok_law_draw T) g.hr (by omega)) ar_mkF g.tk (oa_cons (oo_var 0) (oa_cons (oo_val (ok_int)) (oa_nil))))) (oa_nil))) (gv g hpn 3) (ss_cons (os_setComp (own := [("at", 5)]) (T := [5]) g.hc g.hN (pn_ne hpn 4 (by decide)) (by decide) (pn_no hpn _ (by decide)) (oi_range1 T.m_range (oa_cons (oo_val (g_len g T.m_len (oa_cons (oo_var 1) oa_nil))) (oa_nil))) (blk_mk (by kernel_rfl) rfl) (fun _ _ _ _ _ => gv g.blk hpn 5) (fun _ _ _ _ _ => oc_one (t_in g.blk (oo_val (g_ix g.blk (oo_val (g_ix g.blk (oo_val (g_ix g.blk (oo_var 1) (oo_var 5))) (oo_val (ok_int)))) (oo_val (ok_int)))) (oo_val (g_ix g.blk (oo_val (g_ix g.blk (oo_var 1) (oo_val (g_ix g.blk (oo_var 2) (oo_val (g_neg g.blk (oo_val (ok_int)))))))) (oo_val (ok_int)))))) (fun _ _ _ _ _ => ok_var 5) (by rfl)) (ss_one (g_set g hpn 2 (g_add g (oo_var 2) (oo_val (ok_tup (oa_cons (oo_val (ok_call1 (GF.at (ok_law_pick T) g.hr (by omega)) ar_mkF g.tk (oa_cons (oo_var 0) (oa_cons (oo_val (ok_var 4)) (oa_nil))))) (oa_nil))))))))) (ss_one (os_ret (ok_var 2))))), hm, F.kp, hb⟩⟩
theorem sc_law_things : FnScope ["many"] ["many"] (defScope st_law_things) := ⟨rfl, rfl, rfl, by decide +kernel, rfl, by decide +kernel, by decide +kernel⟩
theorem ok_law_things (T : Txt K mg A) : GF P w K mg base (cc K A) "_law_things" 1 1 s_law_things := by
  obtain ⟨fa, fd, F, hm, hb⟩ := T.d_law_things.ex
  exact ⟨⟨fa, fd, ["many"], def_ok (mu := false) (k := 0) F sc_law_things rfl (by decide) T.I (fun cdv Ar outer s H E pn g hpn => ss_one (os_ret (g_cut g (oo_val (ok_lst (oa_cons (oo_val (ok_str)) (oa_cons (oo_val (ok_str)) (oa_cons (oo_val (ok_str)) (oa_cons (oo_val (ok_str)) (oa_cons (oo_val (ok_str)) (oa_cons (oo_val (ok_str)) (oa_nil))))))))) .none (.some (oo_var 0))))), hm, F.kp, hb⟩⟩
theorem sc_law_up_right : FnScope ["rows", "i", "j", "steps", "at"] ["rows", "i", "j", "steps"] (defScope st_law_up_right) := ⟨rfl, rfl, rfl, by decide +kernel, rfl, by decide +kernel, by decide +kernel⟩
theorem ok_law_up_right (T : Txt K mg A) : GF P w K mg base (cc K A) "_law_up_right" 4 2 s_law_up_right := by
  obtain ⟨fa, fd, F, hm, hb⟩ := T.d_law_up_right.ex
  exact ⟨⟨fa, fd, ["rows", "i", "j", "steps"], def_ok (mu := false) (k := 1) F sc_law_up_right rfl (by decide) T.I (fun cdv Ar outer s H E pn g hpn => ss_cons (os_if ((ow_or (ot_not (ot_val (ok_isi g.hK g.I T.m_isinstance (oo_var 3) (oy_ty .tuple T.m_tuple (by decide +kernel) rfl trivial)))) (ow_or (t_eq g (oo_var 3) (oo_val (ok_tup (oa_nil)))) (ow_or1 (ot_not (ot_val (g_all g T.m_all (oa_cons (oo_val (ok_comp (own := [("at", 4)]) (T := [4]) g.hc g.hN (by decide) (pn_no hpn _ (by decide)) (oi_seq g.hK (ok_var 3)) (blk_mk (by kernel_rfl) rfl) (fun _ _ _ _ _ => gv g.blk hpn 4) (fun _ _ _ _ _ => oc_nil) (fun _ _ _ _ _ => ov_and (ok_call0 (GF.at (ok_law_is_int T) g.blk.hr (by omega)) ar_mkF g.blk.tk (oa_cons (oo_val (ok_var 4)) (oa_nil))) (ov_one (g_lelt g.blk (oo_val (ok_int)) (oo_var 4) (oo_val (g_len g.blk T.m_len (oa_cons (oo_var 0) oa_nil)))))))) oa_nil))))))).t) (ss_one (os_ret (ok_bl))) (ss_nil)) (ss_cons (os_if ((ow_or (t_ne g (oo_val (g_ix g (oo_val (g_ix g (oo_val (g_ix g (oo_var 0) (oo_val (g_ix g (oo_var 3) (oo_val (ok_int)))))) (oo_val (ok_int)))) (oo_val (ok_int)))) (oo_var 1)) (ow_or (t_notIn g (oo_var 2) (oo_val (g_ix g (oo_val (g_ix g (oo_var 0) (oo_val (g_ix g (oo_var 3) (oo_val (g_neg g (oo_val (ok_int)))))))) (oo_val (ok_int))))) (ow_or1 (t_eq g (oo_val (g_ix g (oo_val (g_ix g (oo_val (g_ix g (oo_var 0) (oo_val (g_ix g (oo_var 3) (oo_val (g_neg g (oo_val (ok_int)))))))) (oo_val (ok_int)))) (oo_val (ok_int)))) (oo_var 2))))).t) (ss_one (os_ret (ok_bl))) (ss_nil)) (ss_one (os_ret (g_all g T.m_all (oa_cons (oo_val (ok_comp (own := [("at", 4)]) (T := [4]) g.hc g.hN (by decide) (pn_no hpn _ (by decide)) (oi_range1 T.m_range (oa_cons (oo_val (g_sub g (oo_val (g_len g T.m_len (oa_cons (oo_var 3) oa_nil))) (oo_val (ok_int)))) (oa_nil))) (blk_mk (by kernel_rfl) rfl) (fun _ _ _ _ _ => gv g.blk hpn 4) (fun _ _ _ _ _ => oc_nil) (fun _ _ _ _ _ => g_in g.blk (oo_val (g_ix g.blk (oo_val (g_ix g.blk (oo_val (g_ix g.blk (oo_var 0) (oo_val (g_ix g.blk (oo_var 3) (oo_val (g_add g.blk (oo_var 4) (oo_val (ok_int)))))))) (oo_val (ok_int)))) (oo_val (ok_int)))) (oo_val (g_ix g.blk (oo_val (g_ix g.blk (oo_var 0) (oo_val (g_ix g.blk (oo_var 3) (oo_var 4))))) (oo_val (ok_int))))))) oa_nil)))))), hm, F.kp, hb⟩⟩
theorem sc_first_of : FnScope ["order", "seen", "thing"] ["order", "seen"] (defScope st_first_of) := ⟨rfl, rfl, rfl, by decide +kernel, rfl, by decide +kernel, by decide +kernel⟩
theorem ok_first_of (T : Txt K mg A) : GF P w K mg base (cc K A) "first_of" 2 1 s_first_of := by
  obtain ⟨fa, fd, F, hm, hb⟩ := T.d_first_of.ex
  exact ⟨⟨fa, fd, ["order", "seen"], def_ok (mu := false) (k := 0) F sc_first_of rfl (by decide) T.I (fun cdv Ar outer s H E pn g hpn => ss_one (os_ret (g_ix g (oo_val (ok_comp (own := [("thing", 2)]) (T := [2]) g.hc g.hN (by decide) (pn_no hpn _ (by decide)) (oi_seq g.hK (ok_var 0)) (blk_mk (by kernel_rfl) rfl) (fun _ _ _ _ _ => gv g.blk hpn 2) (fun _ _ _ _ _ => oc_one (t_in g.blk (oo_var 2) (oo_var 1))) (fun _ _ _ _ _ => ok_var 2))) (oo_val (ok_int))))), hm, F.kp, hb⟩⟩
theorem sc_agrees_with : FnScope ["choices", "order", "seen", "chosen"] ["choices", "order"] (defScope st_agrees_with) := ⟨rfl, rfl, rfl, by decide +kernel, rfl, by decide +kernel, by decide +kernel⟩
theorem ok_agrees_with (T : Txt K mg A) : GF P w K mg base (cc K A) "agrees_with" 2 2 s_agrees_with := by
  obtain ⟨fa, fd, F, hm, hb⟩ := T.d_agrees_with.ex
  exact ⟨⟨fa, fd, ["choices", "order"], def_ok (mu := false) (k := 1) F sc_agrees_with rfl (by decide) T.I (fun cdv Ar outer s H E pn g hpn => ss_one (os_ret (g_all g T.m_all (oa_cons (oo_val (ok_comp (own := [("seen", 2), ("chosen", 3)]) (T := [2, 3]) g.hc g.hN (by decide) (pn_no hpn _ (by decide)) (oi_seq g.hK (ok_attr g.hK T.n_rows (oo_var 0))) (blk_mk (by kernel_rfl) rfl) (fun _ _ _ _ _ => gt g.blk (ogs_cons (gv g.blk hpn 2) (ogs_cons (gv g.blk hpn 3) (ogs_nil)))) (fun _ _ _ _ _ => oc_nil) (fun _ _ _ _ _ => g_eq g.blk (oo_var 3) (oo_val (ok_tup (oa_cons (oo_val (ok_call0 (GF.at (ok_first_of T) g.blk.hr (by omega)) ar_mkF g.blk.tk (oa_cons (oo_val (ok_var 1)) (oa_cons (oo_val (ok_var 2)) (oa_nil))))) (oa_nil))))))) oa_nil)))), hm, F.kp, hb⟩⟩
theorem sc_is_order_of : FnScope ["many", "value", "thing"] ["many", "value"] (defScope st_is_order_of) := ⟨rfl, rfl, rfl, by decide +kernel, rfl, by decide +kernel, by decide +kernel⟩
theorem ok_is_order_of (T : Txt K mg A) : GF P w K mg base (cc K A) "is_order_of" 2 3 s_is_order_of := by
  obtain ⟨fa, fd, F, hm, hb⟩ := T.d_is_order_of.ex
  exact ⟨⟨fa, fd, ["many", "value"], def_ok (mu := false) (k := 2) F sc_is_order_of rfl (by decide) T.I (fun cdv Ar outer s H E pn g hpn => ss_cons (os_if ((ow_or (ot_not (ot_val (ok_isi g.hK g.I T.m_isinstance (oo_var 1) (oy_ty .tuple T.m_tuple (by decide +kernel) rfl trivial)))) (ow_or1 (ot_not (ot_val (g_all g T.m_all (oa_cons (oo_val (ok_comp (own := [("thing", 2)]) (T := [2]) g.hc g.hN (by decide) (pn_no hpn _ (by decide)) (oi_seq g.hK (ok_var 1)) (blk_mk (by kernel_rfl) rfl) (fun _ _ _ _ _ => gv g.blk hpn 2) (fun _ _ _ _ _ => oc_nil) (fun _ _ _ _ _ => ok_call0 (GF.at (ok_is_index T) g.blk.hr (by omega)) ar_mkF g.blk.tk (oa_cons (oo_val (ok_var 0)) (oa_cons (oo_val (ok_var 2)) (oa_nil)))))) oa_nil)))))).t) (ss_one (os_ret (ok_bl))) (ss_nil)) (ss_one (os_ret (g_eq g (oo_val (g_sorted g T.m_sorted (oa_cons (oo_var 1) oa_nil))) (oo_val (ok_lstRg1 g.hc T.m_list T.m_range (oo_var 0))))))), hm, F.kp, hb⟩⟩
theorem sc_told_pairs : FnScope ["choices", "below", "at", "seen", "chosen", "thing", "other", "_"] ["choices"] (defScope st_told_pairs) := ⟨rfl, rfl, rfl, by decide +kernel, rfl, by decide +kernel, by decide +kernel⟩
theorem ok_told_pairs (T : Txt K mg A) : GF P w K mg base (cc K A) "told_pairs" 1 1 s_told_pairs := by
  obtain ⟨fa, fd, F, hm, hb⟩ := T.d_told_pairs.ex
  exact ⟨⟨fa, fd, ["choices"], def_ok (mu := false) (k := 0) F sc_told_pairs rfl (by decide) T.I (fun cdv Ar outer s H E pn g hpn => ss_cons (os_setComp (own := [("_", 7)]) (T := [7]) g.hc g.hN (pn_ne hpn 1 (by decide)) (by decide) (pn_no hpn _ (by decide)) (oi_range1 T.m_range (oa_cons (oo_val (ok_attr g.hK T.n_many (oo_var 0))) (oa_nil))) (blk_mk (by kernel_rfl) rfl) (fun _ _ _ _ _ => gv g.blk hpn 7) (fun _ _ _ _ _ => oc_nil) (fun _ _ _ _ _ => ok_dct0) (by rfl)) (ss_cons (g_for g (oi_range1 T.m_range (oa_cons (oo_val (ok_attr g.hK T.n_size (oo_var 0))) (oa_nil))) (gv g hpn 2) (ss_cons (os_asg (g_ix g (oo_val (ok_attr g.hK T.n_rows (oo_var 0))) (oo_var 2)) (gt g (ogs_cons (gv g hpn 3) (ogs_cons (gv g hpn 4) (ogs_nil))))) (ss_one (g_for g (oi_seq g.hK (ok_var 4)) (gv g hpn 5) (ss_one (g_for g (oi_seq g.hK (ok_var 3)) (gv g hpn 6) (ss_one (os_if ((ow_and (t_ne g (oo_var 6) (oo_var 5)) (ow_and1 (ot_in2 true 6 1 5 g.hu1))).t) (ss_one (os_put2 1 5 6 g.hK g.hu1 (ok_var 2))) (ss_nil))))))))) (ss_one (os_ret (ok_var 1))))), hm, F.kp, hb⟩⟩
theorem sc_least_order : FnScope ["choices", "below", "found", "ready", "thing", "other"] ["choices"] (defScope st_least_order) := ⟨rfl, rfl, rfl, by decide +kernel, rfl, by decide +kernel, by decide +kernel⟩
theorem ok_least_order (T : Txt K mg A) : GF P w K mg base (cc K A) "least_order" 1 2 s_least_order := by
  obtain ⟨fa, fd, F, hm, hb⟩ := T.d_least_order.ex
  exact ⟨⟨fa, fd, ["choices"], def_ok (mu := false) (k := 1) F sc_least_order rfl (by decide) T.I (fun cdv Ar outer s H E pn g hpn => ss_cons (g_set g hpn 1 (ok_call0 (GF.at (ok_told_pairs T) g.hr (by omega)) ar_mkF g.tk (oa_cons (oo_val (ok_var 0)) (oa_nil)))) (ss_cons (g_set g hpn 2 (ok_lst (oa_nil))) (ss_cons (g_while g 200 (t_lt g (oo_val (g_len g T.m_len (oa_cons (oo_var 2) oa_nil))) (oo_val (ok_attr g.hK T.n_many (oo_var 0)))) (ss_cons (os_setComp (own := [("thing", 4)]) (T := [4]) g.hc g.hN (pn_ne hpn 3 (by decide)) (by decide) (pn_no hpn _ (by decide)) (oi_range1 T.m_range (oa_cons (oo_val (ok_attr g.hK T.n_many (oo_var 0))) (oa_nil))) (blk_mk (by kernel_rfl) rfl) (fun _ _ _ _ _ => gv g.blk hpn 4) (fun _ _ _ _ _ => oc_one ((ow_and (t_notIn g.blk (oo_var 4) (oo_var 2)) (ow_and1 (ot_not (ot_val (g_any g.blk T.m_any (oa_cons (oo_val (ok_comp (own := [("other", 5)]) (T := [5]) g.blk.hc g.blk.hN (by decide) (pn_no hpn _ (by decide)) (oi_range1 T.m_range (oa_cons (oo_val (ok_attr g.blk.hK T.n_many (oo_var 0))) (oa_nil))) (blk_mk (by kernel_rfl) rfl) (fun _ _ _ _ _ => gv g.blk.blk hpn 5) (fun _ _ _ _ _ => oc_one (t_notIn g.blk.blk (oo_var 5) (oo_var 2))) (fun _ _ _ _ _ => g_in g.blk.blk (oo_var 4) (oo_val (g_ix g.blk.blk (oo_var 1) (oo_var 5)))))) oa_nil)))))).t)) (fun _ _ _ _ _ => ok_var 4) (by rfl)) (ss_cons (os_if (t_eq g (oo_val (g_len g T.m_len (oa_cons (oo_var 3) oa_nil))) (oo_val (ok_int))) (ss_one (os_ret (ok_non))) (ss_nil)) (ss_one (os_expr (ok_app 2 (oa_cons (oo_val (g_ix g (oo_var 3) (oo_val (ok_int)))) oa_nil))))))) (ss_one (os_ret (g_tuple g T.m_tuple (oa_cons (oo_var 2) oa_nil))))))), hm, F.kp, hb⟩⟩
theorem sc_is_single : FnScope ["choices", "_", "chosen"] ["choices"] (defScope st_is_single) := ⟨rfl, rfl, rfl, by decide +kernel, rfl, by decide +kernel, by decide +kernel⟩
theorem ok_is_single (T : Txt K mg A) : GF P w K mg base (cc K A) "is_single" 1 1 s_is_single := by
  obtain ⟨fa, fd, F, hm, hb⟩ := T.d_is_single.ex
  exact ⟨⟨fa, fd, ["choices"], def_ok (mu := false) (k := 0) F sc_is_single rfl (by decide) T.I (fun cdv Ar outer s H E pn g hpn => ss_one (os_ret (g_all g T.m_all (oa_cons (oo_val (ok_comp (own := [("_", 1), ("chosen", 2)]) (T := [1, 2]) g.hc g.hN (by decide) (pn_no hpn _ (by decide)) (oi_seq g.hK (ok_attr g.hK T.n_rows (oo_var 0))) (blk_mk (by kernel_rfl) rfl) (fun _ _ _ _ _ => gt g.blk (ogs_cons (gv g.blk hpn 1) (ogs_cons (gv g.blk hpn 2) (ogs_nil)))) (fun _ _ _ _ _ => oc_nil) (fun _ _ _ _ _ => g_eq g.blk (oo_val (g_len g.blk T.m_len (oa_cons (oo_var 2) oa_nil))) (oo_val (ok_int))))) oa_nil)))), hm, F.kp, hb⟩⟩
theorem sc_single_looked : FnScope ["choices"] ["choices"] (defScope st_single_looked) := ⟨rfl, rfl, rfl, by decide +kernel, rfl, by decide +kernel, by decide +kernel⟩
theorem ok_single_looked (T : Txt K mg A) : GF P w K mg base (cc K A) "single_looked" 1 2 s_single_looked := by
  obtain ⟨fa, fd, F, hm, hb⟩ := T.d_single_looked.ex
  exact ⟨⟨fa, fd, ["choices"], def_ok (mu := false) (k := 1) F sc_single_looked rfl (by decide) T.I (fun cdv Ar outer s H E pn g hpn => ss_one (os_if (ot_not (ot_val (ok_call0 (GF.at (ok_is_single T) g.hr (by omega)) ar_mkF g.tk (oa_cons (oo_val (ok_var 0)) (oa_nil))))) (ss_one (os_stk)) (ss_nil))), hm, F.kp, hb⟩⟩
theorem sc_agreeing_looked : FnScope ["choices"] ["choices"] (defScope st_agreeing_looked) := ⟨rfl, rfl, rfl, by decide +kernel, rfl, by decide +kernel, by decide +kernel⟩
theorem ok_agreeing_looked (T : Txt K mg A) : GF P w K mg base (cc K A) "agreeing_looked" 1 3 s_agreeing_looked := by
  obtain ⟨fa, fd, F, hm, hb⟩ := T.d_agreeing_looked.ex
  exact ⟨⟨fa, fd, ["choices"], def_ok (mu := false) (k := 2) F sc_agreeing_looked rfl (by decide) T.I (fun cdv Ar outer s H E pn g hpn => ss_cons (os_expr (ok_call0 (GF.at (ok_single_looked T) g.hr (by omega)) ar_mkF g.tk (oa_cons (oo_val (ok_var 0)) (oa_nil)))) (ss_one (os_if (t_isN g (oo_val (ok_call0 (GF.at (ok_least_order T) g.hr (by omega)) ar_mkF g.tk (oa_cons (oo_val (ok_var 0)) (oa_nil)))) (oo_val (ok_non))) (ss_one (os_stk)) (ss_nil)))), hm, F.kp, hb⟩⟩
theorem sc_thing_told : FnScope ["choices", "thing"] ["choices", "thing"] (defScope st_thing_told) := ⟨rfl, rfl, rfl, by decide +kernel, rfl, by decide +kernel, by decide +kernel⟩
theorem ok_thing_told (T : Txt K mg A) : GF P w K mg base (cc K A) "thing_told" 2 3 s_thing_told := by
  obtain ⟨fa, fd, F, hm, hb⟩ := T.d_thing_told.ex
  exact ⟨⟨fa, fd, ["choices", "thing"], def_ok (mu := false) (k := 2) F sc_thing_told rfl (by decide) T.I (fun cdv Ar outer s H E pn g hpn => ss_cons (os_if (ot_not (ot_val (ok_call0 (GF.at (ok_is_index T) g.hr (by omega)) ar_mkF g.tk (oa_cons (oo_val (ok_attr g.hK T.n_many (oo_var 0))) (oa_cons (oo_val (ok_var 1)) (oa_nil)))))) (ss_one (os_stk)) (ss_nil)) (ss_one (os_ret (ok_var 1)))), hm, F.kp, hb⟩⟩
theorem sc_two_things : FnScope ["choices", "thing", "other"] ["choices", "thing", "other"] (defScope st_two_things) := ⟨rfl, rfl, rfl, by decide +kernel, rfl, by decide +kernel, by decide +kernel⟩
theorem ok_two_things (T : Txt K mg A) : GF P w K mg base (cc K A) "two_things" 3 4 s_two_things := by
  obtain ⟨fa, fd, F, hm, hb⟩ := T.d_two_things.ex
  exact ⟨⟨fa, fd, ["choices", "thing", "other"], def_ok (mu := false) (k := 3) F sc_two_things rfl (by decide) T.I (fun cdv Ar outer s H E pn g hpn => ss_cons (os_expr (ok_call0 (GF.at (ok_agreeing_looked T) g.hr (by omega)) ar_mkF g.tk (oa_cons (oo_val (ok_var 0)) (oa_nil)))) (ss_cons (os_expr (ok_call0 (GF.at (ok_thing_told T) g.hr (by omega)) ar_mkF g.tk (oa_cons (oo_val (ok_var 0)) (oa_cons (oo_val (ok_var 1)) (oa_nil))))) (ss_one (os_expr (ok_call0 (GF.at (ok_thing_told T) g.hr (by omega)) ar_mkF g.tk (oa_cons (oo_val (ok_var 0)) (oa_cons (oo_val (ok_var 2)) (oa_nil)))))))), hm, F.kp, hb⟩⟩
theorem sc_against_holds : FnScope ["choices", "thing", "other", "value"] ["choices", "thing", "other", "value"] (defScope st_against_holds) := ⟨rfl, rfl, rfl, by decide +kernel, rfl, by decide +kernel, by decide +kernel⟩
theorem ok_against_holds (T : Txt K mg A) : GF P w K mg base (cc K A) "against_holds" 4 5 s_against_holds := by
  obtain ⟨fa, fd, F, hm, hb⟩ := T.d_against_holds.ex
  exact ⟨⟨fa, fd, ["choices", "thing", "other", "value"], def_ok (mu := false) (k := 4) F sc_against_holds rfl (by decide) T.I (fun cdv Ar outer s H E pn g hpn => ss_cons (os_expr (ok_call0 (GF.at (ok_two_things T) g.hr (by omega)) ar_mkF g.tk (oa_cons (oo_val (ok_var 0)) (oa_cons (oo_val (ok_var 1)) (oa_cons (oo_val (ok_var 2)) (oa_nil)))))) (ss_cons (os_if ((ow_or (ot_not (ot_val (ok_isi g.hK g.I T.m_isinstance (oo_var 3) (oy_own T.c_Against (show 3 < 4 by decide))))) (ow_or1 (ot_not (ot_val (ok_call0 (GF.at (ok_is_order_of T) g.hr (by omega)) ar_mkF g.tk (oa_cons (oo_val (ok_attr g.hK T.n_many (oo_var 0))) (oa_cons (oo_val (ok_attr g.hK T.n_order (oo_var 3))) (oa_nil)))))))).t) (ss_one (os_ret (ok_bl))) (ss_nil)) (ss_one (os_ret (ov_and (ok_call0 (GF.at (ok_agrees_with T) g.hr (by omega)) ar_mkF g.tk (oa_cons (oo_val (ok_var 0)) (oa_cons (oo_val (ok_attr g.hK T.n_order (oo_var 3))) (oa_nil)))) (ov_one (g_lt g (oo_val (ok_index g.hK (oo_val (ok_attr g.hK T.n_order (oo_var 3))) (oa_cons (oo_var 2) oa_nil))) (oo_val (ok_index g.hK (oo_val (ok_attr g.hK T.n_order (oo_var 3))) (oa_cons (oo_var 1) oa_nil)))))))))), hm, F.kp, hb⟩⟩
theorem sc_upward_holds : FnScope ["choices", "thing", "other", "value", "steps", "row", "at"] ["choices", "thing", "other", "value"] (defScope st_upward_holds) := ⟨rfl, rfl, rfl, by decide +kernel, rfl, by decide +kernel, by decide +kernel⟩
theorem ok_upward_holds (T : Txt K mg A) : GF P w K mg base (cc K A) "upward_holds" 4 5 s_upward_holds := by
  obtain ⟨fa, fd, F, hm, hb⟩ := T.d_upward_holds.ex
  exact ⟨⟨fa, fd, ["choices", "thing", "other", "value"], def_ok (mu := false) (k := 4) F sc_upward_holds rfl (by decide) T.I (fun cdv Ar outer s H E pn g hpn => ss_cons (os_expr (ok_call0 (GF.at (ok_two_things T) g.hr (by omega)) ar_mkF g.tk (oa_cons (oo_val (ok_var 0)) (oa_cons (oo_val (ok_var 1)) (oa_cons (oo_val (ok_var 2)) (oa_nil)))))) (ss_cons (os_if ((ow_or (ot_not (ot_val (ok_isi g.hK g.I T.m_isinstance (oo_var 3) (oy_own T.c_Upward (show 2 < 4 by decide))))) (ow_or (ot_not (ot_val (ok_isi g.hK g.I T.m_isinstance (oo_val (ok_attr g.hK T.n_rows (oo_var 3))) (oy_ty .tuple T.m_tuple (by decide +kernel) rfl trivial)))) (ow_or1 (t_eq g (oo_val (g_len g T.m_len (oa_cons (oo_val (ok_attr g.hK T.n_rows (oo_var 3))) oa_nil))) (oo_val (ok_int)))))).t) (ss_one (os_ret (ok_bl))) (ss_nil)) (ss_cons (os_if (ot_not (ot_val (g_all g T.m_all (oa_cons (oo_val (ok_comp (own := [("row", 5)]) (T := [5]) g.hc g.hN (by decide) (pn_no hpn _ (by decide)) (oi_seq g.hK (ok_attr g.hK T.n_rows (oo_var 3))) (blk_mk (by kernel_rfl) rfl) (fun _ _ _ _ _ => gv g.blk hpn 5) (fun _ _ _ _ _ => oc_nil) (fun _ _ _ _ _ => ok_call0 (GF.at (ok_is_index T) g.blk.hr (by omega)) ar_mkF g.blk.tk (oa_cons (oo_val (ok_attr g.blk.hK T.n_size (oo_var 0))) (oa_cons (oo_val (ok_var 5)) (oa_nil)))))) oa_nil)))) (ss_one (os_ret (ok_bl))) (ss_nil)) (ss_cons (g_set g hpn 4 (ok_comp (own := [("row", 5)]) (T := [5]) g.hc g.hN (by decide) (pn_no hpn _ (by decide)) (oi_seq g.hK (ok_attr g.hK T.n_rows (oo_var 3))) (blk_mk (by kernel_rfl) rfl) (fun _ _ _ _ _ => gv g.blk hpn 5) (fun _ _ _ _ _ => oc_nil) (fun _ _ _ _ _ => ok_tup (oa_cons (oo_val (g_ix g.blk (oo_val (g_ix g.blk (oo_val (ok_attr g.blk.hK T.n_rows (oo_var 0))) (oo_var 5))) (oo_val (ok_int)))) (oa_cons (oo_val (g_ix g.blk (oo_val (g_ix g.blk (oo_val (g_ix g.blk (oo_val (ok_attr g.blk.hK T.n_rows (oo_var 0))) (oo_var 5))) (oo_val (ok_int)))) (oo_val (ok_int)))) (oa_nil)))))) (ss_cons (os_if ((ow_or (t_ne g (oo_val (g_ix g (oo_val (g_ix g (oo_var 4) (oo_val (ok_int)))) (oo_val (ok_int)))) (oo_var 1)) (ow_or (t_notIn g (oo_var 2) (oo_val (g_ix g (oo_val (g_ix g (oo_var 4) (oo_val (g_neg g (oo_val (ok_int)))))) (oo_val (ok_int))))) (ow_or1 (t_eq g (oo_var 2) (oo_val (g_ix g (oo_val (g_ix g (oo_var 4) (oo_val (g_neg g (oo_val (ok_int)))))) (oo_val (ok_int)))))))).t) (ss_one (os_ret (ok_bl))) (ss_nil)) (ss_one (os_ret (g_all g T.m_all (oa_cons (oo_val (ok_comp (own := [("at", 6)]) (T := [6]) g.hc g.hN (by decide) (pn_no hpn _ (by decide)) (oi_range1 T.m_range (oa_cons (oo_val (g_sub g (oo_val (g_len g T.m_len (oa_cons (oo_var 4) oa_nil))) (oo_val (ok_int)))) (oa_nil))) (blk_mk (by kernel_rfl) rfl) (fun _ _ _ _ _ => gv g.blk hpn 6) (fun _ _ _ _ _ => oc_nil) (fun _ _ _ _ _ => g_in g.blk (oo_val (g_ix g.blk (oo_val (g_ix g.blk (oo_var 4) (oo_val (g_add g.blk (oo_var 6) (oo_val (ok_int)))))) (oo_val (ok_int)))) (oo_val (g_ix g.blk (oo_val (g_ix g.blk (oo_var 4) (oo_var 6))) (oo_val (ok_int))))))) oa_nil))))))))), hm, F.kp, hb⟩⟩
theorem eqs {X : Cx} {l : Nat} (T : Txt X.K X.mg A) (hr : Room l X.A) (hl : 2 ≤ l) : ∀ k f, teq k = some f → EqOf X (cc X.K A) k f := fun k f h => by
  unfold teq at h
  split at h
  · cases h; exact GE.at (ok_Choices_eq T) hr (by omega)
  · cases h; exact GE.at (ok_Order_eq T) hr (by omega)
  · cases h; exact GE.at (ok_Upward_eq T) hr (by omega)
  · cases h; exact GE.at (ok_Against_eq T) hr (by omega)
  · cases h
theorem sc_law : FnScope ["script", "pen", "many", "rows", "order", "choices", "orders", "lap", "i", "j", "steps", "at", "odd", "got", "way"] ["script"] (defScope st_law) := ⟨rfl, rfl, rfl, by decide +kernel, rfl, by decide +kernel, by decide +kernel⟩
theorem okl (T : Txt K mg A) {fa : Addr} {fd : FuncData} (F : Fun K "law" "law" st_law fa fd) : FnOk P w K mg base (L2.CX P w) 10 fa fd ["script"] (spF (cc K A) 1 s_law) :=
  def_ok (mu := false) (k := 9) F sc_law rfl (by decide) T.I (fun cdv Ar outer s H E pn g hpn => ss_cons (g_set g hpn 1 (ok_call0 (GF.at (ok_law_pen T) g.hr (by omega)) ar_mkF g.tk (oa_cons (oo_val (ok_var 0)) (oa_nil)))) (ss_cons (g_set g hpn 2 (ok_call1 (GF.at (ok_law_pick T) g.hr (by omega)) ar_mkF g.tk (oa_cons (oo_var 1) (oa_cons (oo_val (ok_lst (oa_cons (oo_val (ok_int)) (oa_cons (oo_val (ok_int)) (oa_cons (oo_val (ok_int)) (oa_cons (oo_val (ok_int)) (oa_nil))))))) (oa_nil))))) (ss_cons (os_asg (ok_call1 (GF.at (ok_law_single_rows T) g.hr (by omega)) ar_mkF g.tk (oa_cons (oo_var 1) (oa_cons (oo_val (ok_var 2)) (oa_cons (oo_val (g_add g (oo_val (ok_int)) (oo_val (ok_call1 (GF.at (ok_law_draw T) g.hr (by omega)) ar_mkF g.tk (oa_cons (oo_var 1) (oa_cons (oo_val (ok_int)) (oa_nil))))))) (oa_nil))))) (gt g (ogs_cons (gv g hpn 3) (ogs_cons (gv g hpn 4) (ogs_nil))))) (ss_cons (os_par2 (i := 5) (j := 6) g.hc g.hN (pn_ne hpn 5 (by decide)) (pn_ne hpn 6 (by decide)) (by decide) (ok_new (GN.at (ok_Choices_init T) g.hr (by omega)) ar_mkF g.tk (oa_cons (oo_val (ok_call0 (GF.at (ok_law_things T) g.hr (by omega)) ar_mkF g.tk (oa_cons (oo_val (ok_var 2)) (oa_nil)))) (oa_cons (oo_val (ok_var 3)) (oa_nil)))) (ok_call0 (GF.at (ok_law_agreeing T) g.hr (by omega)) ar_mkF g.tk (oa_cons (oo_val (ok_var 2)) (oa_cons (oo_val (ok_var 3)) (oa_nil))))) (ss_cons (g_for g (oi_range1 T.m_range (oa_cons (oo_val (ok_int)) (oa_nil))) (gv g hpn 7) (ss_cons (os_par2 (i := 8) (j := 9) g.hc g.hN (pn_ne hpn 8 (by decide)) (pn_ne hpn 9 (by decide)) (by decide) (ok_call1 (GF.at (ok_law_draw T) g.hr (by omega)) ar_mkF g.tk (oa_cons (oo_var 1) (oa_cons (oo_val (ok_var 2)) (oa_nil)))) (ok_call1 (GF.at (ok_law_draw T) g.hr (by omega)) ar_mkF g.tk (oa_cons (oo_var 1) (oa_cons (oo_val (ok_var 2)) (oa_nil))))) (ss_cons (g_set g hpn 10 (ok_call1 (GF.at (ok_law_some_rows T) g.hr (by omega)) ar_mkF g.tk (oa_cons (oo_var 1) (oa_cons (oo_val (ok_var 3)) (oa_nil))))) (ss_cons (os_if (t_lt g (oo_var 7) (oo_val (ok_int))) (ss_one (os_par2 (i := 8) (j := 9) g.hc g.hN (pn_ne hpn 8 (by decide)) (pn_ne hpn 9 (by decide)) (by decide) (g_ix g (oo_val (g_ix g (oo_val (g_ix g (oo_var 3) (oo_val (g_ix g (oo_var 10) (oo_val (ok_int)))))) (oo_val (ok_int)))) (oo_val (ok_int))) (ok_call1 (GF.at (ok_law_pick T) g.hr (by omega)) ar_mkF g.tk (oa_cons (oo_var 1) (oa_cons (oo_val (g_list g T.m_list (oa_cons (oo_val (g_ix g (oo_val (g_ix g (oo_var 3) (oo_val (g_ix g (oo_var 10) (oo_val (g_neg g (oo_val (ok_int)))))))) (oo_val (ok_int)))) oa_nil))) (oa_nil)))))) (ss_nil)) (ss_cons (os_if (t_gt g (oo_var 7) (oo_val (ok_int))) (ss_cons (g_set g hpn 11 (ok_call1 (GF.at (ok_law_draw T) g.hr (by omega)) ar_mkF g.tk (oa_cons (oo_var 1) (oa_cons (oo_val (g_add g (oo_val (g_len g T.m_len (oa_cons (oo_var 10) oa_nil))) (oo_val (ok_int)))) (oa_nil))))) (ss_cons (g_set g hpn 12 (ok_call1 (GF.at (ok_law_pick T) g.hr (by omega)) ar_mkF g.tk (oa_cons (oo_var 1) (oa_cons (oo_val (ok_lst (oa_cons (oo_val (g_len g T.m_len (oa_cons (oo_var 3) oa_nil))) (oa_cons (oo_val (g_neg g (oo_val (ok_int)))) (oa_cons (oo_val (ok_non)) (oa_cons (oo_val (ok_bl)) (oa_cons (oo_val (ok_call1 (GF.at (ok_law_draw T) g.hr (by omega)) ar_mkF g.tk (oa_cons (oo_var 1) (oa_cons (oo_val (g_len g T.m_len (oa_cons (oo_var 3) oa_nil))) (oa_nil))))) (oa_nil)))))))) (oa_nil))))) (ss_one (g_set g hpn 10 (ok_call1 (GF.at (ok_law_pick T) g.hr (by omega)) ar_mkF g.tk (oa_cons (oo_var 1) (oa_cons (oo_val (ok_lst (oa_cons (oo_val (ok_var 10)) (oa_cons (oo_val (g_add g (oo_val (g_add g (oo_val (g_cut g (oo_var 10) .none (.some (oo_var 11)))) (oo_val (ok_tup (oa_cons (oo_val (ok_var 12)) (oa_nil)))))) (oo_val (g_cut g (oo_var 10) (.some (oo_val (g_add g (oo_var 11) (oo_val (ok_int))))) .none)))) (oa_cons (oo_val (g_add g (oo_val (g_add g (oo_val (g_cut g (oo_var 10) .none (.some (oo_var 11)))) (oo_val (ok_tup (oa_cons (oo_val (ok_var 12)) (oa_nil)))))) (oo_val (g_cut g (oo_var 10) (.some (oo_var 11)) .none)))) (oa_cons (oo_val (g_cut g (oo_var 10) (.some (oo_val (ok_int))) .none)) (oa_cons (oo_val (g_rev g (oo_var 10))) (oa_cons (oo_val (ok_non)) (oa_cons (oo_val (ok_tup (oa_nil))) (oa_cons (oo_val (ok_int)) (oa_nil))))))))))) (oa_nil)))))))) (ss_nil)) (ss_cons (g_set g hpn 13 (ok_call0 (GF.at (ok_upward_holds T) g.hr (by omega)) ar_mkF g.tk (oa_cons (oo_val (ok_var 5)) (oa_cons (oo_val (ok_var 8)) (oa_cons (oo_val (ok_var 9)) (oa_cons (oo_val (ok_new (GN.at (ok_Upward_init T) g.hr (by omega)) ar_mkF g.tk (oa_cons (oo_val (ov_if (t_eq g (oo_var 7) (oo_val (ok_int))) (g_list g T.m_list (oa_cons (oo_var 10) oa_nil)) (ok_var 10))) (oa_nil)))) (oa_nil))))))) (ss_cons (os_if ((ow_or (ot_not (ot_val (ok_isi g.hK g.I T.m_isinstance (oo_var 13) (oy_ty .bool T.m_bool (by decide +kernel) rfl trivial)))) (ow_or1 (t_ne g (oo_var 13) (oo_val (ok_call0 (GF.at (ok_law_up_right T) g.hr (by omega)) ar_mkF g.tk (oa_cons (oo_val (ok_var 3)) (oa_cons (oo_val (ok_var 8)) (oa_cons (oo_val (ok_var 9)) (oa_cons (oo_val (ok_var 10)) (oa_nil)))))))))).t) (ss_one (os_ret (ok_bl))) (ss_nil)) (ss_cons (g_set g hpn 14 (ok_call1 (GF.at (ok_law_pick T) g.hr (by omega)) ar_mkF g.tk (oa_cons (oo_var 1) (oa_cons (oo_val (ok_var 6)) (oa_nil))))) (ss_cons (os_if (t_gt g (oo_var 7) (oo_val (ok_int))) (ss_one (g_set g hpn 14 (ok_call1 (GF.at (ok_law_pick T) g.hr (by omega)) ar_mkF g.tk (oa_cons (oo_var 1) (oa_cons (oo_val (ok_lst (oa_cons (oo_val (ok_var 14)) (oa_cons (oo_val (g_rev g (oo_var 14))) (oa_cons (oo_val (g_cut g (oo_var 14) (.some (oo_val (ok_int))) .none)) (oa_cons (oo_val (g_add g (oo_var 14) (oo_val (ok_tup (oa_cons (oo_val (ok_int)) (oa_nil)))))) (oa_cons (oo_val (g_add g (oo_val (g_cut g (oo_var 14) .none (.some (oo_val (g_neg g (oo_val (ok_int))))))) (oo_val (ok_tup (oa_cons (oo_val (ok_non)) (oa_nil)))))) (oa_cons (oo_val (ok_non)) (oa_cons (oo_val (g_tuple g T.m_tuple (oa_cons (oo_val (ok_call1 (GF.at (ok_law_shuffled T) g.hr (by omega)) ar_mkF g.tk (oa_cons (oo_var 1) (oa_cons (oo_val (ok_lstRg1 g.hc T.m_list T.m_range (oo_var 2))) (oa_nil))))) oa_nil))) (oa_cons (oo_val (g_add g (oo_val (ok_tup (oa_cons (oo_val (ok_bl)) (oa_nil)))) (oo_val (g_cut g (oo_var 14) (.some (oo_val (ok_int))) .none)))) (oa_cons (oo_val (ok_int)) (oa_nil)))))))))))) (oa_nil)))))) (ss_nil)) (ss_cons (g_set g hpn 13 (ok_call0 (GF.at (ok_against_holds T) g.hr (by omega)) ar_mkF g.tk (oa_cons (oo_val (ok_var 5)) (oa_cons (oo_val (ok_var 8)) (oa_cons (oo_val (ok_var 9)) (oa_cons (oo_val (ok_new (GN.at (ok_Against_init T) g.hr (by omega)) ar_mkF g.tk (oa_cons (oo_val (ov_if (t_eq g (oo_var 7) (oo_val (ok_int))) (g_list g T.m_list (oa_cons (oo_var 14) oa_nil)) (ok_var 14))) (oa_nil)))) (oa_nil))))))) (ss_one (os_if ((ow_or (ot_not (ot_val (ok_isi g.hK g.I T.m_isinstance (oo_var 13) (oy_ty .bool T.m_bool (by decide +kernel) rfl trivial)))) (ow_or1 (t_ne g (oo_var 13) (oo_val (ok_call0 (GF.at (ok_law_against_right T) g.hr (by omega)) ar_mkF g.tk (oa_cons (oo_val (ok_var 2)) (oa_cons (oo_val (ok_var 3)) (oa_cons (oo_val (ok_var 8)) (oa_cons (oo_val (ok_var 9)) (oa_cons (oo_val (ok_var 14)) (oa_nil))))))))))).t) (ss_one (os_ret (ok_bl))) (ss_nil))))))))))))) (ss_cons (g_for g (oi_seq g.hK (ok_lst (oa_cons (oo_val (ok_non)) (oa_cons (oo_val (ok_int)) (oa_cons (oo_val (ok_tup (oa_nil))) (oa_cons (oo_val (ok_str)) (oa_cons (oo_val (ok_var 5)) (oa_cons (oo_val (ok_new (GN.at (ok_Upward_init T) g.hr (by omega)) ar_mkF g.tk (oa_cons (oo_val (ok_non)) (oa_nil)))) (oa_cons (oo_val (ok_new (GN.at (ok_Upward_init T) g.hr (by omega)) ar_mkF g.tk (oa_cons (oo_val (ok_tup (oa_nil))) (oa_nil)))) (oa_cons (oo_val (ok_new (GN.at (ok_Upward_init T) g.hr (by omega)) ar_mkF g.tk (oa_cons (oo_val (ok_int)) (oa_nil)))) (oa_cons (oo_val (ok_new (GN.at (ok_Against_init T) g.hr (by omega)) ar_mkF g.tk (oa_cons (oo_val (ok_non)) (oa_nil)))) (oa_cons (oo_val (ok_new (GN.at (ok_Against_init T) g.hr (by omega)) ar_mkF g.tk (oa_cons (oo_val (ok_tup (oa_nil))) (oa_nil)))) (oa_cons (oo_val (ok_new (GN.at (ok_Order_init T) g.hr (by omega)) ar_mkF g.tk (oa_cons (oo_val (g_ix g (oo_var 6) (oo_val (ok_int)))) (oa_nil)))) (oa_cons (oo_val (g_ix g (oo_var 6) (oo_val (ok_int)))) (oa_nil))))))))))))))) (gv g hpn 12) (ss_one (os_if ((ow_or (t_notB g (oo_val (ok_call0 (GF.at (ok_upward_holds T) g.hr (by omega)) ar_mkF g.tk (oa_cons (oo_val (ok_var 5)) (oa_cons (oo_val (ok_int)) (oa_cons (oo_val (ok_int)) (oa_cons (oo_val (ok_var 12)) (oa_nil))))))) (oo_val (ok_bl))) (ow_or1 (t_notB g (oo_val (ok_call0 (GF.at (ok_against_holds T) g.hr (by omega)) ar_mkF g.tk (oa_cons (oo_val (ok_var 5)) (oa_cons (oo_val (ok_int)) (oa_cons (oo_val (ok_int)) (oa_cons (oo_val (ok_var 12)) (oa_nil))))))) (oo_val (ok_bl))))).t) (ss_one (os_ret (ok_bl))) (ss_nil)))) (ss_cons (os_if ((ow_or (t_neO g (eqs T g.hr (by decide)) (ok_new (GN.at (ok_Upward_init T) g.hr (by omega)) ar_mkF g.tk (oa_cons (oo_val (ok_lst (oa_cons (oo_val (ok_int)) (oa_nil)))) (oa_nil))) (ok_new (GN.at (ok_Upward_init T) g.hr (by omega)) ar_mkF g.tk (oa_cons (oo_val (ok_tup (oa_cons (oo_val (ok_int)) (oa_nil)))) (oa_nil)))) (ow_or (t_eqO g (eqs T g.hr (by decide)) (ok_new (GN.at (ok_Upward_init T) g.hr (by omega)) ar_mkF g.tk (oa_cons (oo_val (ok_tup (oa_cons (oo_val (ok_int)) (oa_nil)))) (oa_nil))) (ok_new (GN.at (ok_Upward_init T) g.hr (by omega)) ar_mkF g.tk (oa_cons (oo_val (ok_tup (oa_cons (oo_val (ok_int)) (oa_nil)))) (oa_nil)))) (ow_or (t_neO g (eqs T g.hr (by decide)) (ok_new (GN.at (ok_Against_init T) g.hr (by omega)) ar_mkF g.tk (oa_cons (oo_val (ok_lst (oa_cons (oo_val (ok_int)) (oa_nil)))) (oa_nil))) (ok_new (GN.at (ok_Against_init T) g.hr (by omega)) ar_mkF g.tk (oa_cons (oo_val (ok_tup (oa_cons (oo_val (ok_int)) (oa_nil)))) (oa_nil)))) (ow_or1 (t_eqO g (eqs T g.hr (by decide)) (ok_new (GN.at (ok_Against_init T) g.hr (by omega)) ar_mkF g.tk (oa_cons (oo_val (ok_tup (oa_cons (oo_val (ok_int)) (oa_nil)))) (oa_nil))) (ok_new (GN.at (ok_Against_init T) g.hr (by omega)) ar_mkF g.tk (oa_cons (oo_val (ok_tup (oa_cons (oo_val (ok_int)) (oa_nil)))) (oa_nil)))))))).t) (ss_one (os_ret (ok_bl))) (ss_nil)) (ss_one (os_ret (g_neO g (eqs T g.hr (by decide)) (ok_new (GN.at (ok_Upward_init T) g.hr (by omega)) ar_mkF g.tk (oa_cons (oo_val (ok_tup (oa_cons (oo_val (ok_int)) (oa_nil)))) (oa_nil))) (ok_new (GN.at (ok_Against_init T) g.hr (by omega)) ar_mkF g.tk (oa_cons (oo_val (ok_tup (oa_cons (oo_val (ok_int)) (oa_nil)))) (oa_nil)))))))))))))
end
end Law

set_option Elab.async false
set_option linter.all false
set_option maxRecDepth 100000
set_option maxHeartbeats 4000000
namespace Law
open PySem Mini
theorem k_cells_at : (("cells" : Str) = "at") = False := by
  have : ¬ (("cells" : Str) = "at") := by decide +kernel
  simp [this]
theorem k_cells_digits : (("cells" : Str) = "digits") = False := by
  have : ¬ (("cells" : Str) = "digits") := by decide +kernel
  simp [this]
theorem k_cells_count : (("cells" : Str) = "count") = False := by
  have : ¬ (("cells" : Str) = "count") := by decide +kernel
  simp [this]
theorem k_cells_fold : (("cells" : Str) = "fold") = False := by
  have : ¬ (("cells" : Str) = "fold") := by decide +kernel
  simp [this]
theorem k_at_cells : (("at" : Str) = "cells") = False := by
  have : ¬ (("at" : Str) = "cells") := by decide +kernel
  simp [this]
theorem k_at_digits : (("at" : Str) = "digits") = False := by
  have : ¬ (("at" : Str) = "digits") := by decide +kernel
  simp [this]
theorem k_at_count : (("at" : Str) = "count") = False := by
  have : ¬ (("at" : Str) = "count") := by decide +kernel
  simp [this]
theorem k_at_fold : (("at" : Str) = "fold") = False := by
  have : ¬ (("at" : Str) = "fold") := by decide +kernel
  simp [this]
theorem k_digits_cells : (("digits" : Str) = "cells") = False := by
  have : ¬ (("digits" : Str) = "cells") := by decide +kernel
  simp [this]
theorem k_digits_at : (("digits" : Str) = "at") = False := by
  have : ¬ (("digits" : Str) = "at") := by decide +kernel
  simp [this]
theorem k_digits_count : (("digits" : Str) = "count") = False := by
  have : ¬ (("digits" : Str) = "count") := by decide +kernel
  simp [this]
theorem k_digits_fold : (("digits" : Str) = "fold") = False := by
  have : ¬ (("digits" : Str) = "fold") := by decide +kernel
  simp [this]
theorem k_count_cells : (("count" : Str) = "cells") = False := by
  have : ¬ (("count" : Str) = "cells") := by decide +kernel
  simp [this]
theorem k_count_at : (("count" : Str) = "at") = False := by
  have : ¬ (("count" : Str) = "at") := by decide +kernel
  simp [this]
theorem k_count_digits : (("count" : Str) = "digits") = False := by
  have : ¬ (("count" : Str) = "digits") := by decide +kernel
  simp [this]
theorem k_count_fold : (("count" : Str) = "fold") = False := by
  have : ¬ (("count" : Str) = "fold") := by decide +kernel
  simp [this]
theorem k_fold_cells : (("fold" : Str) = "cells") = False := by
  have : ¬ (("fold" : Str) = "cells") := by decide +kernel
  simp [this]
theorem k_fold_at : (("fold" : Str) = "at") = False := by
  have : ¬ (("fold" : Str) = "at") := by decide +kernel
  simp [this]
theorem k_fold_digits : (("fold" : Str) = "digits") = False := by
  have : ¬ (("fold" : Str) = "digits") := by decide +kernel
  simp [this]
theorem k_fold_count : (("fold" : Str) = "count") = False := by
  have : ¬ (("fold" : Str) = "count") := by decide +kernel
  simp [this]
theorem feq_int (a b : Int) : fEq (.int a) (.int b) = some (0, .bl (a == b)) := by
  simp [fEq, eqD, toP, SeqAt.shaped, PyData.eqv, PyData.depth, PyData.canLay0]
theorem log256 : Nat.log2 256 = 8 := by decide
local macro_rules | `(tactic| walk_at "sx") => `(tactic| simp [mkF, startE, sSeq, sIf, sSet, sRet, sExpr, sPutK, putS, sawS, vC, vVar, oVar, oV, res, op1, op2, opN, seqM, mapM', tB, tAnd, tOr, tNot, vIf, bnd, Mini.ret, opt, stk, getS, setS, mutOf, isDK, valsOf, vDct, vLst, vTup, fList, fTuple, sPar2, vCall0, vCall1, fIxA, fIx, fGet, keyD, findK, putK, fAdd, fSub, fMul, fDiv, fMod, feq_int, fLt, fGt, fLe, fGe, fPow, fInt, fLen, vInt, vBl, sLine, sNext, log256, k_cells_at, k_cells_digits, k_cells_count, k_cells_fold, k_at_cells, k_at_digits, k_at_count, k_at_fold, k_digits_cells, k_digits_at, k_digits_count, k_digits_fold, k_count_cells, k_count_at, k_count_digits, k_count_fold, k_fold_cells, k_fold_at, k_fold_digits, k_fold_count, *])
abbrev pen (cells : List Int) (at_ dg ct fo : Int) : D := .dK [.inr "cells", .inr "at", .inr "digits", .inr "count", .inr "fold"] [.lst (cells.map .int), .int at_, .int dg, .int ct, .int fo]
/-- a pen from which at most B numbers were drawn -/
def PenOk (B : Int) (p : D) : Prop := ∃ (cells : List Int) (at_ dg ct fo : Int), p = pen cells at_ dg ct fo ∧ 0 ≤ at_ ∧ 0 ≤ dg ∧ 0 ≤ ct ∧ ct ≤ B ∧ 0 ≤ fo ∧ fo < 2147483563
theorem PenOk.mono {B B' : Int} {p : D} (h : PenOk B p) (l : B ≤ B') : PenOk B' p := by
  obtain ⟨cells, a, d, c, f, h1, h2, h3, h4, h5, h6⟩ := h
  exact ⟨cells, a, d, c, f, h1, h2, h3, h4, by omega, h6⟩
theorem draw1 (cells : List Int) (at_ dg ct fo many : Int) (h1 : 0 < dg) (hm : 0 < many) (hm2 : many.natAbs.log2 < 9000) : s_law_draw [(1, pen cells at_ dg ct fo), (0, .int many)] = .ok (0, .int (dg % many)) (some (1, pen cells at_ (dg / many) (ct + 1) fo)) := by
  have h0 : (dg == 0) = false := by simp; omega
  unfold s_law_draw pen
  walk_at "sx"
theorem draw2 (cells : List Int) (at_ ct fo many : Int) (h1 : ¬ at_ < (cells.length : Nat)) (hm : 0 < many) (hm2 : many.natAbs.log2 < 9000) (hb : (fo + (ct + 1) * 8513 + 61).natAbs < 2 ^ 64) : s_law_draw [(1, pen cells at_ 0 ct fo), (0, .int many)] = .ok (0, .int ((fo + (ct + 1) * 8513 + 61) ^ 19 % 2305843009213693951 / 256 % many)) (some (1, pen cells at_ 0 (ct + 1) fo)) := by
  unfold s_law_draw pen
  walk_at "sx"
theorem draw3 (cells : List Int) (at_ ct fo many c : Int) (h1 : at_ < (cells.length : Nat)) (hc : ixD (List.map D.int cells) at_ = some (.int c)) (h18 : 1000000000000000000 < c) (hm : 0 < many) (hm2 : many.natAbs.log2 < 9000) : s_law_draw [(1, pen cells at_ 0 ct fo), (0, .int many)] = .ok (0, .int ((c - 1000000000000000000) % many)) (some (1, pen cells (at_ + 1) ((c - 1000000000000000000) / many) (ct + 1) fo)) := by
  have e1 : (1000000000000000000 ≤ c) := by omega
  unfold s_law_draw pen
  walk_at "sx"
theorem draw4 (cells : List Int) (at_ ct fo many : Int) (h1 : at_ < (cells.length : Nat)) (hc : ixD (List.map D.int cells) at_ = some (.int 1000000000000000000)) (hm : 0 < many) (hm2 : many.natAbs.log2 < 9000) (hb : (fo + (ct + 1) * 8513 + 61).natAbs < 2 ^ 64) : s_law_draw [(1, pen cells at_ 0 ct fo), (0, .int many)] = .ok (0, .int ((fo + (ct + 1) * 8513 + 61) ^ 19 % 2305843009213693951 / 256 % many)) (some (1, pen cells (at_ + 1) 0 (ct + 1) fo)) := by
  unfold s_law_draw pen
  walk_at "sx"
theorem draw5 (cells : List Int) (at_ ct fo many c : Int) (h1 : at_ < (cells.length : Nat)) (hc : ixD (List.map D.int cells) at_ = some (.int c)) (h18 : ¬ 1000000000000000000 ≤ c) (hf : fo.natAbs < 2 ^ 64) (hm : 0 < many) (hm2 : many.natAbs.log2 < 9000) (hb : ((fo * 48271 + c) % 2147483563 + (ct + 1) * 8513 + 61).natAbs < 2 ^ 64) : s_law_draw [(1, pen cells at_ 0 ct fo), (0, .int many)] = .ok (0, .int (((fo * 48271 + c) % 2147483563 + (ct + 1) * 8513 + 61) ^ 19 % 2305843009213693951 / 256 % many)) (some (1, pen cells (at_ + 1) 0 (ct + 1) ((fo * 48271 + c) % 2147483563))) := by
  unfold s_law_draw pen
  walk_at "sx"
theorem log_lt {many : Int} (h : many ≤ 1000000) (h0 : 0 < many) : many.natAbs.log2 < 9000 := by
  have h1 : many.natAbs < 2 ^ 9000 := by
    have : (1000000 : Nat) < 2 ^ 9000 := by
      have : (2 : Nat) ^ 20 ≤ 2 ^ 9000 := Nat.pow_le_pow_right (by decide) (by decide)
      have h2 : (2 : Nat) ^ 20 = 1048576 := by decide
      omega
    omega
  exact (Nat.log2_lt (by omega)).mpr h1
theorem draw_ok {B : Int} {p : D} (h : PenOk B p) (hB : B ≤ 1000000000000) {many : Int} (h0 : 0 < many) (h1 : many ≤ 1000000) : ∃ k p', s_law_draw [(1, p), (0, .int many)] = .ok (0, .int k) (some (1, p')) ∧ 0 ≤ k ∧ k < many ∧ PenOk (B + 1) p' := by
  obtain ⟨cells, a, d, c, f, rfl, p1, p2, p3, p4, p5, p6⟩ := h
  have hl := log_lt h1 h0
  have md : ∀ x : Int, 0 ≤ x % many ∧ x % many < many := fun x => ⟨Int.emod_nonneg _ (by omega), Int.emod_lt_of_pos _ h0⟩
  have p64 : (2 : Nat) ^ 64 = 18446744073709551616 := by decide
  by_cases hd : 0 < d
  · exact ⟨_, _, draw1 cells a d c f many hd h0 hl, (md _).1, (md _).2, _, _, _, _, _, rfl, p1, Int.ediv_nonneg p2 (by omega), by omega, by omega, p5, p6⟩
  · have ed : d = 0 := by omega
    subst ed
    by_cases ha : a < (cells.length : Nat)
    · obtain ⟨x, hx⟩ : ∃ x, ixD (List.map D.int cells) a = some (.int x) := by
        have hlt : a.toNat < cells.length := by omega
        refine ⟨cells[a.toNat], ?_⟩
        unfold ixD
        rw [if_pos p1, List.getElem?_map, List.getElem?_eq_getElem hlt]
        rfl
      by_cases h18 : 1000000000000000000 ≤ x
      · by_cases he : x = 1000000000000000000
        · subst he
          exact ⟨_, _, draw4 cells a c f many ha hx h0 hl (by omega), (md _).1, (md _).2, _, _, _, _, _, rfl, by omega, by omega, by omega, by omega, p5, p6⟩
        · exact ⟨_, _, draw3 cells a c f many x ha hx (by omega) h0 hl, (md _).1, (md _).2, _, _, _, _, _, rfl, by omega, Int.ediv_nonneg (by omega) (by omega), by omega, by omega, p5, p6⟩
      · have q1 : 0 ≤ (f * 48271 + x) % 2147483563 := Int.emod_nonneg _ (by omega)
        have q2 : (f * 48271 + x) % 2147483563 < 2147483563 := Int.emod_lt_of_pos _ (by omega)
        exact ⟨_, _, draw5 cells a c f many x ha hx h18 (by omega) h0 hl (by omega), (md _).1, (md _).2, _, _, _, _, _, rfl, by omega, by omega, by omega, by omega, q1, q2⟩
    · exact ⟨_, _, draw2 cells a c f many ha h0 hl (by omega), (md _).1, (md _).2, _, _, _, _, _, rfl, p1, by omega, by omega, by omega, p5, p6⟩
theorem pick_ok {B : Int} {p : D} (h : PenOk B p) (hB : B ≤ 1000000000000) {ds : List D} (h0 : ds ≠ []) (h1 : ds.length ≤ 1000000) : ∃ d p', s_law_pick [(1, p), (0, .lst ds)] = .ok (0, d) (some (1, p')) ∧ d ∈ ds ∧ PenOk (B + 1) p' := by
  have hp : 0 < ds.length := List.length_pos_iff.mpr h0
  obtain ⟨k, p', e, k0, k1, hp'⟩ := draw_ok h hB (many := (ds.length : Nat)) (by omega) (by omega)
  have hk : k.toNat < ds.length := by omega
  have hx : ixD ds k = some ds[k.toNat] := by
    unfold ixD
    rw [if_pos k0, List.getElem?_eq_getElem hk]
  refine ⟨ds[k.toNat], p', ?_, List.getElem_mem hk, hp'⟩
  unfold s_law_pick
  simp [mkF, startE, sRet, oVar, oV, res, op2, opN, seqM, mapM', bnd, Mini.ret, opt, getS, mutOf, fIxA, fIx, fLen, vInt, vCall1, valsOf, e, hx]
theorem pen_ok (ns : List Int) : ∃ p, s_law_pen [(0, .scr ns)] = .ok (1, p) none ∧ PenOk 0 p := by
  obtain ⟨e', h1, f, h2, h3, h4⟩ := for_ok (g := gVar 2) (body := sSet 1 (op2 fMod (oV (opN fInt [oV (op2 fAdd (oV (op2 fMul (oVar 1) (oV (vC (.int 59))))) (oVar 2))])) (oV (vC (.int 1000000009)))))
    (ds := ns.map .int) (fun _ e => ∃ f : Int, (∃ z, e = [some (0, .scr ns), some (0, .int f), z]) ∧ 0 ≤ f ∧ f < 1000000009) (e := [some (0, .scr ns), some (0, .int 0), none]) ⟨0, ⟨none, rfl⟩, by omega, by omega⟩ fun i d e hd ⟨f, ⟨z, he⟩, f0, f1⟩ => by
      obtain ⟨n, rfl⟩ : ∃ n, d = .int n := by
        rw [List.getElem?_map] at hd
        cases h : ns[i]? with
        | none => rw [h] at hd; cases hd
        | some n => rw [h] at hd; exact ⟨n, (Option.some.inj hd).symm⟩
      subst he
      have p64 : (2 : Nat) ^ 64 = 18446744073709551616 := by decide
      have hb : f.natAbs < 18446744073709551616 := by omega
      refine ⟨[some (0, .scr ns), some (0, .int f), some (0, .int n)], [some (0, .scr ns), some (0, .int ((f * 59 + n) % 1000000009)), some (0, .int n)], by simp [gVar], .inl ?_, _, ⟨_, rfl⟩, Int.emod_nonneg _ (by omega), Int.emod_lt_of_pos _ (by omega)⟩
      walk_at "sx"
  obtain ⟨z, rfl⟩ := h2
  refine ⟨pen ns 0 0 0 f, ?_, ns, 0, 0, 0, f, rfl, by omega, by omega, by omega, by omega, h3, by omega⟩
  refine mk_rt (n := 3) (p := 1) (e' := [some (0, .scr ns), some (0, .int f), z]) ?_ rfl
  rw [show startE 3 [(0, D.scr ns)] = [some (0, .scr ns), none, none] from rfl, seq_ok (show sSet 1 (vC (.int 0)) [some (0, .scr ns), none, none] = .ok .nx [some (0, .scr ns), some (0, .int 0), none] from rfl),
    seq_ok ((for_run (show itV (vVar 0) [some (0, .scr ns), some (0, .int 0), none] = .ok (ns.map .int) [some (0, .scr ns), some (0, .int 0), none] from rfl)).trans h1)]
  walk_at "sx"
theorem erase_perm {α : Type} : ∀ {l : List α} {i : Nat} (h : i < l.length), (l[i] :: l.eraseIdx i).Perm l
  | _ :: _, 0, _ => List.Perm.refl _
  | a :: l, i + 1, h => by
    have := erase_perm (l := l) (i := i) (by simpa using h)
    exact (List.Perm.swap _ _ _).trans (List.Perm.cons a this)
theorem shuf_turn {p p' : D} {ds rs fs : List D} {d : D} {k : Int} {x : D} (ek : s_law_draw [(1, p), (0, .int rs.length)] = .ok (0, .int k) (some (1, p'))) (hx : rs[k.toNat]? = some x) (k0 : 0 ≤ k) (hfl : fs.length < sLine) :
    sExpr (vApp 3 (oV (vPopAt 2 (oV (vCall1 s_law_draw [oVar 0, oV (opN fLen [oVar 2])]))))) [some (1, p), some (0, .lst ds), some (1, .lst rs), some (1, .lst fs), some (0, d)] =
      .ok .nx [some (1, p'), some (0, .lst ds), some (1, .lst (rs.eraseIdx k.toNat)), some (1, .lst (fs ++ [x])), some (0, d)] := by
  simp [sExpr, vApp, appK, vPopAt, popK, sawS, isLst, vCall1, valsOf, opN, seqM, mapM', oVar, oV, res, bnd, Mini.ret, opt, getS, fLen, vInt, ek, hx, k0, hfl]
theorem shuf_start (p : D) (ds : List D) : sPar2 2 3 (opN fList [oVar 1]) (vLst []) [some (1, p), some (0, .lst ds), none, none, none] = .ok .nx [some (1, p), some (0, .lst ds), some (1, .lst ds), some (1, .lst []), none] := by
  walk_at "sx"
theorem shuf_range {p : D} {ds : List D} (hl : ds.length ≤ 1000) : itRange1 (oV (opN fLen [oVar 1])) [some (1, p), some (0, .lst ds), some (1, .lst ds), some (1, .lst []), none] = .ok (rangeL 0 ds.length) [some (1, p), some (0, .lst ds), some (1, .lst ds), some (1, .lst []), none] := by
  refine range1_ok (e1 := [some (1, p), some (0, .lst ds), some (1, .lst ds), some (1, .lst []), none]) (x := .val (.int ds.length)) ?_ rfl (by omega) (by omega)
  simp [opN, seqM, mapM', oVar, oV, res, bnd, Mini.ret, opt, getS, fLen, vInt]
/-- shuffled: the same things in some order -/
theorem shuffled_ok {B : Int} {p : D} (h : PenOk B p) {ds : List D} (hl : ds.length ≤ 1000) (hB : B ≤ 900000000000) : ∃ ds' p', s_law_shuffled [(1, p), (0, .lst ds)] = .ok (0, .lst ds') (some (1, p')) ∧ ds'.Perm ds ∧ PenOk (B + ds.length) p' := by
  obtain ⟨e', h1, p', rs, fs, z, rfl, h3, h4, h5, h6⟩ := for_ok (g := gVar 4) (body := sExpr (vApp 3 (oV (vPopAt 2 (oV (vCall1 s_law_draw [oVar 0, oV (opN fLen [oVar 2])]))))))
    (ds := rangeL 0 ds.length) (fun i e => ∃ p rs fs z, e = [some (1, p), some (0, .lst ds), some (1, .lst rs), some (1, .lst fs), z] ∧ PenOk (B + i) p ∧ (rs ++ fs).Perm ds ∧ fs.length = i ∧ rs.length + i = ds.length)
    (e := [some (1, p), some (0, .lst ds), some (1, .lst ds), some (1, .lst []), none]) ⟨p, ds, [], none, rfl, by simpa using h, by simp, rfl, by simp⟩ fun i d e hd ⟨p, rs, fs, z, he, hp, hperm, hf, hr⟩ => by
      have hi : i < ds.length := by
        have := (List.getElem?_eq_some_iff.mp hd).1
        rw [range_len] at this
        omega
      have hrl : 0 < rs.length := by omega
      obtain ⟨k, p', ek, k0, k1, hp'⟩ := draw_ok hp (by omega) (many := (rs.length : Nat)) (by omega) (by omega)
      have hk : k.toNat < rs.length := by omega
      subst he
      refine ⟨[some (1, p), some (0, .lst ds), some (1, .lst rs), some (1, .lst fs), some (0, d)], [some (1, p'), some (0, .lst ds), some (1, .lst (rs.eraseIdx k.toNat)), some (1, .lst (fs ++ [rs[k.toNat]])), some (0, d)], by simp [gVar], .inl (shuf_turn ek (List.getElem?_eq_getElem hk) k0 (by
        have : (1000 : Nat) < sLine := by decide
        omega)), p', _, _, _, rfl, ?_, ?_, by simp [hf], ?_⟩
      · have : B + ((i + 1 : Nat) : Int) = B + (i : Nat) + 1 := by omega
        rw [this]; exact hp'
      · refine List.Perm.trans ?_ hperm
        have h1 : (rs[k.toNat] :: rs.eraseIdx k.toNat).Perm rs := erase_perm hk
        have h2 : (rs.eraseIdx k.toNat ++ (fs ++ [rs[k.toNat]])).Perm (rs[k.toNat] :: (rs.eraseIdx k.toNat ++ fs)) := by
          rw [← List.append_assoc]
          exact List.perm_append_singleton _ _
        exact h2.trans ((List.Perm.append_right fs h1))
      · rw [List.length_eraseIdx]; simp [hk]; omega
  have e1 : rs = [] := by
    rw [range_len] at h6
    have : rs.length = 0 := by omega
    exact List.length_eq_zero_iff.mp this
  subst e1
  refine ⟨fs, p', ?_, by simpa using h4, by rw [range_len] at h3; simpa using h3⟩
  refine mu_rt (n := 5) (p := 2) (e' := [some (1, p'), some (0, .lst ds), some (1, .lst []), some (0, .lst fs), z]) ?_ rfl rfl
  rw [show startE 5 [(1, p), (0, D.lst ds)] = [some (1, p), some (0, .lst ds), none, none, none] from rfl, seq_ok (shuf_start p ds), seq_ok ((for_run (shuf_range hl)).trans h1)]
  rfl
end Law

set_option Elab.async false
set_option linter.all false
set_option maxRecDepth 100000
set_option maxHeartbeats 4000000
namespace Law
open PySem Mini
/-- no list of the script, no dict by tuples -/
def plainD : D → Bool
  | .scr _ => false
  | .box (.dT _) _ => false
  | _ => true
def isSeqD' : D → Bool
  | .box .lst _ => true
  | .box .tup _ => true
  | _ => false
def isI : D → Bool
  | .int _ => true
  | _ => false
def ixB (m : Int) : D → Bool
  | .int x => decide (0 ≤ x) && decide (x < m)
  | _ => false
theorem is_int_ok {d : D} (h : plainD d = true) : s_law_is_int [(0, d)] = .ok (0, .bl (isI d)) none := by
  cases d with
  | scr _ => cases h
  | box hd ds => cases hd <;> first | exact absurd (show false = true from h) Bool.false_ne_true | (unfold s_law_is_int isI; simp [mkF, startE, sRet, vAnd, vIsI, op1, oVar, res, bnd, Mini.ret, opt, getS, tyAny, isTy, mutOf])
  | _ => unfold s_law_is_int isI; simp [mkF, startE, sRet, vAnd, vBool, tNot, tB, vIsI, op1, oVar, res, bnd, Mini.ret, opt, getS, tyAny, isTy, mutOf]
theorem is_whole_ok {d : D} (h : plainD d = true) : s_is_whole [(0, d)] = .ok (0, .bl (isI d)) none := is_int_ok h
theorem is_index_ok {m : Int} {d : D} (h : plainD d = true) : s_is_index [(0, .int m), (0, d)] = .ok (0, .bl (ixB m d)) none := by
  have hw := is_whole_ok h
  unfold s_is_index
  cases d with
  | scr _ => cases h
  | int x =>
    by_cases h0 : 0 ≤ x
    · simp [mkF, startE, sRet, vAnd, vCall0, seqM, oV, vVar, valsOf, vC, vChain, oVar, res, bnd, Mini.ret, opt, getS, mutOf, hw, isI, ixB, fLe, fLt, vBl, h0]
    · simp [mkF, startE, sRet, vAnd, vCall0, seqM, oV, vVar, valsOf, vC, vChain, oVar, res, bnd, Mini.ret, opt, getS, mutOf, hw, isI, ixB, fLe, fLt, vBl, h0]
  | box hd ds => simp [mkF, startE, sRet, vAnd, vCall0, seqM, oV, vVar, valsOf, vC, res, bnd, Mini.ret, opt, getS, mutOf, hw, isI, ixB]
  | _ => simp [mkF, startE, sRet, vAnd, vCall0, seqM, oV, vVar, valsOf, vC, res, bnd, Mini.ret, opt, getS, mutOf, hw, isI, ixB]
theorem is_list_ok {d : D} (h : plainD d = true) : s_is_list [(0, d)] = .ok (0, .bl (isSeqD' d)) none := by
  unfold s_is_list
  cases d with
  | scr _ => cases h
  | box hd ds => cases hd <;> first | exact absurd (show false = true from h) Bool.false_ne_true | simp [mkF, startE, sRet, vIsI, op1, oVar, res, bnd, Mini.ret, opt, getS, tyAny, isTy, mutOf, isSeqD']
  | _ => simp [mkF, startE, sRet, vIsI, op1, oVar, res, bnd, Mini.ret, opt, getS, tyAny, isTy, mutOf, isSeqD']
/-- the numbers that a thing holds -/
def seqI : D → Option (List Int)
  | .box .lst ds => intsOf ds
  | .box .tup ds => intsOf ds
  | _ => none
def rangeI (m : Int) : List Int := (List.range m.toNat).map fun (i : Nat) => (i : Int)
theorem rangeL_eq (m : Int) : rangeL 0 m = (rangeI m).map D.int := by
  unfold rangeL rangeI
  rw [List.map_map]
  simp
theorem toPs_ints : ∀ ns : List Int, toPs (ns.map D.int) = some (ns.map PyData.int)
  | [] => rfl
  | n :: ns => by
    have := toPs_ints ns
    simp [toPs, toP, this]
theorem lay_ints : ∀ ns : List Int, PyData.canLayAll0 (ns.map PyData.int) = true
  | [] => by simp [PyData.canLayAll0]
  | n :: ns => by
    have := lay_ints ns
    simp [PyData.canLayAll0, PyData.canLay0, this]
theorem depth_ints : ∀ ns : List Int, PyData.depthAll (ns.map PyData.int) ≤ 1
  | [] => by simp [PyData.depthAll]
  | n :: ns => by
    have := depth_ints ns
    simp [PyData.depthAll, PyData.depth]
    omega
theorem eqv_ints : ∀ ns ms : List Int, PyData.eqvAll (ns.map PyData.int) (ms.map PyData.int) = decide (ns = ms)
  | [], [] => by simp [PyData.eqvAll]
  | [], _ :: _ => by simp [PyData.eqvAll]
  | _ :: _, [] => by simp [PyData.eqvAll]
  | n :: ns, m :: ms => by
    have := eqv_ints ns ms
    simp [PyData.eqvAll, PyData.eqv, this]
    by_cases h : n = m <;> simp [h]
theorem feq_lsts (ns ms : List Int) : fEq (.lst (ns.map D.int)) (.lst (ms.map D.int)) = some (0, .bl (decide (ns = ms))) := by
  have a := depth_ints ns
  have b := depth_ints ms
  have h1 : SeqAt.shaped (PyData.list (ns.map PyData.int)) = true := by
    simp [SeqAt.shaped, PyData.canLay0, lay_ints, PyData.depth]
    omega
  have h2 : SeqAt.shaped (PyData.list (ms.map PyData.int)) = true := by
    simp [SeqAt.shaped, PyData.canLay0, lay_ints, PyData.depth]
    omega
  simp [fEq, eqD, toP, toPs_ints, h1, h2, PyData.eqv, eqv_ints]
theorem bls_map (f : D → Bool) : ∀ ds : List D, blsOf (ds.map fun d => .bl (f d)) = some (ds.map f)
  | [] => rfl
  | d :: ds => by
    have := bls_map f ds
    simp [blsOf, this]
theorem all_map (f : D → Bool) (n : Nat) (ds : List D) : fAll [.lst (ds.map fun d => .bl (f d))] = some (0, .bl (ds.all f)) := by
  unfold fAll
  dsimp only
  rw [bls_map]
  simp [Function.comp_def]
theorem ints_isI : ∀ {ds : List D}, ds.all isI = true → ∃ ns, intsOf ds = some ns ∧ ds = ns.map D.int
  | [], _ => ⟨[], rfl, rfl⟩
  | d :: ds, h => by
    rw [List.all_cons, Bool.and_eq_true] at h
    obtain ⟨ns, h1, h2⟩ := ints_isI h.2
    cases d with
    | int i => exact ⟨i :: ns, by simp [intsOf, h1], by rw [List.map_cons, ← h2]⟩
    | _ => exact absurd h.1 (by simp [isI])
theorem isI_of_ints : ∀ {ds : List D} {ns : List Int}, intsOf ds = some ns → ds = ns.map D.int
  | [], ns, h => by cases h; rfl
  | .int i :: ds, ns, h => by
    unfold intsOf at h
    cases q : intsOf ds with
    | none => rw [q] at h; cases h
    | some ms => rw [q] at h; cases h; rw [List.map_cons, ← isI_of_ints q]
  | .non :: _, _, h => by cases h
  | .bl _ :: _, _, h => by cases h
  | .str _ :: _, _, h => by cases h
  | .box _ _ :: _, _, h => by cases h
  | .scr _ :: _, _, h => by cases h
theorem ints_map (ns : List Int) : intsOf (ns.map D.int) = some ns := by
  induction ns with
  | nil => rfl
  | cons n ns ih => simp [intsOf, ih]
theorem sortI_perm (ns : List Int) : (sortI ns).Perm ns := List.mergeSort_perm _ _
/-- a thing that holds each of 0 .. m - 1 once -/
def whB (m : Int) (v : D) : Bool := match seqI v with
  | some ns => decide (sortI ns = rangeI m)
  | none => false
theorem mem_rangeI {m x : Int} : x ∈ rangeI m ↔ 0 ≤ x ∧ x < m := by
  unfold rangeI
  rw [List.mem_map]
  constructor
  · rintro ⟨i, hi, rfl⟩
    have := List.mem_range.mp hi
    omega
  · rintro ⟨h1, h2⟩
    exact ⟨x.toNat, List.mem_range.mpr (by omega), by omega⟩
theorem wh_in {m : Int} {ns : List Int} (h : sortI ns = rangeI m) {x : Int} (hx : x ∈ ns) : 0 ≤ x ∧ x < m := by
  have : x ∈ sortI ns := (sortI_perm ns).mem_iff.mpr hx
  rw [h] at this
  exact mem_rangeI.mp this
theorem all_ix {m : Int} : ∀ {ds : List D}, ds.all (ixB m) = true → ds.all isI = true
  | [], _ => rfl
  | d :: ds, h => by
    rw [List.all_cons, Bool.and_eq_true] at h ⊢
    refine ⟨?_, all_ix h.2⟩
    cases d with
    | int _ => rfl
    | _ => exact absurd h.1 (by simp [ixB])
theorem ix_all {m : Int} {ns : List Int} (h : ∀ x ∈ ns, 0 ≤ x ∧ x < m) : (ns.map D.int).all (ixB m) = true := by
  rw [List.all_map, List.all_eq_true]
  intro x hx
  obtain ⟨a, b⟩ := h x hx
  simp [ixB, a, b]
theorem findIdx_ints (a : Int) : ∀ os : List Int, a ∈ os → (os.map D.int).findIdx? (fun y => eqF y (.int a)) = some (os.idxOf a)
  | [], h => by cases h
  | n :: os, h => by
    rw [List.map_cons, List.findIdx?_cons]
    by_cases e : n = a
    · subst e
      simp [eqF]
    · have hm : a ∈ os := by
        rcases List.mem_cons.mp h with h | h
        · exact absurd h.symm e
        · exact h
      have := findIdx_ints a os hm
      have hb : (n == a) = false := beq_eq_false_iff_ne.mpr e
      have h0 : eqF (.int n) (.int a) = false := hb
      rw [h0, this, List.idxOf_cons, hb]
      rfl
theorem flat_ints (os : List Int) : (os.map D.int).all flatD = true := by
  rw [List.all_map, List.all_eq_true]
  intro x _
  rfl
theorem ix_tup {ns : List Int} {i : Int} (h0 : 0 ≤ i) (h1 : i < ns.length) : fIxA (.tup (ns.map D.int)) (.int i) = some (0, .int (ns.getD i.toNat 0)) := by
  have hl : i.toNat < ns.length := by omega
  simp [fIxA, fIx, ixD, h0, List.getElem?_eq_getElem hl, List.getD_eq_getElem?_getD]
theorem getD_mem {ns : List Int} {i : Nat} (h : i < ns.length) : ns.getD i 0 ∈ ns := by
  rw [List.getD_eq_getElem?_getD, List.getElem?_eq_getElem h]
  exact List.getElem_mem h
theorem mem_rangeL {a b : Int} {d : D} : d ∈ rangeL a b ↔ ∃ x, d = .int x ∧ a ≤ x ∧ x < b := by
  unfold rangeL
  rw [List.mem_map]
  constructor
  · rintro ⟨i, hi, rfl⟩
    have := List.mem_range.mp hi
    exact ⟨_, rfl, by omega, by omega⟩
  · rintro ⟨x, rfl, h1, h2⟩
    refine ⟨(x - a).toNat, List.mem_range.mpr (by omega), ?_⟩
    have : a + ((x - a).toNat : Int) = x := by omega
    rw [this]
def onI (p : Int → Bool) : D → Bool
  | .int x => p x
  | _ => true
theorem all_rangeL {a b : Int} {p : Int → Bool} : (rangeL a b).all (onI p) = true ↔ ∀ x, a ≤ x → x < b → p x = true := by
  rw [List.all_eq_true]
  constructor
  · intro h x h1 h2
    exact h (.int x) (mem_rangeL.mpr ⟨x, rfl, h1, h2⟩)
  · intro h d hd
    obtain ⟨x, rfl, h1, h2⟩ := mem_rangeL.mp hd
    exact h x h1 h2
def gI (ns : List Int) (i : Int) : Int := ns.getD i.toNat 0
theorem gI_mem {ns : List Int} {i : Int} (h0 : 0 ≤ i) (h1 : i < ns.length) : gI ns i ∈ ns := getD_mem (by omega)
theorem res_bor {e : Mini.Env} {i : Nat} {d : D} (h : getS e i = some (0, d)) : res (.bor i) e = .ok d e := tr_eq (tr_resB0 h ⟨rfl, rfl⟩)
theorem chain_ok {e : Mini.Env} {i j : Nat} {x m : Int} (h : getS e i = some (0, .int x)) (h' : getS e j = some (0, .int m)) : vChain fLe fLt (oV (vC (.int 0))) (oVar i) (oVar j) e = .ok (0, .bl (decide (0 ≤ x) && decide (x < m))) e := by
  have a := res_bor h
  have b := res_bor h'
  by_cases q : 0 ≤ x
  · simp [vChain, oV, vC, oVar, bnd, Mini.ret, opt, h, h', a, b, show res (.val (.int 0)) e = .ok (.int 0) e from rfl, fLe, fLt, vBl, q]
  · simp [vChain, oV, vC, oVar, bnd, Mini.ret, opt, h, h', a, b, show res (.val (.int 0)) e = .ok (.int 0) e from rfl, fLe, fLt, vBl, q]
def isTupD : D → Bool
  | .box .tup _ => true
  | _ => false
theorem ty_tup {v : D} (h : plainD v = true) : tyAny [.tuple] v = some (isTupD v) := by
  cases v with
  | scr _ => cases h
  | box hd ds => cases hd <;> first | exact absurd (show false = true from h) Bool.false_ne_true | rfl
  | _ => rfl
theorem tup_of {v : D} (h : isTupD v = true) : ∃ ds, v = .tup ds := by
  cases v with
  | box hd ds => cases hd <;> first | exact ⟨_, rfl⟩ | exact absurd (show false = true from h) (fun z => nomatch z)
  | _ => exact absurd (show false = true from h) (fun z => nomatch z)
theorem ty_seq {v : D} (h : plainD v = true) : tyAny [.tuple, .list] v = some (isSeqD' v) := by
  cases v with
  | scr _ => cases h
  | box hd ds => cases hd <;> first | exact absurd (show false = true from h) Bool.false_ne_true | rfl
  | _ => rfl
/-- the law's own look at an axis: a tuple that holds each of 0 .. m - 1 once -/
def whT (m : Int) (v : D) : Bool := isTupD v && whB m v
theorem fne_int (a b : Int) : fNe (.int a) (.int b) = some (0, .bl (!(a == b))) := by
  simp [fNe, eqD, toP, SeqAt.shaped, PyData.eqv, PyData.depth, PyData.canLay0]
theorem ixs_ints {m : Int} {ds : List D} (h : ds.all (ixB m) = true) : ∃ ns, intsOf ds = some ns ∧ ds = ns.map D.int ∧ ∀ x ∈ ns, 0 ≤ x ∧ x < m := by
  obtain ⟨ns, h1, h2⟩ := ints_isI (all_ix h)
  refine ⟨ns, h1, h2, fun x hx => ?_⟩
  have := List.all_eq_true.mp h (.int x) (by rw [h2]; exact List.mem_map.mpr ⟨x, hx, rfl⟩)
  simpa [ixB] using this
def ordD (os : List Int) : D := .tup (os.map D.int)
theorem len_ord (os : List Int) : fLen [ordD os] = some (0, .int os.length) := by simp [fLen, ordD, vInt]
theorem name_val {e : Mini.Env} {i : Nat} {d : D} (h : getS e i = some (0, d)) : oV (vVar i) e = .ok (.val d) e := tr_eq (tr_oV (tr_vVar0 h ⟨rfl, rfl⟩))
/-- a tuple or a list of these things -/
def SeqOf (d : D) (ds : List D) : Prop := d = .lst ds ∨ d = .tup ds
theorem plain_seq {d : D} {ds : List D} (h : SeqOf d ds) : plainD d = true := by rcases h with rfl | rfl <;> rfl
theorem ints_plain (os : List Int) : (os.map D.int).all plainD = true := by
  rw [List.all_map, List.all_eq_true]
  intro x _
  rfl
theorem sortI_range {n : Int} {os : List Int} (hp : os.Perm (rangeI n)) : sortI os = rangeI n := by
  have hs : (sortI os).Perm (rangeI n) := (sortI_perm os).trans hp
  refine List.Perm.eq_of_pairwise (le := fun a b : Int => a ≤ b) ?_ ?_ ?_ hs
  · intro a b _ _ h1 h2; omega
  · have := List.pairwise_mergeSort (le := fun a b : Int => decide (a ≤ b)) (by intro a b c h1 h2; simp at *; omega) (by intro a b; simp; omega) os
    exact this.imp (by intro a b h; simpa using h)
  · unfold rangeI
    exact List.Pairwise.map _ (fun a b h => by omega) (List.pairwise_lt_range (n := (n : Int).toNat))
theorem len_seq {d : D} {ds : List D} (h : SeqOf d ds) : fLen [d] = some (0, .int ds.length) := by rcases h with rfl | rfl <;> rfl
def onO (p : List Int → Bool) : D → Bool
  | .box .tup ds => match intsOf ds with
    | some ns => p ns
    | none => true
  | _ => true
theorem onO_ord (p : List Int → Bool) (os : List Int) : onO p (ordD os) = p os := by
  unfold onO ordD
  simp [ints_map]
/-- nested less than n deep -/
def okF : Nat → D → Prop
  | 0, _ => False
  | n + 1, d => plainD d = true ∧ ∀ ds, SeqOf d ds → ∀ x ∈ ds, okF n x
def frz : Nat → D → D
  | 0, d => d
  | n + 1, .box .lst ds => .tup (ds.map (frz n))
  | n + 1, .box .tup ds => .tup (ds.map (frz n))
  | _ + 1, d => d
theorem frozen_ok : ∀ (n : Nat) {d : D}, okF n d → s_frozen n [(0, d)] = .ok (0, frz n d) none
  | 0, _, h => h.elim
  | n + 1, d, h => by
    unfold s_frozen
    let e0 : Mini.Env := [some (0, d), none]
    have t : vIsI [.tuple, .list] (oVar 0) e0 = .ok (0, .bl (isSeqD' d)) e0 := by
      unfold vIsI
      exact op1_ok (x := .bor 0) rfl rfl (by rw [ty_seq h.1]; rfl)
    cases q : isSeqD' d with
    | false =>
      rw [q] at t
      have : frz (n + 1) d = d := by
        cases d with
        | box hd ds => cases hd <;> first | rfl | exact absurd (show true = false from q) (fun z => nomatch z)
        | _ => rfl
      rw [this]
      exact mk_rt ((seq_ok (if_ff (tB_ok t))).trans rfl) rfl
    | true =>
      rw [q] at t
      obtain ⟨ds, hd⟩ : ∃ ds, SeqOf d ds := by
        cases d with
        | box hd ds => cases hd <;> first | exact ⟨ds, .inl rfl⟩ | exact ⟨ds, .inr rfl⟩ | exact absurd (show false = true from q) (fun z => nomatch z)
        | _ => exact absurd (show false = true from q) (fun z => nomatch z)
      have hf : frz (n + 1) d = .tup (ds.map (frz n)) := by rcases hd with rfl | rfl <;> rfl
      have hit : itV (vVar 0) e0 = .ok ds e0 := by rcases hd with rfl | rfl <;> rfl
      obtain ⟨k, c⟩ : ∃ k, vComp [1] (itV (vVar 0)) (gVar 1) (Mini.ret true) (vCall0 (s_frozen n) [oV (vVar 1)]) e0 = .ok (k + 1, .lst (ds.map (frz n))) e0 := by
        refine comp_map2 (frz n) hit rfl fun x hx => ⟨_, rfl, rfl, ?_⟩
        exact call0_ok (seqM_cons_ok (name_val rfl) seqM_nil_ok) rfl (frozen_ok n (h.2 ds hd x hx))
      have a : opN fTuple [oV (vComp [1] (itV (vVar 0)) (gVar 1) (Mini.ret true) (vCall0 (s_frozen n) [oV (vVar 1)]))] e0 = .ok (0, .tup (ds.map (frz n))) e0 := opN1_ok (oV_ok c) rfl rfl
      rw [hf]
      exact mk_rt (seq_rt ((if_tt (tB_ok t)).trans (ret_ok a))) rfl
theorem comp_mapN {own : List Nat} {it : M (List D)} {g : Tg} {elt : M Vl} (k : Nat) (f : D → D) {e e1 : Mini.Env} {ds : List D} (hi : it e = .ok ds e1) (hc : own.all (calmS e1) = true)
    (h : ∀ d ∈ ds, ∃ e2, g d (hide own e1) = some e2 ∧ hide own e2 = hide own e1 ∧ elt e2 = .ok (k, f d) e2) : ∃ n, vComp own it g (Mini.ret true) elt e = .ok (n + 1, .lst (ds.map f)) e1 := by
  have := comp_ok (own := own) (g := g) (t := Mini.ret true) (elt := elt) (fun _ => true) (fun d => (k, f d)) hi hc fun d hd => by
    obtain ⟨e2, h1, h2, h3⟩ := h d hd
    exact ⟨e2, e2, h1, rfl, fun _ => ⟨e2, h3, h2⟩, fun z => nomatch z⟩
  rw [this]
  refine ⟨minOwn ((ds.filter fun _ => true).map fun d => (k, f d)), ?_⟩
  unfold mkLst
  simp [List.filter_eq_self.mpr]
theorem fadd_tup {xs ys : List D} (h : xs.length + ys.length ≤ 1000) : fAdd (.tup xs) (.tup ys) = some (0, .tup (xs ++ ys)) := by
  have : xs.length + ys.length ≤ sLine := Nat.le_trans h (by decide)
  show (if _ then _ else _) = _
  rw [if_pos this]
theorem cut_len (ds : List D) (lo hi : Option Int) : (cutD ds lo hi).length ≤ ds.length := by
  unfold cutD
  rw [List.length_take, List.length_drop]
  omega
theorem cut_sub {ds : List D} {lo hi : Option Int} {x : D} (h : x ∈ cutD ds lo hi) : x ∈ ds := List.mem_of_mem_drop (List.mem_of_mem_take h)
theorem okF_flat {d : D} (h : flatD d = true) (n : Nat) : okF (n + 1) d := by
  refine ⟨?_, fun ds hd => ?_⟩
  · cases d with
    | scr _ => cases h
    | box hd ds => cases h
    | _ => rfl
  · rcases hd with rfl | rfl <;> cases h
theorem okF_tup {n : Nat} {ds : List D} (h : ∀ x ∈ ds, okF n x) : okF (n + 1) (.tup ds) := ⟨rfl, fun ds' hd => by
  rcases hd with hd | hd <;> cases hd
  exact h⟩
theorem okF_lst {n : Nat} {ds : List D} (h : ∀ x ∈ ds, okF n x) : okF (n + 1) (.lst ds) := ⟨rfl, fun ds' hd => by
  rcases hd with hd | hd <;> cases hd
  exact h⟩
theorem okF_mono : ∀ {n : Nat} {d : D}, okF n d → okF (n + 1) d
  | 0, _, h => h.elim
  | n + 1, d, h => ⟨h.1, fun ds hd x hx => okF_mono (h.2 ds hd x hx)⟩
theorem frz_plain : ∀ {n : Nat} {d : D}, okF n d → plainD (frz n d) = true
  | 0, _, h => h.elim
  | n + 1, d, h => by
    cases d with
    | box hd ds => cases hd <;> first | rfl | exact h.1
    | _ => exact h.1
theorem frz_seq {n : Nat} {d : D} {ds : List D} (h : okF n d) (hd : SeqOf (frz n d) ds) : ds.all plainD = true ∧ ∃ ds', SeqOf d ds' ∧ ds.length = ds'.length ∧ frz n d = .tup ds := by
  cases n with
  | zero => exact h.elim
  | succ n =>
    have key : ∀ ds', SeqOf d ds' → frz (n + 1) d = .tup (ds'.map (frz n)) := fun ds' hs => by rcases hs with rfl | rfl <;> rfl
    have fin : ∀ ds', SeqOf d ds' → ds.all plainD = true ∧ ∃ ds', SeqOf d ds' ∧ ds.length = ds'.length ∧ frz (n + 1) d = .tup ds := fun ds' hs => by
      have k := key ds' hs
      have : ds = ds'.map (frz n) := by
        rw [k] at hd
        rcases hd with hd | hd <;> cases hd
        rfl
      subst this
      refine ⟨?_, ds', hs, by simp, k⟩
      rw [List.all_map, List.all_eq_true]
      exact fun x hx => frz_plain (h.2 ds' hs x hx)
    cases d with
    | box hh es => cases hh <;> first | exact fin es (.inl rfl) | exact fin es (.inr rfl) | (rcases hd with hd | hd <;> cases hd)
    | _ => rcases hd with hd | hd <;> cases hd
theorem tr_vApp {i n : Nat} {m : M Item} {e : Mini.Env} {ds : List D} {Q : Vl → Mini.Env → Prop} (g : getS e i = some (n, .lst ds)) (h : Tr m e fun x e1 => ∃ d n' ds', x = .val d ∧ getS e1 i = some (n' + 1, .lst ds') ∧ ds'.length ≤ 1000 ∧ Q (0, .non) (e1.set i (some (1, .lst (ds' ++ [d]))))) : Tr (vApp i m) e Q := by
  obtain ⟨x, e1, h1, d, n', ds', rfl, g', hl, q⟩ := h
  refine ⟨_, _, ?_, q⟩
  have hs : sawS isLst i e = .ok () e := by unfold sawS; rw [g]; rfl
  have hl' : ds'.length < sLine := Nat.lt_of_le_of_lt hl (by decide)
  unfold vApp
  rw [bnd_ok hs, seqM_one, bnd_ok h1]
  unfold appK
  dsimp only
  rw [g']
  dsimp only
  rw [if_pos hl']
theorem tr_range2 {m m' : M Item} {e : Mini.Env} {Q : List D → Mini.Env → Prop} (h : Tr m e fun x e1 => Tr m' e1 fun y e2 => Tr (res x) e2 fun d e3 => Tr (res y) e3 fun d' e4 => ∃ i j : Int, d = .int i ∧ d' = .int j ∧ Rng i ∧ Rng j ∧ Q (rangeL i j) e4) : Tr (itRange2 m m') e Q := by
  obtain ⟨x, e1, h1, y, e2, h2, d, e3, h3, d', e4, h4, i, j, rfl, rfl, ⟨r1, r2⟩, ⟨r3, r4⟩, q⟩ := h
  exact ⟨_, _, range2_ok h1 h2 h3 h4 r1 r2 r3 r4, q⟩
theorem tr_vNew {k : Nat} {f : FSem} {as : List (M Item)} {e : Mini.Env} {Q : Vl → Mini.Env → Prop} (h : Tr (seqM as) e fun xs e1 => ∃ ds, valsOf xs = some ds ∧ FT f ((9, .ins k [] []) :: ds.map fun d => (0, d)) fun v mu => ∃ s, v.2 = .non ∧ mu = some s ∧ Q s e1) : Tr (vNew k f as) e Q := by
  obtain ⟨xs, e1, h1, ds, h2, ⟨n, v⟩, mu, h3, s, rfl, rfl, q⟩ := h
  refine ⟨s, e1, ?_, q⟩
  unfold vNew
  rw [bnd_ok h1, h2]
  show (match f ((9, .ins k [] []) :: ds.map fun d => (0, d)) with | .ok (_, .non) (some s) => Mini.Res.ok s e1 | .exc c ns fs _ => .exc c ns fs e1 | _ => .stuck) = _
  rw [h3]
theorem st_while {t : M Bool} {body : M Fl} {N : Mini.Env → Prop} {K : Fl → Mini.Env → Prop} (I : Nat → Mini.Env → Prop)
    (hs : ∀ k e, I k e → Tr t e fun x e' => (x = true → ∃ k', k = k' + 1 ∧ St body e' (I k') fun _ _ => False) ∧ (x = false → N e')) : ∀ (n k : Nat) {e : Mini.Env}, k < n → I k e → St (whileL t body n) e N K
  | 0, k, e, hk, _ => absurd hk (Nat.not_lt_zero _)
  | n + 1, k, e, hk, hi => by
    obtain ⟨x, e1, h1, h2, h3⟩ := hs k e hi
    unfold whileL
    cases x with
    | false => exact ⟨.nx, e1, by rw [bnd_ok h1]; rfl, h3 rfl⟩
    | true =>
      obtain ⟨k', rfl, f, e2, h4, h5⟩ := h2 rfl
      cases f with
      | nx =>
        obtain ⟨f', e3, h6, h7⟩ := st_while I hs n k' (by omega) (e := e2) h5
        exact ⟨f', e3, by rw [bnd_ok h1, if_pos rfl, bnd_ok h4]; exact h6, h7⟩
      | rt v => exact h5.elim
      | bk => exact h5.elim
      | ct => exact h5.elim
theorem fne_lsts (ns ms : List Int) : fNe (.lst (ns.map D.int)) (.lst (ms.map D.int)) = some (0, .bl (!(decide (ns = ms)))) := by
  have h := feq_lsts ns ms
  unfold fEq at h
  unfold fNe
  cases q : eqD (.lst (ns.map D.int)) (.lst (ms.map D.int)) with
  | none => rw [q] at h; cases h
  | some b =>
    rw [q] at h
    cases h
    rfl
theorem ints_of {Q : Int → Prop} : ∀ {ds : List D}, (∀ d ∈ ds, ∃ x, d = .int x ∧ Q x) → ∃ ns : List Int, ds = ns.map D.int ∧ ∀ x ∈ ns, Q x
  | [], _ => ⟨[], rfl, fun _ h => nomatch h⟩
  | d :: ds, h => by
    obtain ⟨x, rfl, hx⟩ := h d List.mem_cons_self
    obtain ⟨ns, rfl, hn⟩ := ints_of fun d hd => h d (List.mem_cons_of_mem _ hd)
    exact ⟨x :: ns, rfl, fun y hy => by
      rcases List.mem_cons.mp hy with rfl | hy
      · exact hx
      · exact hn y hy⟩
def gI0 : D → Int
  | .int x => x
  | _ => 0
theorem gI0_map (ns : List Int) : (ns.map D.int).map gI0 = ns := by
  rw [List.map_map]
  exact List.map_id'' (fun _ => rfl) ns
theorem ints_perm {ds : List D} {ms : List Int} (h : ds.Perm (ms.map D.int)) : ∃ ns : List Int, ds = ns.map D.int ∧ ns.Perm ms := by
  obtain ⟨ns, rfl, _⟩ := ints_of (Q := fun _ => True) (ds := ds) fun d hd => by
    obtain ⟨x, _, rfl⟩ := List.mem_map.mp (h.mem_iff.mp hd)
    exact ⟨x, rfl, trivial⟩
  refine ⟨ns, rfl, ?_⟩
  have := h.map gI0
  rwa [gI0_map, gI0_map] at this
theorem len_rangeI (n : Nat) : (rangeI n).length = n := by simp [rangeI]
/-- list(range(n)) shuffled -/
theorem shuf_ok {B : Int} {p : D} (h : PenOk B p) {n : Nat} (hn : n ≤ 1000) (hB : B ≤ 800000000000) : ∃ (ns : List Int) (p' : D), s_law_shuffled [(1, p), (0, .lst (rangeL 0 n))] = .ok (0, .lst (ns.map D.int)) (some (1, p')) ∧ ns.Perm (rangeI n) ∧ PenOk (B + n) p' := by
  rw [rangeL_eq]
  obtain ⟨ds', p', h1, h2, h3⟩ := shuffled_ok h (ds := (rangeI n).map D.int) (by rw [List.length_map, len_rangeI]; exact hn) (by omega)
  obtain ⟨ns, rfl, hp⟩ := ints_perm h2
  refine ⟨ns, p', h1, hp, ?_⟩
  rw [List.length_map, len_rangeI] at h3
  exact h3
theorem cut_ints (ns : List Int) (lo hi : Option Int) : cutD (ns.map D.int) lo hi = (cutD ns lo hi).map D.int := by
  unfold cutD
  rw [List.length_map, ← List.map_drop, ← List.map_take]
theorem cut_mem {α : Type} {ds : List α} {lo hi : Option Int} {x : α} (h : x ∈ cutD ds lo hi) : x ∈ ds := List.mem_of_mem_drop (List.mem_of_mem_take h)
theorem cut_first {α : Type} (ds : List α) (k : Nat) : (cutD ds none (some (k : Int))).length ≤ k := by
  have : ¬ ((k : Int) < 0) := by omega
  unfold cutD sIxD
  simp only [this, if_false, List.length_take, List.length_drop]
  omega
theorem fadd_lst {xs ys : List D} (h : xs.length + ys.length ≤ 1000) : fAdd (.lst xs) (.lst ys) = some (1, .lst (xs ++ ys)) := by
  have : xs.length + ys.length ≤ sLine := Nat.le_trans h (by decide)
  show (if _ then _ else _) = _
  rw [if_pos this]
theorem ix_lst {ds : List D} {i : Int} (h0 : 0 ≤ i) (h1 : i < ds.length) : ∃ d, d ∈ ds ∧ fIxA (.lst ds) (.int i) = some (0, d) := by
  have hi : i.toNat < ds.length := by omega
  refine ⟨ds[i.toNat], List.getElem_mem hi, ?_⟩
  simp [fIxA, fIx, ixD, h0, List.getElem?_eq_getElem hi]
theorem ix_ints {ns : List Int} {i : Int} (h0 : 0 ≤ i) (h1 : i < ns.length) : fIxA (.lst (ns.map D.int)) (.int i) = some (0, .int (gI ns i)) := by
  have hi : i.toNat < ns.length := by omega
  simp [fIxA, fIx, ixD, gI, h0, List.getElem?_eq_getElem hi, List.getD_eq_getElem?_getD]
theorem frz_flat {d : D} (h : flatD d = true) (n : Nat) : frz n d = d := by
  cases n with
  | zero => rfl
  | succ n =>
    cases d with
    | box hd ds => cases h
    | _ => rfl
theorem frz_ord (n : Nat) (os : List Int) : frz (n + 1) (ordD os) = ordD os := by
  show D.tup ((os.map D.int).map (frz n)) = D.tup (os.map D.int)
  rw [List.map_map]
  congr 1
  exact List.map_congr_left fun x _ => frz_flat rfl n
end Law

set_option Elab.async false
set_option linter.all false
set_option maxRecDepth 100000
set_option maxHeartbeats 4000000
namespace Law
open PySem Mini
local macro_rules | `(tactic| walk_at "st") => `(tactic| repeat (first
  | with_reducible refine st_seq ?_
  | with_reducible refine st_set ?_
  | with_reducible refine st_ret ?_
  | with_reducible refine st_expr ?_
  | with_reducible refine st_asg ?_
  | with_reducible refine st_for ?_
  | with_reducible refine st_next ?_
  | with_reducible refine st_par2 ?_
  | with_reducible refine st_par3 ?_
  | with_reducible refine st_if ?_
  | with_reducible refine tr_oV ?_
  | with_reducible refine tr_resV ?_
  | with_reducible refine tr_vC ?_
  | with_reducible refine tr_op1 ?_
  | with_reducible refine tr_op2 ?_
  | with_reducible refine tr_opN ?_
  | with_reducible refine tr_nil ?_
  | with_reducible refine tr_cons ?_
  | with_reducible refine tr_rnil ?_
  | with_reducible refine tr_rcons ?_
  | with_reducible refine tr_tB ?_
  | with_reducible refine tr_tAnd ?_
  | with_reducible refine tr_tOr ?_
  | with_reducible refine tr_tNot ?_
  | with_reducible refine tr_vBool ?_
  | with_reducible refine tr_vIf ?_
  | with_reducible refine tr_vAnd ?_
  | with_reducible refine tr_vOr ?_
  | with_reducible refine tr_vIsI ?_
  | with_reducible refine tr_range1 ?_
  | with_reducible refine tr_range2 ?_
  | with_reducible refine tr_vRgT ?_
  | with_reducible refine tr_vRgL ?_
  | with_reducible refine tr_call0 ?_
  | with_reducible refine tr_call1 ?_
  | with_reducible refine tr_vNew ?_
  | ((with_reducible apply tr_vApp); · rfl)
  | with_reducible refine tr_vTup ?_
  | with_reducible refine tr_vLst ?_
  | with_reducible refine tr_cutNS ?_
  | with_reducible refine tr_cutSN ?_
  | with_reducible refine ex_itL ?_
  | with_reducible refine ex_itT ?_
  | with_reducible refine tr_itV ?_
  | ((with_reducible apply tr_vVar0); · rfl)
  | ((with_reducible apply tr_vVar); · rfl)
  | ((with_reducible apply tr_oVar); · rfl)
  | ((with_reducible apply tr_resB0); · rfl)
  | ((with_reducible apply tr_resB1); · rfl)
  | ((with_reducible apply tr_resB); · rfl)
  | ((with_reducible apply ex_some); · with_reducible exact feq_int _ _)
  | ((with_reducible apply ex_some); · rfl)
  | ((with_reducible apply ex_bl); · rfl)
  | ((with_reducible apply ex_int); · rfl)
  | refine ⟨in_len rfl, ?_⟩
  | refine ⟨fit_l rfl, ?_⟩
  | refine ex_call1 rfl rfl ?_))
theorem any_ints (x : Int) (s : List Int) : ((s.map D.int).any fun y => eqF y (.int x)) = decide (x ∈ s) := by
  induction s with
  | nil => rfl
  | cons a s ih =>
    rw [List.map_cons, List.any_cons, ih]
    show ((a == x) || _) = _
    by_cases h : a = x
    · subst h; simp
    · have h' : ¬ x = a := fun z => h z.symm
      simp [h, h']
theorem infl_ints (x : Int) (s : List Int) : inFl (.int x) (s.map D.int) = some (decide (x ∈ s)) := by
  unfold inFl
  rw [if_pos (by rw [flat_ints]; rfl), any_ints]
theorem in_tup (x : Int) (s : List Int) : fInA (.int x) (ordD s) = some (0, .bl (decide (x ∈ s))) := by
  show (inFl (.int x) (s.map D.int)).map _ = _
  rw [infl_ints]; rfl
theorem in_lst (x : Int) (s : List Int) : fInA (.int x) (.lst (s.map D.int)) = some (0, .bl (decide (x ∈ s))) := by
  show (inFl (.int x) (s.map D.int)).map _ = _
  rw [infl_ints]; rfl
theorem nin_tup (x : Int) (s : List Int) : fNotInA (.int x) (ordD s) = some (0, .bl (!decide (x ∈ s))) := by
  show (inFl (.int x) (s.map D.int)).map _ = _
  rw [infl_ints]; rfl
theorem nin_lst (x : Int) (s : List Int) : fNotInA (.int x) (.lst (s.map D.int)) = some (0, .bl (!decide (x ∈ s))) := by
  show (inFl (.int x) (s.map D.int)).map _ = _
  rw [infl_ints]; rfl
theorem filter_ints (p : Int → Bool) (os : List Int) : (os.map D.int).filter (onI p) = (os.filter p).map D.int := by
  rw [List.filter_map]
  rfl
theorem mkLst_id (ds : List D) : ∃ k, mkLst (ds.map fun d => ((0 : Nat), d)) = (k + 1, .lst ds) := by
  refine ⟨minOwn (ds.map fun d => ((0 : Nat), d)), ?_⟩
  unfold mkLst
  rw [List.map_map]
  have : ((fun x : Vl => x.2) ∘ fun d : D => ((0 : Nat), d)) = id := rfl
  rw [this, List.map_id]
/-- the first thing of an order that is seen -/
def firstI (os s : List Int) : Int := (os.filter fun x => decide (x ∈ s)).headD 0
theorem firstI_mem {os s : List Int} (h : ∃ x ∈ os, x ∈ s) : firstI os s ∈ os ∧ firstI os s ∈ s := by
  obtain ⟨x, h1, h2⟩ := h
  have hm : x ∈ os.filter fun x => decide (x ∈ s) := List.mem_filter.mpr ⟨h1, by simpa using h2⟩
  unfold firstI
  cases q : os.filter fun x => decide (x ∈ s) with
  | nil => rw [q] at hm; cases hm
  | cons a l =>
    have : a ∈ os.filter fun x => decide (x ∈ s) := by rw [q]; exact List.mem_cons_self
    rw [List.mem_filter] at this
    exact ⟨this.1, by simpa using this.2⟩
theorem law_first_ok {d : D} {os s : List Int} (h : SeqOf d (os.map D.int)) (hne : ∃ x ∈ os, x ∈ s) : s_law_first [(0, d), (0, ordD s)] = .ok (0, .int (firstI os s)) none := by
  unfold s_law_first
  let e0 : Mini.Env := [some (0, d), some (0, ordD s), none]
  have hit : itV (vVar 0) e0 = .ok (os.map D.int) e0 := by rcases h with rfl | rfl <;> rfl
  have hc := comp_ok (own := [2]) (g := gVar 2) (t := tB (op2 fInA (oVar 2) (oVar 1))) (elt := vVar 2) (onI fun x => decide (x ∈ s)) (fun d => (0, d)) hit rfl fun y hy => by
    obtain ⟨x, hx, rfl⟩ := List.mem_map.mp hy
    exact ⟨_, [some (0, d), some (0, ordD s), some (0, .int x)], rfl, tB_ok (n := 0) (op2_ok (x := .bor 2) (y := .bor 1) rfl rfl rfl rfl (in_tup x s)), fun _ => ⟨_, rfl, rfl⟩, fun _ => rfl⟩
  rw [filter_ints] at hc
  obtain ⟨k, hk⟩ := mkLst_id ((os.filter fun x => decide (x ∈ s)).map D.int)
  rw [hk] at hc
  have hlen : 0 < (os.filter fun x => decide (x ∈ s)).length := by
    obtain ⟨x, h1, h2⟩ := hne
    exact List.length_pos_of_mem (List.mem_filter.mpr ⟨h1, by simpa using h2⟩)
  have hix := ix_ints (ns := os.filter fun x => decide (x ∈ s)) (i := 0) (by omega) (by omega)
  have hg : gI (os.filter fun x => decide (x ∈ s)) 0 = firstI os s := by
    unfold gI firstI
    cases q : os.filter fun x => decide (x ∈ s) with
    | nil => rfl
    | cons a l => rfl
  rw [hg] at hix
  exact mk_rt (ret_ok (op2_ok (x := .val _) (y := .val _) (oV_ok hc) rfl rfl rfl hix)) rfl
theorem first_of_ok {d : D} {os s : List Int} (h : SeqOf d (os.map D.int)) (hne : ∃ x ∈ os, x ∈ s) : s_first_of [(0, d), (0, ordD s)] = .ok (0, .int (firstI os s)) none := law_first_ok h hne
/-- a comprehension whose test may change the rest -/
theorem compL_eff {own : List Nat} {g : Tg} {t : M Bool} {elt : M Vl} (N : Nat) (ds0 : List D) (I : Nat → Mini.Env → Prop) (hs : ∀ (k : Nat) (d : D) (e : Mini.Env), k < N → d ∈ ds0 → I k e → ∃ e1 b e2, g d (hide own e) = some e1 ∧ t e1 = .ok b e2 ∧ (b = true → ∃ e3, elt e2 = .ok (0, d) e3 ∧ I (k + 1) e3) ∧ (b = false → I (k + 1) e2)) :
    ∀ (ds : List D) (k : Nat) (e : Mini.Env), k + ds.length ≤ N → (∀ d ∈ ds, d ∈ ds0) → I k e → ∃ (sub : List D) (e' : Mini.Env), compL own g t elt ds e = .ok (sub.map fun d => (0, d)) e' ∧ sub.Sublist ds ∧ I (k + ds.length) e'
  | [], k, e, _, _, h => ⟨[], e, rfl, List.Sublist.refl _, h⟩
  | d :: ds, k, e, hN, hm, h => by
    rw [List.length_cons] at hN
    obtain ⟨e1, b, e2, h1, h2, h3, h4⟩ := hs k d e (by omega) (hm d List.mem_cons_self) h
    unfold compL
    rw [bnd_ok (show tgM g d (hide own e) = .ok () e1 by simp only [tgM, h1]), bnd_ok h2]
    cases b with
    | true =>
      rw [if_pos rfl]
      obtain ⟨e3, k1, k2⟩ := h3 rfl
      obtain ⟨sub, e', q1, q2, q3⟩ := compL_eff N ds0 I hs ds (k + 1) e3 (by omega) (fun x hx => hm x (List.mem_cons_of_mem _ hx)) k2
      rw [bnd_ok k1, bnd_ok q1]
      exact ⟨d :: sub, e', rfl, q2.cons₂ _, by rw [List.length_cons, show k + (ds.length + 1) = k + 1 + ds.length by omega]; exact q3⟩
    | false =>
      rw [if_neg Bool.false_ne_true]
      obtain ⟨sub, e', q1, q2, q3⟩ := compL_eff N ds0 I hs ds (k + 1) e2 (by omega) (fun x hx => hm x (List.mem_cons_of_mem _ hx)) (h4 rfl)
      exact ⟨sub, e', q1, q2.cons _, by rw [List.length_cons, show k + (ds.length + 1) = k + 1 + ds.length by omega]; exact q3⟩
theorem comp_eff {own : List Nat} {it : M (List D)} {g : Tg} {t : M Bool} {elt : M Vl} {e e1 : Mini.Env} {ds : List D} (I : Nat → Mini.Env → Prop) (hi : it e = .ok ds e1) (hc : own.all (calmS e1) = true) (h0 : I 0 e1)
    (hs : ∀ (k : Nat) (d : D) (e : Mini.Env), k < ds.length → d ∈ ds → I k e → ∃ e1 b e2, g d (hide own e) = some e1 ∧ t e1 = .ok b e2 ∧ (b = true → ∃ e3, elt e2 = .ok (0, d) e3 ∧ I (k + 1) e3) ∧ (b = false → I (k + 1) e2)) :
    ∃ (k : Nat) (sub : List D) (e2 : Mini.Env), vComp own it g t elt e = .ok (k + 1, .lst sub) (back e1 own e2) ∧ sub.Sublist ds ∧ I ds.length e2 := by
  obtain ⟨sub, e2, h1, h2, h3⟩ := compL_eff ds.length ds I hs ds 0 e1 (by omega) (fun _ h => h) h0
  obtain ⟨k, hk⟩ := mkLst_id sub
  refine ⟨k, sub, e2, ?_, h2, by simpa using h3⟩
  unfold vComp
  rw [bnd_ok hi]
  show (if own.all (calmS e1) then _ else _) = _
  rw [if_pos hc, h1]
  show Res.ok (mkLst (sub.map fun d => ((0 : Nat), d))) (back e1 own e2) = _
  rw [hk]
/-- a lot of things: ascending, not empty -/
def LotOk (n : Int) (s : List Int) : Prop := s ≠ [] ∧ s.Pairwise (· < ·) ∧ ∀ x ∈ s, 0 ≤ x ∧ x < n
theorem rangeI_lt (n : Int) : (rangeI n).Pairwise (· < ·) := by
  unfold rangeI
  rw [List.pairwise_map]
  exact List.pairwise_lt_range.imp fun h => by omega
theorem fne_tups (ns ms : List Int) : fNe (ordD ns) (ordD ms) = some (0, .bl (!(decide (ns = ms)))) := by
  have h1 : toP (ordD ns) = some (.tuple (ns.map PyData.int)) := by simp [ordD, toP, toPs_ints]
  have h2 : toP (ordD ms) = some (.tuple (ms.map PyData.int)) := by simp [ordD, toP, toPs_ints]
  have hs : ∀ l : List Int, SeqAt.shaped (.tuple (l.map PyData.int)) = true := fun l => by
    have := depth_ints l
    simp [SeqAt.shaped, PyData.canLay0, lay_ints, PyData.depth]
    omega
  unfold fNe eqD
  rw [h1, h2]
  simp [hs, PyData.eqv, eqv_ints]
theorem some_list_ok {B : Int} {p : D} (h : PenOk B p) (hB : B ≤ 700000000000) {n : Nat} (n0 : 0 < n) (n1 : n ≤ 1000) :
    FT s_law_some_list [(1, p), (0, .int n)] fun v mu => ∃ (s : List Int) (p' : D), v = (0, ordD s) ∧ mu = some (1, p') ∧ LotOk n s ∧ PenOk (B + n + 1) p' := by
  unfold s_law_some_list
  refine ft_st1 rfl ?_
  rw [show startE 4 [(1, p), (0, D.int n)] = [some (1, p), some (0, .int n), none, none] from rfl]
  have hit : itRange1 (oVar 1) [some (1, p), some (0, .int n), none, none] = .ok (rangeL 0 n) [some (1, p), some (0, .int n), none, none] := by
    refine tr_eq (tr_range1 ?_)
    walk_at "st"
    exact ⟨⟨by omega, by omega⟩, rfl, rfl⟩
  have hrl : (rangeL 0 (n : Int)).length = n := by simp [rangeL]
  obtain ⟨k, sub, e2, hc, hsub, p1, s3, rfl, hp1⟩ := comp_eff (own := [3]) (g := gVar 3) (t := tB (op2 fEq (oV (vCall1 s_law_draw [oVar 0, oV (vC (.int 2))])) (oV (vC (.int 0))))) (elt := vVar 3) (fun k e => ∃ (p : D) (s3 : Option Vl), e = [some (1, p), some (0, .int n), none, s3] ∧ PenOk (B + k) p) hit rfl ⟨p, none, rfl, by simpa using h⟩ fun k d e hk hd ⟨p, s3, he, hp⟩ => by
    subst he
    obtain ⟨x, rfl, x0, x1⟩ := mem_rangeL.mp hd
    obtain ⟨r, p2, h2, r0, r1, hp2⟩ := draw_ok hp (by omega) (many := 2) (by omega) (by omega)
    have ht : tB (op2 fEq (oV (vCall1 s_law_draw [oVar 0, oV (vC (.int 2))])) (oV (vC (.int 0)))) [some (1, p), some (0, .int n), none, some (0, .int x)] = .ok (r == 0) [some (1, p2), some (0, .int n), none, some (0, .int x)] := by
      refine tr_eq ?_
      walk_at "st"
      refine ft_of h2 ⟨_, rfl, ?_⟩
      walk_at "st"
      exact ⟨rfl, rfl⟩
    exact ⟨_, _, _, rfl, ht, fun _ => ⟨_, rfl, p2, _, rfl, hp2.mono (by omega)⟩, fun _ => ⟨p2, _, rfl, hp2.mono (by omega)⟩⟩
  rw [hrl] at hp1
  rw [rangeL_eq] at hsub
  obtain ⟨s, hs, rfl⟩ := List.sublist_map_iff.mp hsub
  have hs2 : s.Pairwise (· < ·) := (rangeI_lt n).sublist hs
  have hs3 : ∀ x ∈ s, 0 ≤ x ∧ x < (n : Int) := fun x hx => mem_rangeI.mp (hs.subset hx)
  refine st_seq (st_set (tr_opN (tr_cons (tr_oV (tr_of hc ?_)))))
  walk_at "st"
  dsimp only [back, List.set]
  walk_at "st"
  refine ex_some (fne_tups s []) ?_
  refine ex_bl rfl ⟨fun hx => ?_, fun _ => ?_⟩
  · walk_at "st"
    exact ⟨_, _, rfl, rfl, s, p1, rfl, rfl, ⟨by simpa using hx, hs2, hs3⟩, hp1.mono (by omega)⟩
  · walk_at "st"
    obtain ⟨r, p2, h2, r0, r1, hp2⟩ := draw_ok hp1 (by omega) (many := (n : Int)) (by omega) (by omega)
    refine ft_of h2 ⟨_, rfl, ?_⟩
    walk_at "st"
    exact ⟨_, _, rfl, rfl, [r], p2, rfl, rfl, ⟨by simp, by simp, fun x hx => by rcases List.mem_singleton.mp hx with rfl; exact ⟨r0, r1⟩⟩, hp2⟩
end Law

set_option Elab.async false
set_option linter.all false
set_option maxRecDepth 100000
set_option maxHeartbeats 4000000
namespace Law
open PySem Mini
local macro_rules | `(tactic| walk_at "st") => `(tactic| repeat (first
  | with_reducible refine st_seq ?_
  | with_reducible refine st_set ?_
  | with_reducible refine st_ret ?_
  | with_reducible refine st_expr ?_
  | with_reducible refine st_asg ?_
  | with_reducible refine st_for ?_
  | with_reducible refine st_next ?_
  | with_reducible refine st_par2 ?_
  | with_reducible refine st_par3 ?_
  | with_reducible refine st_if ?_
  | with_reducible refine tr_oV ?_
  | with_reducible refine tr_resV ?_
  | with_reducible refine tr_vC ?_
  | with_reducible refine tr_op1 ?_
  | with_reducible refine tr_op2 ?_
  | with_reducible refine tr_opN ?_
  | with_reducible refine tr_nil ?_
  | with_reducible refine tr_cons ?_
  | with_reducible refine tr_rnil ?_
  | with_reducible refine tr_rcons ?_
  | with_reducible refine tr_tB ?_
  | with_reducible refine tr_tAnd ?_
  | with_reducible refine tr_tOr ?_
  | with_reducible refine tr_tNot ?_
  | with_reducible refine tr_vBool ?_
  | with_reducible refine tr_vIf ?_
  | with_reducible refine tr_vAnd ?_
  | with_reducible refine tr_vOr ?_
  | with_reducible refine tr_vIsI ?_
  | with_reducible refine tr_range1 ?_
  | with_reducible refine tr_range2 ?_
  | with_reducible refine tr_vRgT ?_
  | with_reducible refine tr_vRgL ?_
  | with_reducible refine tr_call0 ?_
  | with_reducible refine tr_call1 ?_
  | with_reducible refine tr_vNew ?_
  | ((with_reducible apply tr_vApp); · rfl)
  | with_reducible refine tr_vTup ?_
  | with_reducible refine tr_vLst ?_
  | with_reducible refine tr_cutNS ?_
  | with_reducible refine tr_cutSN ?_
  | with_reducible refine ex_itL ?_
  | with_reducible refine ex_itT ?_
  | with_reducible refine tr_itV ?_
  | ((with_reducible apply tr_vVar0); · rfl)
  | ((with_reducible apply tr_vVar); · rfl)
  | ((with_reducible apply tr_oVar); · rfl)
  | ((with_reducible apply tr_resB0); · rfl)
  | ((with_reducible apply tr_resB1); · rfl)
  | ((with_reducible apply tr_resB); · rfl)
  | ((with_reducible apply ex_some); · with_reducible exact feq_int _ _)
  | ((with_reducible apply ex_some); · rfl)
  | ((with_reducible apply ex_bl); · rfl)
  | ((with_reducible apply ex_int); · rfl)
  | refine ⟨in_len rfl, ?_⟩
  | refine ⟨fit_l rfl, ?_⟩
  | refine ex_call1 rfl rfl ?_))
def rowD (r : List Int × Int) : D := .tup [ordD r.1, ordD [r.2]]
theorem toP_ord (s : List Int) : toP (ordD s) = some (.tuple (s.map PyData.int)) := by simp [ordD, toP, toPs_ints]
theorem toPs_ords : ∀ ls : List (List Int), toPs (ls.map ordD) = some (ls.map fun s => .tuple (s.map PyData.int))
  | [] => rfl
  | s :: ls => by
    have := toPs_ords ls
    rw [List.map_cons, List.map_cons]
    show ((toP (ordD s)).bind fun p => (toPs (ls.map ordD)).map (p :: ·)) = _
    rw [toP_ord, this]
    rfl
theorem lay_ords : ∀ ls : List (List Int), PyData.canLayAll0 (ls.map fun s => .tuple (s.map PyData.int)) = true
  | [] => by simp [PyData.canLayAll0]
  | s :: ls => by
    have := lay_ords ls
    simp [PyData.canLayAll0, PyData.canLay0, lay_ints, this]
theorem depth_ords : ∀ ls : List (List Int), PyData.depthAll (ls.map fun s => .tuple (s.map PyData.int)) ≤ 2
  | [] => by simp [PyData.depthAll]
  | s :: ls => by
    have h1 := depth_ords ls
    have h2 := depth_ints s
    simp only [List.map_cons, PyData.depthAll, PyData.depth]
    omega
theorem any_ords (s : List Int) : ∀ ls : List (List Int), ((ls.map fun s => PyData.tuple (s.map PyData.int)).any fun z => PyData.eqv z (.tuple (s.map PyData.int))) = decide (s ∈ ls)
  | [] => rfl
  | t :: ls => by
    have ih := any_ords s ls
    rw [List.map_cons, List.any_cons, ih]
    have : PyData.eqv (.tuple (t.map PyData.int)) (.tuple (s.map PyData.int)) = decide (t = s) := by
      rw [← eqv_ints]
      simp [PyData.eqv]
    rw [this]
    by_cases h : t = s
    · subst h; simp
    · have h' : ¬ s = t := fun z => h z.symm
      simp [h, h']
theorem ninP_ords (s : List Int) (ls : List (List Int)) : fInP true (ordD s) (.lst (ls.map ordD)) = some (0, .bl (!decide (s ∈ ls))) := by
  have h1 := depth_ints s
  have h2 := depth_ords ls
  have hs : (SeqAt.shaped (.tuple (s.map PyData.int)) && SeqAt.shaped (.list (ls.map fun s => .tuple (s.map PyData.int)))) = true := by
    simp [SeqAt.shaped, PyData.canLay0, lay_ints, lay_ords, PyData.depth]
    omega
  show (inDp (ordD s) (ls.map ordD)).map _ = _
  unfold inDp
  rw [toP_ord, toPs_ords]
  dsimp only
  rw [if_pos hs, any_ords]
  rfl
/-- rows of one order -/
structure Good (n : Nat) (os : List Int) (R : List (List Int × Int)) : Prop where
  per : os.Perm (rangeI n)
  row : ∀ r ∈ R, LotOk n r.1 ∧ r.2 = firstI os r.1
  nd : (R.map (·.1)).Nodup
theorem rangeI_nodup (n : Int) : (rangeI n).Nodup := (rangeI_lt n).imp fun h => by omega
theorem sortI_le (ns : List Int) : (sortI ns).Pairwise (· ≤ ·) := by
  have := List.pairwise_mergeSort (le := fun a b : Int => decide (a ≤ b)) (by intro a b c h1 h2; simp at *; omega) (by intro a b; simp; omega) ns
  exact this.imp fun h => by simpa using h
theorem two_lot {n : Nat} {ns : List Int} (hp : ns.Perm (rangeI n)) (n2 : 2 ≤ n) : LotOk n (sortI (cutD ns none (some 2))) := by
  have hl : ns.length = n := by rw [hp.length_eq, len_rangeI]
  have hsub : (cutD ns none (some 2)).Sublist ns := (List.take_sublist _ _).trans (List.drop_sublist _ _)
  have hnd : (sortI (cutD ns none (some 2))).Nodup := (sortI_perm _).nodup_iff.mpr (hsub.nodup (hp.nodup_iff.mpr (rangeI_nodup n)))
  refine ⟨fun z => ?_, ((sortI_le _).and hnd).imp fun h => by omega, fun x hx => ?_⟩
  · have := congrArg List.length z
    rw [(sortI_perm _).length_eq] at this
    have hlen : (cutD ns none (some (2 : Int))).length = min 2 ns.length := by
      unfold cutD sIxD
      simp only [show ¬ ((2 : Int) < 0) by omega, if_false, List.length_take, List.length_drop]
      omega
    rw [hlen, List.length_nil] at this
    omega
  · exact mem_rangeI.mp (hp.mem_iff.mp (hsub.subset ((sortI_perm _).mem_iff.mp hx)))
theorem lot_meets {n : Nat} {os s : List Int} (hp : os.Perm (rangeI n)) (h : LotOk n s) : ∃ x ∈ os, x ∈ s := by
  obtain ⟨h1, _, h3⟩ := h
  cases s with
  | nil => exact absurd rfl h1
  | cons a s => exact ⟨a, hp.mem_iff.mpr (mem_rangeI.mpr (h3 a List.mem_cons_self)), List.mem_cons_self⟩
theorem single_rows_ok {B : Int} {p : D} (h : PenOk B p) (hB : B ≤ 600000000000) {n z : Nat} (n2 : 2 ≤ n) (n1 : n ≤ 100) (z0 : 0 < z) (z1 : z ≤ 100) :
    FT s_law_single_rows [(1, p), (0, .int n), (0, .int z)] fun v mu => ∃ (os : List Int) (R : List (List Int × Int)) (p' : D), v = (0, .tup [.tup (R.map rowD), ordD os]) ∧ mu = some (1, p') ∧ Good n os R ∧ R ≠ [] ∧ R.length ≤ z ∧ PenOk (B + 20000) p' := by
  unfold s_law_single_rows
  refine ft_st1 rfl ?_
  rw [show startE 8 [(1, p), (0, D.int n), (0, D.int z)] = [some (1, p), some (0, .int n), some (0, .int z), none, none, none, none, none] from rfl]
  walk_at "st"
  refine ⟨⟨by omega, by omega⟩, ?_⟩
  walk_at "st"
  obtain ⟨os, p1, h1, hperm, hp1⟩ := shuf_ok h (n := n) (by omega) (by omega)
  refine ft_of h1 ⟨_, rfl, ?_⟩
  walk_at "st"
  refine ⟨⟨by omega, by omega⟩, ?_⟩
  dsimp only [List.set]
  refine st_loop (fun i e => ∃ (p : D) (R : List (List Int × Int)) (s6 s7 : Option Vl), e = [some (1, p), some (0, .int n), some (0, .int z), some (0, ordD os), some (1, .lst (R.map rowD)), some (1, .lst ((R.map (·.1)).map ordD)), s6, s7] ∧ PenOk (B + n + i * 102) p ∧ Good n os R ∧ R.length ≤ i ∧ (0 < i → R ≠ [])) ⟨p1, [], none, none, rfl, hp1.mono (by omega), ⟨hperm, (fun _ h => nomatch h), List.nodup_nil⟩, by simp, fun h => absurd h (Nat.lt_irrefl 0)⟩ (fun i d e hd ⟨p, R, s6, s7, he, hp, hg, hl, hne⟩ => ?_) (fun e ⟨p, R, s6, s7, he, hp, hg, hl, hne⟩ => ?_)
  · subst he
    have hi : i < z := by
      have := (List.getElem?_eq_some_iff.mp hd).1
      simpa [rangeL] using this
    obtain ⟨x, rfl, x0, x1⟩ := mem_rangeL.mp (List.mem_of_getElem? hd)
    refine ⟨_, rfl, ?_⟩
    dsimp only [List.set]
    have hseen : Tr (vIf (tB (op2 fEq (oV (vCall1 s_law_draw [oVar 0, oV (vC (.int 2))])) (oV (vC (.int 0))))) (vCall1 s_law_some_list [oVar 0, oV (vVar 1)]) (opN fTuple [oV (opN fSorted [oV (vCut (oV (vCall1 s_law_shuffled [oVar 0, oV (vRg false (itRange1 (oVar 1)))])) none (some (oV (vC (.int 2)))))])])) [some (1, p), some (0, .int n), some (0, .int z), some (0, ordD os), some (1, .lst (R.map rowD)), some (1, .lst ((R.map (·.1)).map ordD)), some (0, .int x), s7]
        fun v e' => ∃ (s : List Int) (p' : D), v = (0, ordD s) ∧ e' = [some (1, p'), some (0, .int n), some (0, .int z), some (0, ordD os), some (1, .lst (R.map rowD)), some (1, .lst ((R.map (·.1)).map ordD)), some (0, .int x), s7] ∧ LotOk n s ∧ PenOk (B + n + ((i + 1 : Nat) : Int) * 102) p' := by
      walk_at "st"
      obtain ⟨r, p2, h2, r0, r1, hp2⟩ := draw_ok hp (by omega) (many := 2) (by omega) (by omega)
      refine ft_of h2 ⟨_, rfl, ?_⟩
      walk_at "st"
      refine ⟨fun _ => ?_, fun _ => ?_⟩
      · walk_at "st"
        refine (some_list_ok hp2 (by omega) (n := n) (by omega) (by omega)).imp fun v mu ⟨s, p3, hv, hm, hs, hp3⟩ => ?_
        subst hv hm
        exact ⟨_, rfl, s, p3, rfl, rfl, hs, hp3.mono (by omega)⟩
      · walk_at "st"
        refine ⟨⟨by omega, by omega⟩, ?_⟩
        walk_at "st"
        obtain ⟨ns, p3, h3, hperm3, hp3⟩ := shuf_ok hp2 (n := n) (by omega) (by omega)
        refine ft_of h3 ⟨_, rfl, ?_⟩
        walk_at "st"
        rw [cut_ints]
        have hsort : fSorted [.lst ((cutD ns none (some 2)).map D.int)] = some (1, .lst ((sortI (cutD ns none (some 2))).map D.int)) := by
          show (intsOf _).map _ = _
          rw [ints_map]
          rfl
        refine ex_some hsort ?_
        walk_at "st"
        exact ⟨_, p3, rfl, rfl, two_lot hperm3 n2, hp3.mono (by omega)⟩
    refine st_seq (st_set (hseen.imp fun v e' ⟨s, p2, hv, he, hs, hp2⟩ => ?_))
    subst hv he
    refine ⟨in_len rfl, ?_⟩
    dsimp only [List.set]
    walk_at "st"
    refine ex_some (ninP_ords s (R.map (·.1))) ?_
    refine ex_bl rfl ⟨fun hx => ?_, fun hx => ?_⟩
    · have hnew : s ∉ R.map (·.1) := by simpa using hx
      walk_at "st"
      refine ⟨_, _, _, rfl, rfl, by rw [List.length_map, List.length_map]; omega, ?_⟩
      dsimp only [List.set]
      walk_at "st"
      refine ft_of (law_first_ok (.inr rfl) (lot_meets hg.per hs)) ?_
      walk_at "st"
      refine ⟨_, _, _, rfl, rfl, by rw [List.length_map]; omega, p2, R ++ [(s, firstI os s)], some (0, .int x), some (0, ordD s), ?_, hp2, ⟨hg.per, fun r hr => ?_, ?_⟩, by rw [List.length_append, List.length_singleton]; omega, fun _ => by simp⟩
      · rw [List.map_append, List.map_append, List.map_append]
        rfl
      · rcases List.mem_append.mp hr with hr | hr
        · exact hg.row r hr
        · rcases List.mem_singleton.mp hr with rfl
          exact ⟨hs, rfl⟩
      · rw [List.map_append, List.nodup_append]
        exact ⟨hg.nd, by simp, fun a ha b hb => by
          rcases List.mem_singleton.mp hb with rfl
          exact fun z => hnew (z ▸ ha)⟩
    · have hold : s ∈ R.map (·.1) := by simpa using hx
      walk_at "st"
      exact ⟨p2, R, some (0, .int x), some (0, ordD s), rfl, hp2, hg, by omega, fun _ z => by rw [z] at hold; cases hold⟩
  · subst he
    have hrl : (rangeL 0 (z : Int)).length = z := by simp [rangeL]
    rw [hrl] at hp hl hne
    walk_at "st"
    exact ⟨_, _, rfl, rfl, os, R, p, rfl, rfl, hg, hne z0, hl, hp.mono (by omega)⟩
end Law

set_option Elab.async false
set_option linter.all false
set_option maxRecDepth 100000
set_option maxHeartbeats 4000000
namespace Law
open PySem Mini
theorem st_putT {i : Nat} {k : M Item} {m : M Vl} {e : Mini.Env} {N : Mini.Env → Prop} {K : Fl → Mini.Env → Prop} (h : Tr m e fun v e1 => ∃ n ks ds, getS e1 i = some (n + 1, .dT ks ds) ∧ Tr k e1 fun y e2 => Tr (res y) e2 fun kd e3 => ∃ key n' ks ds, keyT kd = some key ∧ getS e3 i = some (n' + 1, .dT ks ds) ∧ keysOk ks ds = true ∧ key ∉ ks ∧ ds.length ≤ 1000 ∧ N (e3.set i (some (1, putT ks ds key kd v.2)))) : St (sPutT i k m) e N K := by
  obtain ⟨v, e1, h1, n, ks, ds, g, y, e2, h2, kd, e3, h3, key, n', ks', ds', h4, g', h5, h6, h7, q⟩ := h
  refine ⟨.nx, _, ?_, q⟩
  have hs : sawS isDT i e1 = .ok () e1 := by unfold sawS; rw [g]; rfl
  have hl : ds'.length + 2 ≤ sLine := Nat.le_trans (Nat.add_le_add_right h7 2) (by decide)
  unfold sPutT
  rw [bnd_ok (oV_ok h1), bnd_ok hs, bnd_ok h2]
  unfold putTS
  rw [bnd_ok h3]
  dsimp only
  rw [g', h4]
  dsimp only
  rw [if_pos (by simp [h5, h6, hl])]
theorem st_fld {i : Nat} {f : Str} {m : M Vl} {e : Mini.Env} {N : Mini.Env → Prop} {K : Fl → Mini.Env → Prop} (h : Tr m e fun v e1 => ∃ n k ns ds, getS e1 i = some (n + 1, .ins k ns ds) ∧ ns.length < 1000 ∧ N (e1.set i (some (1, .ins k (putFd f v.2 ns ds).1 (putFd f v.2 ns ds).2)))) : St (sFldS i f m) e N K := by
  obtain ⟨v, e1, h1, n, k, ns, ds, g, hl, q⟩ := h
  refine ⟨.nx, _, ?_, q⟩
  have hs : sawS isIns i e1 = .ok () e1 := by unfold sawS; rw [g]; rfl
  unfold sFldS
  rw [bnd_ok (oV_ok h1), bnd_ok hs]
  unfold fldK
  dsimp only
  rw [g]
  dsimp only
  rw [if_pos hl]
local macro_rules | `(tactic| walk_at "st") => `(tactic| repeat (first
  | with_reducible refine st_seq ?_
  | with_reducible refine st_set ?_
  | with_reducible refine st_ret ?_
  | with_reducible refine st_expr ?_
  | with_reducible refine st_asg ?_
  | with_reducible refine st_for ?_
  | with_reducible refine st_next ?_
  | with_reducible refine st_par2 ?_
  | with_reducible refine st_par3 ?_
  | with_reducible refine st_if ?_
  | with_reducible refine tr_oV ?_
  | with_reducible refine tr_resV ?_
  | with_reducible refine tr_vC ?_
  | with_reducible refine tr_op1 ?_
  | with_reducible refine tr_op2 ?_
  | with_reducible refine tr_opN ?_
  | with_reducible refine tr_nil ?_
  | with_reducible refine tr_cons ?_
  | with_reducible refine tr_rnil ?_
  | with_reducible refine tr_rcons ?_
  | with_reducible refine tr_tB ?_
  | with_reducible refine tr_tAnd ?_
  | with_reducible refine tr_tOr ?_
  | with_reducible refine tr_tNot ?_
  | with_reducible refine tr_vBool ?_
  | with_reducible refine tr_vIf ?_
  | with_reducible refine tr_vAnd ?_
  | with_reducible refine tr_vOr ?_
  | with_reducible refine tr_vIsI ?_
  | with_reducible refine tr_range1 ?_
  | with_reducible refine tr_range2 ?_
  | with_reducible refine tr_vRgT ?_
  | with_reducible refine tr_vRgL ?_
  | with_reducible refine tr_call0 ?_
  | with_reducible refine tr_call1 ?_
  | with_reducible refine tr_vNew ?_
  | ((with_reducible apply tr_vApp); · rfl)
  | with_reducible refine tr_vTup ?_
  | with_reducible refine tr_vLst ?_
  | with_reducible refine tr_cutNS ?_
  | with_reducible refine tr_cutSN ?_
  | with_reducible refine ex_itL ?_
  | with_reducible refine ex_itT ?_
  | with_reducible refine tr_itV ?_
  | ((with_reducible apply tr_vVar0); · rfl)
  | ((with_reducible apply tr_vVar); · rfl)
  | ((with_reducible apply tr_oVar); · rfl)
  | ((with_reducible apply tr_resB0); · rfl)
  | ((with_reducible apply tr_resB1); · rfl)
  | ((with_reducible apply tr_resB); · rfl)
  | ((with_reducible apply ex_some); · with_reducible exact feq_int _ _)
  | ((with_reducible apply ex_some); · with_reducible exact fne_int _ _)
  | ((with_reducible apply ex_some); · with_reducible exact in_tup _ _)
  | ((with_reducible apply ex_some); · with_reducible exact in_lst _ _)
  | ((with_reducible apply ex_some); · with_reducible exact nin_tup _ _)
  | ((with_reducible apply ex_some); · with_reducible exact nin_lst _ _)
  | ((with_reducible apply ex_some); · rfl)
  | ((with_reducible apply ex_bl); · rfl)
  | ((with_reducible apply ex_int); · rfl)
  | refine ⟨in_len rfl, ?_⟩
  | refine ⟨fit_l rfl, ?_⟩
  | refine ex_call1 rfl rfl ?_))
theorem keysOk_ords : ∀ (ks : List (List Int)) (vs : List D), keysOk ks (ks.map ordD ++ vs) = true
  | [], _ => rfl
  | k :: ks, vs => by
    have : keyT (ordD k) = some k := ints_map k
    show ((keyT (ordD k) == some k) && keysOk ks (ks.map ordD ++ vs)) = true
    rw [this, keysOk_ords ks vs]
    simp
theorem putT_ords (ks : List (List Int)) (vs : List D) (k : List Int) (d : D) : putT ks (ks.map ordD ++ vs) k (ordD k) d = .dT (ks ++ [k]) ((ks ++ [k]).map ordD ++ (vs ++ [d])) := by
  unfold putT
  rw [List.take_left' (by rw [List.length_map]), List.drop_left' (by rw [List.length_map]), List.map_append]
  rfl
theorem names_ok {n : Nat} (h2 : 2 ≤ n) (h5 : n ≤ 5) : ∃ nd : List D, s_law_things [(0, .int n)] = .ok (1, .lst nd) none ∧ nd.length = n ∧ s_names_looked [(0, .lst nd)] = .ok (0, .non) none := by
  obtain rfl | rfl | rfl | rfl : n = 2 ∨ n = 3 ∨ n = 4 ∨ n = 5 := by omega
  · exact ⟨[.str "a", .str "b"], by kernel_rfl, rfl, by kernel_rfl⟩
  · exact ⟨[.str "a", .str "b", .str "c"], by kernel_rfl, rfl, by kernel_rfl⟩
  · exact ⟨[.str "a", .str "b", .str "c", .str "d"], by kernel_rfl, rfl, by kernel_rfl⟩
  · exact ⟨[.str "a", .str "b", .str "c", .str "d", .str "e"], by kernel_rfl, rfl, by kernel_rfl⟩
theorem is_lot_ok {n : Nat} {s : List Int} (hp : s.Pairwise (· < ·)) (hr : ∀ x ∈ s, 0 ≤ x ∧ x < (n : Int)) : s_is_lot_of [(0, .int n), (0, ordD s)] = .ok (0, .bl true) none := by
  unfold s_is_lot_of
  refine ft_eq (ft_st0 rfl ?_)
  rw [show startE 4 [(0, D.int n), (0, ordD s)] = [some (0, .int n), some (0, ordD s), none, none] from rfl]
  walk_at "st"
  refine ft_of (is_list_ok (d := ordD s) rfl) ?_
  refine ex_bl rfl ⟨(fun z => nomatch z), fun _ => st_next ?_⟩
  walk_at "st"
  dsimp only [List.set]
  refine ex_itT ?_
  refine st_loop (fun i e => ∃ (last : Int) (s3 : Option Vl), e = [some (0, .int n), some (0, ordD s), some (0, .int last), s3] ∧ ∀ j, i ≤ j → ∀ x, s[j]? = some x → last < x) ⟨-1, none, rfl, fun j _ x hx => by
    have := (hr x (List.mem_of_getElem? hx)).1
    omega⟩ (fun i d e hd ⟨last, s3, he, hlt⟩ => ?_) (fun e ⟨last, s3, he, hlt⟩ => ?_)
  · subst he
    rw [List.getElem?_map, Option.map_eq_some_iff] at hd
    obtain ⟨x, hx, rfl⟩ := hd
    obtain ⟨x0, x1⟩ := hr x (List.mem_of_getElem? hx)
    refine ⟨_, rfl, ?_⟩
    dsimp only [List.set]
    walk_at "st"
    refine ft_of (is_index_ok (d := .int x) rfl) ?_
    have hix : ixB (n : Int) (.int x) = true := by
      show (decide (0 ≤ x) && decide (x < (n : Int))) = true
      simp [x0, x1]
    rw [hix]
    refine ex_bl rfl ⟨(fun z => nomatch z), fun _ => ?_⟩
    walk_at "st"
    have := hlt i (Nat.le_refl i) x hx
    refine ⟨fun z => ?_, fun _ => ?_⟩
    · have : x ≤ last := by simpa using z
      omega
    · walk_at "st"
      refine ⟨x, some (0, .int x), rfl, fun j hj y hy => ?_⟩
      have hi := (List.getElem?_eq_some_iff.mp hx)
      have hj' := (List.getElem?_eq_some_iff.mp hy)
      obtain ⟨hi1, hi2⟩ := hi
      obtain ⟨hj1, hj2⟩ := hj'
      have := List.pairwise_iff_getElem.mp hp i j hi1 hj1 (by omega)
      rw [hi2, hj2] at this
      exact this
  · subst he
    walk_at "st"
    exact ⟨_, rfl, rfl, rfl⟩
theorem is_choice_ok {n : Nat} {r : List Int × Int} (h : LotOk n r.1) (hc : r.2 ∈ r.1) : s_is_choice [(0, .int n), (0, rowD r)] = .ok (0, .bl true) none := by
  unfold s_is_choice
  let e0 : Mini.Env := [some (0, .int n), some (0, rowD r), none, none]
  have l1 := is_lot_ok h.2.1 h.2.2
  have l2 : s_is_lot_of [(0, .int n), (0, ordD [r.2])] = .ok (0, .bl true) none := is_lot_ok (by simp) fun x hx => by
    rcases List.mem_singleton.mp hx with rfl
    exact h.2.2 _ hc
  have hpos : 0 < r.1.length := List.length_pos_iff.mpr h.1
  obtain ⟨k, c1⟩ : ∃ k, vComp [2] (itV (vVar 1)) (gVar 2) (Mini.ret true) (vAnd (vCall0 s_is_lot_of [oV (vVar 0), oV (vVar 2)]) (op2 fGt (oV (opN fLen [oVar 2])) (oV (vC (.int 0))))) e0 = .ok (k + 1, .lst ([ordD r.1, ordD [r.2]].map fun _ => .bl true)) e0 := by
    refine comp_map2 (fun _ => .bl true) (ds := [ordD r.1, ordD [r.2]]) rfl rfl fun d hd => ?_
    have hd' : ∃ s, d = ordD s ∧ s_is_lot_of [(0, .int n), (0, ordD s)] = .ok (0, .bl true) none ∧ 0 < s.length := by
      simp only [List.mem_cons, List.not_mem_nil, or_false] at hd
      rcases hd with rfl | rfl
      · exact ⟨_, rfl, l1, hpos⟩
      · exact ⟨_, rfl, l2, by simp⟩
    obtain ⟨s, rfl, hs, hl⟩ := hd'
    refine ⟨_, rfl, rfl, ?_⟩
    dsimp only [hide, List.set]
    refine tr_eq ?_
    walk_at "st"
    refine ft_of hs ?_
    refine ex_bl rfl ⟨fun _ => ?_, fun z => nomatch z⟩
    walk_at "st"
    rw [List.length_map]
    exact ⟨by rw [decide_eq_true (show (0 : Int) < (s.length : Int) by omega)], rfl⟩
  obtain ⟨k2, c2⟩ : ∃ k, vComp [3] (itV (op2 fIxA (oVar 1) (oV (vC (.int 1))))) (gVar 3) (Mini.ret true) (op2 fInA (oVar 3) (oV (op2 fIxA (oVar 1) (oV (vC (.int 0)))))) e0 = .ok (k + 1, .lst ([D.int r.2].map fun _ => .bl true)) e0 := by
    refine comp_map2 (fun _ => .bl true) (ds := [D.int r.2]) rfl rfl fun d hd => ?_
    rcases List.mem_singleton.mp hd with rfl
    refine ⟨_, rfl, rfl, ?_⟩
    dsimp only [hide, List.set]
    refine tr_eq ?_
    walk_at "st"
    rw [decide_eq_true hc]
    exact ⟨rfl, rfl⟩
  refine ft_eq (ft_st0 rfl ?_)
  rw [show startE 4 [(0, D.int n), (0, rowD r)] = e0 from rfl]
  walk_at "st"
  refine ft_of (is_list_ok (d := rowD r) rfl) ?_
  refine ex_bl rfl ⟨(fun z => nomatch z), fun _ => ?_⟩
  refine tr_tOr (tr_tB ?_)
  walk_at "st"
  refine ⟨(fun z => nomatch z), fun _ => ?_⟩
  refine tr_tNot (tr_tB (tr_of (opN1_ok (oV_ok c1) rfl rfl) ?_))
  refine ex_bl rfl ⟨(fun z => nomatch z), fun _ => st_next ?_⟩
  refine st_ret (tr_of (opN1_ok (oV_ok c2) rfl rfl) ⟨_, rfl, rfl, rfl⟩)
end Law

set_option Elab.async false
set_option linter.all false
set_option maxRecDepth 100000
set_option maxHeartbeats 4000000
namespace Law
open PySem Mini
local macro_rules | `(tactic| walk_at "st") => `(tactic| repeat (first
  | with_reducible refine st_seq ?_
  | with_reducible refine st_set ?_
  | with_reducible refine st_ret ?_
  | with_reducible refine st_expr ?_
  | with_reducible refine st_asg ?_
  | with_reducible refine st_for ?_
  | with_reducible refine st_next ?_
  | with_reducible refine st_par2 ?_
  | with_reducible refine st_par3 ?_
  | with_reducible refine st_if ?_
  | with_reducible refine tr_oV ?_
  | with_reducible refine tr_resV ?_
  | with_reducible refine tr_vC ?_
  | with_reducible refine tr_op1 ?_
  | with_reducible refine tr_op2 ?_
  | with_reducible refine tr_opN ?_
  | with_reducible refine tr_nil ?_
  | with_reducible refine tr_cons ?_
  | with_reducible refine tr_rnil ?_
  | with_reducible refine tr_rcons ?_
  | with_reducible refine tr_tB ?_
  | with_reducible refine tr_tAnd ?_
  | with_reducible refine tr_tOr ?_
  | with_reducible refine tr_tNot ?_
  | with_reducible refine tr_vBool ?_
  | with_reducible refine tr_vIf ?_
  | with_reducible refine tr_vAnd ?_
  | with_reducible refine tr_vOr ?_
  | with_reducible refine tr_vIsI ?_
  | with_reducible refine tr_range1 ?_
  | with_reducible refine tr_range2 ?_
  | with_reducible refine tr_vRgT ?_
  | with_reducible refine tr_vRgL ?_
  | with_reducible refine tr_call0 ?_
  | with_reducible refine tr_call1 ?_
  | with_reducible refine tr_vNew ?_
  | ((with_reducible apply tr_vApp); · rfl)
  | with_reducible refine tr_vTup ?_
  | with_reducible refine tr_vLst ?_
  | with_reducible refine tr_cutNS ?_
  | with_reducible refine tr_cutSN ?_
  | with_reducible refine ex_itL ?_
  | with_reducible refine ex_itT ?_
  | with_reducible refine tr_itV ?_
  | ((with_reducible apply tr_vVar0); · rfl)
  | ((with_reducible apply tr_vVar); · rfl)
  | ((with_reducible apply tr_oVar); · rfl)
  | ((with_reducible apply tr_resB0); · rfl)
  | ((with_reducible apply tr_resB1); · rfl)
  | ((with_reducible apply tr_resB); · rfl)
  | ((with_reducible apply ex_some); · with_reducible exact feq_int _ _)
  | ((with_reducible apply ex_some); · with_reducible exact fne_int _ _)
  | ((with_reducible apply ex_some); · with_reducible exact in_tup _ _)
  | ((with_reducible apply ex_some); · with_reducible exact in_lst _ _)
  | ((with_reducible apply ex_some); · with_reducible exact nin_tup _ _)
  | ((with_reducible apply ex_some); · with_reducible exact nin_lst _ _)
  | ((with_reducible apply ex_some); · rfl)
  | ((with_reducible apply ex_bl); · rfl)
  | ((with_reducible apply ex_int); · rfl)
  | refine ⟨in_len rfl, ?_⟩
  | refine ⟨fit_l rfl, ?_⟩
  | refine ex_call1 rfl rfl ?_))
/-- choices as they are held -/
def chD (nd : List D) (R : List (List Int × Int)) : D := .ins 0 ["things", "rows", "many", "size"] [.tup nd, .tup (R.map rowD), .int nd.length, .int R.length]
theorem choices_init {n : Nat} {os : List Int} {R : List (List Int × Int)} {nd : List D} (hn : nd.length = n) (n0 : 0 < n) (hl : s_names_looked [(0, .lst nd)] = .ok (0, .non) none) (hg : Good n os R) (hR : R.length ≤ 100) :
    s_Choices_init [(9, .ins 0 [] []), (0, .lst nd), (0, .tup (R.map rowD))] = .ok (0, .non) (some (1, chD nd R)) := by
  unfold s_Choices_init
  refine ft_eq (ft_st1 rfl ?_)
  rw [show startE 5 [(9, D.ins 0 [] []), (0, D.lst nd), (0, D.tup (R.map rowD))] = [some (9, .ins 0 [] []), some (0, .lst nd), some (0, .tup (R.map rowD)), none, none] from rfl]
  refine st_seq (st_if (tr_tOr (tr_tNot (tr_tB (tr_call0 ?_)))))
  walk_at "st"
  refine ft_of (is_list_ok (d := .lst nd) rfl) ?_
  refine ex_bl rfl ⟨(fun z => nomatch z), fun _ => ?_⟩
  walk_at "st"
  have hn0 : ((nd.length : Int) == 0) = false := by
    rw [beq_eq_false_iff_ne]
    omega
  rw [hn0]
  refine ⟨(fun z => nomatch z), fun _ => st_next ?_⟩
  refine st_seq (st_expr (tr_call0 ?_))
  walk_at "st"
  refine ft_of hl ?_
  refine st_seq (st_if (tr_tNot (tr_tB (tr_call0 ?_))))
  walk_at "st"
  refine ft_of (is_list_ok (d := .tup (R.map rowD)) rfl) ?_
  refine ex_bl rfl ⟨(fun z => nomatch z), fun _ => st_next ?_⟩
  refine st_seq (st_set (tr_of (a := ((1 : Nat), D.dT [] [])) rfl ⟨in_len rfl, ?_⟩))
  dsimp only [List.set]
  refine st_seq (st_for ?_)
  walk_at "st"
  refine st_loop (fun i e => ∃ (vs : List D) (s4 : Option Vl), e = [some (9, .ins 0 [] []), some (0, .lst nd), some (0, .tup (R.map rowD)), some (1, .dT ((R.map (·.1)).take i) (((R.map (·.1)).take i).map ordD ++ vs)), s4] ∧ vs.length = i ∧ calmS e 4 = true) ⟨[], none, rfl, rfl, rfl⟩ (fun i d e hd ⟨vs, s4, he, hvs, _⟩ => ?_) (fun e ⟨vs, s4, he, hvs, hcalm⟩ => ?_)
  · subst he
    rw [List.getElem?_map, Option.map_eq_some_iff] at hd
    obtain ⟨r, hr, rfl⟩ := hd
    have hrm := List.mem_of_getElem? hr
    obtain ⟨hlot, hfirst⟩ := hg.row r hrm
    have hc : r.2 ∈ r.1 := by rw [hfirst]; exact (firstI_mem (lot_meets hg.per hlot)).2
    have hi : i < R.length := (List.getElem?_eq_some_iff.mp hr).1
    have hget : (R.map (·.1))[i]? = some r.1 := by rw [List.getElem?_map, hr]; rfl
    have htake : (R.map (·.1)).take (i + 1) = (R.map (·.1)).take i ++ [r.1] := by
      rw [List.take_add_one, hget]
      rfl
    have hnew : r.1 ∉ (R.map (·.1)).take i := by
      have hnd := hg.nd
      have := (List.take_sublist (i + 1) (R.map (·.1))).nodup hnd
      rw [htake, List.nodup_append] at this
      exact fun z => this.2.2 r.1 z r.1 (by simp) rfl
    refine ⟨_, rfl, ?_⟩
    dsimp only [List.set]
    refine st_seq (st_if (tr_tNot (tr_tB (tr_call0 ?_))))
    walk_at "st"
    refine ft_of (hn ▸ is_choice_ok hlot hc) ?_
    refine ex_bl rfl ⟨(fun z => nomatch z), fun _ => st_next ?_⟩
    have hkey : ∀ s3, opN fTuple [oV (op2 fIxA (oVar 4) (oV (vC (.int 0))))] [some (9, .ins 0 [] []), some (0, .lst nd), some (0, .tup (R.map rowD)), s3, some (0, rowD r)] = .ok (0, ordD r.1) [some (9, .ins 0 [] []), some (0, .lst nd), some (0, .tup (R.map rowD)), s3, some (0, rowD r)] := fun s3 => rfl
    refine st_seq (st_if (tr_tB (tr_op2 (tr_oV (tr_of (hkey _) ?_)))))
    walk_at "st"
    have hin : fInT false (ordD r.1) (.dT ((R.map (·.1)).take i) (((R.map (·.1)).take i).map ordD ++ vs)) = some (0, .bl false) := by
      have hk : keyT (ordD r.1) = some r.1 := ints_map r.1
      show (if keysOk _ _ then (keyT (ordD r.1)).map _ else none) = _
      rw [if_pos (keysOk_ords _ _), hk]
      show some ((0 : Nat), D.bl (if false = true then _ else decide (r.1 ∈ (R.map (·.1)).take i))) = _
      rw [decide_eq_false hnew]
      rfl
    refine ex_some hin ?_
    refine ex_bl rfl ⟨(fun z => nomatch z), fun _ => st_next ?_⟩
    refine st_putT (tr_vC ⟨_, _, _, rfl, tr_oV (tr_of (hkey _) (tr_resV ⟨r.1, _, _, _, ints_map r.1, rfl, keysOk_ords _ _, hnew, ?_, ?_⟩))⟩)
    · rw [List.length_append, List.length_map, List.length_take, List.length_map]
      omega
    · refine ⟨vs ++ [.bl true], some (0, rowD r), ?_, by rw [List.length_append, hvs]; rfl, rfl⟩
      rw [putT_ords, ← htake]
      rfl
  · subst he
    have hth : ∀ e : Mini.Env, getS e 1 = some (0, .lst nd) → opN fTuple [oVar 1] e = .ok (0, .tup nd) e := fun e g => tr_eq (tr_opN (tr_cons (tr_oVar g (tr_nil (tr_rcons (tr_resB0 g (tr_rnil (ex_some rfl ⟨rfl, rfl⟩))))))))
    refine st_seq (st_fld (tr_of (hth _ rfl) ⟨_, _, _, _, rfl, by decide, ?_⟩))
    dsimp only [List.set]
    obtain ⟨k, c⟩ : ∃ k, vComp [4] (itV (vVar 2)) (gVar 4) (Mini.ret true) (vTup [oV (opN fTuple [oV (op2 fIxA (oVar 4) (oV (vC (.int 0))))]), oV (opN fTuple [oV (op2 fIxA (oVar 4) (oV (vC (.int 1))))])])
        [some (1, .ins 0 ["things"] [.tup nd]), some (0, .lst nd), some (0, .tup (R.map rowD)), some (1, .dT ((R.map (·.1)).take (R.map rowD).length) (((R.map (·.1)).take (R.map rowD).length).map ordD ++ vs)), s4] = .ok (k + 1, .lst ((R.map rowD).map id)) [some (1, .ins 0 ["things"] [.tup nd]), some (0, .lst nd), some (0, .tup (R.map rowD)), some (1, .dT ((R.map (·.1)).take (R.map rowD).length) (((R.map (·.1)).take (R.map rowD).length).map ordD ++ vs)), s4] := by
      refine comp_map2 id (ds := R.map rowD) rfl (by simpa [calmS, getS] using hcalm) fun d hd => ?_
      obtain ⟨r, _, rfl⟩ := List.mem_map.mp hd
      exact ⟨_, rfl, rfl, rfl⟩
    rw [List.map_id] at c
    refine st_seq (st_fld (tr_opN (tr_cons (tr_oV (tr_of c ?_)))))
    walk_at "st"
    refine ⟨_, _, _, _, rfl, (show (1 : Nat) < 1000 by decide), ?_⟩
    dsimp only [List.set]
    refine st_seq (st_fld ?_)
    walk_at "st"
    refine ⟨_, _, _, _, rfl, (show (2 : Nat) < 1000 by decide), ?_⟩
    dsimp only [List.set]
    refine st_fld ?_
    walk_at "st"
    refine ⟨_, _, _, _, rfl, (show (3 : Nat) < 1000 by decide), ?_⟩
    refine ⟨_, rfl, rfl, ?_⟩
    rw [List.length_map]
    rfl
end Law

set_option Elab.async false
set_option linter.all false
set_option maxRecDepth 100000
set_option maxHeartbeats 4000000
namespace Law
open PySem Mini
local macro_rules | `(tactic| walk_at "st") => `(tactic| repeat (first
  | with_reducible refine st_seq ?_
  | with_reducible refine st_set ?_
  | with_reducible refine st_ret ?_
  | with_reducible refine st_expr ?_
  | with_reducible refine st_asg ?_
  | with_reducible refine st_for ?_
  | with_reducible refine st_next ?_
  | with_reducible refine st_par2 ?_
  | with_reducible refine st_par3 ?_
  | with_reducible refine st_if ?_
  | with_reducible refine tr_oV ?_
  | with_reducible refine tr_resV ?_
  | with_reducible refine tr_vC ?_
  | with_reducible refine tr_op1 ?_
  | with_reducible refine tr_op2 ?_
  | with_reducible refine tr_opN ?_
  | with_reducible refine tr_nil ?_
  | with_reducible refine tr_cons ?_
  | with_reducible refine tr_rnil ?_
  | with_reducible refine tr_rcons ?_
  | with_reducible refine tr_tB ?_
  | with_reducible refine tr_tAnd ?_
  | with_reducible refine tr_tOr ?_
  | with_reducible refine tr_tNot ?_
  | with_reducible refine tr_vBool ?_
  | with_reducible refine tr_vIf ?_
  | with_reducible refine tr_vAnd ?_
  | with_reducible refine tr_vOr ?_
  | with_reducible refine tr_vIsI ?_
  | with_reducible refine tr_range1 ?_
  | with_reducible refine tr_range2 ?_
  | with_reducible refine tr_vRgT ?_
  | with_reducible refine tr_vRgL ?_
  | with_reducible refine tr_call0 ?_
  | with_reducible refine tr_call1 ?_
  | with_reducible refine tr_vNew ?_
  | ((with_reducible apply tr_vApp); · rfl)
  | with_reducible refine tr_vTup ?_
  | with_reducible refine tr_vLst ?_
  | with_reducible refine tr_cutNS ?_
  | with_reducible refine tr_cutSN ?_
  | with_reducible refine ex_itL ?_
  | with_reducible refine ex_itT ?_
  | with_reducible refine tr_itV ?_
  | ((with_reducible apply tr_vVar0); · rfl)
  | ((with_reducible apply tr_vVar); · rfl)
  | ((with_reducible apply tr_oVar); · rfl)
  | ((with_reducible apply tr_resB0); · rfl)
  | ((with_reducible apply tr_resB1); · rfl)
  | ((with_reducible apply tr_resB); · rfl)
  | ((with_reducible apply ex_some); · with_reducible exact feq_int _ _)
  | ((with_reducible apply ex_some); · with_reducible exact fne_int _ _)
  | ((with_reducible apply ex_some); · with_reducible exact in_tup _ _)
  | ((with_reducible apply ex_some); · with_reducible exact in_lst _ _)
  | ((with_reducible apply ex_some); · with_reducible exact nin_tup _ _)
  | ((with_reducible apply ex_some); · with_reducible exact nin_lst _ _)
  | ((with_reducible apply ex_some); · rfl)
  | ((with_reducible apply ex_bl); · rfl)
  | ((with_reducible apply ex_int); · rfl)
  | refine ⟨in_len rfl, ?_⟩
  | refine ⟨fit_l rfl, ?_⟩
  | refine ex_call1 rfl rfl ?_))
theorem tr_in2 {neg : Bool} {k i j : Nat} {e : Mini.Env} {b : Bool} {Q : Vl → Mini.Env → Prop} (h : in2E (getS e i) (getS e j) (getS e k) = some b) (q : Q (0, .bl (if neg then !b else b)) e) : Tr (vIn2 neg k i j) e Q := ⟨_, e, by unfold vIn2; rw [h], q⟩
theorem st_put2 {i j k : Nat} {m : M Vl} {e : Mini.Env} {N : Mini.Env → Prop} {K : Fl → Mini.Env → Prop} (h : Tr m e fun v e1 => ∃ ds', put2E v.2 (getS e1 i) (getS e1 j) (getS e1 k) = some ds' ∧ N (e1.set i (some (2, .lst ds')))) : St (sPut2 i j k m) e N K := by
  obtain ⟨v, e1, h1, ds', h2, q⟩ := h
  refine ⟨.nx, _, ?_, q⟩
  unfold sPut2
  rw [bnd_ok (oV_ok h1)]
  unfold put2K
  dsimp only
  rw [h2]
theorem idx_ne {a x : Int} {l : List Int} (h : a ≠ x) : (a :: l).idxOf x = l.idxOf x + 1 := by
  rw [List.idxOf_cons]
  have : (a == x) = false := by rw [beq_eq_false_iff_ne]; exact h
  rw [this]
  rfl
theorem firstI_lt : ∀ {os s : List Int} {o : Int}, o ∈ os → o ∈ s → o ≠ firstI os s → os.idxOf (firstI os s) < os.idxOf o
  | [], _, _, h, _, _ => nomatch h
  | a :: os, s, o, ho, hs, hne => by
    by_cases ha : a ∈ s
    · have : firstI (a :: os) s = a := by
        unfold firstI
        rw [List.filter_cons_of_pos (by simpa using ha)]
        rfl
      rw [this] at hne ⊢
      rw [List.idxOf_cons_self, idx_ne (fun z => hne z.symm)]
      omega
    · have hf : firstI (a :: os) s = firstI os s := by
        unfold firstI
        rw [List.filter_cons_of_neg (by simpa using ha)]
      have ho' : o ∈ os := by
        rcases List.mem_cons.mp ho with rfl | h
        · exact absurd hs ha
        · exact h
      rw [hf] at hne ⊢
      have hm := (firstI_mem (os := os) (s := s) ⟨o, ho', hs⟩).2
      rw [idx_ne (a := a) (x := firstI os s) (fun z => ha (by rw [z]; exact hm)), idx_ne (a := a) (x := o) (fun z => ha (by rw [z]; exact hs))]
      have := firstI_lt ho' hs hne
      omega
theorem lot_len : ∀ {s : List Int} {lo n : Int}, s.Pairwise (· < ·) → (∀ x ∈ s, lo ≤ x ∧ x < n) → s.length ≤ (n - lo).toNat
  | [], _, _, _, _ => Nat.zero_le _
  | a :: s, lo, n, hp, h => by
    have h1 := h a List.mem_cons_self
    have := lot_len (s := s) (lo := a + 1) (n := n) hp.of_cons fun x hx => by
      have h2 := List.rel_of_pairwise_cons hp hx
      have h3 := h x (List.mem_cons_of_mem _ hx)
      omega
    rw [List.length_cons]
    omega
/-- what is told below each thing: only what comes later in the order -/
def BelOk (n : Nat) (os : List Int) (m : Nat) (bs : List D) : Prop := bs.length = n ∧ ∀ t : Nat, t < n → ∃ (ks : List Key) (es : List D), bs[t]? = some (.dK ks es) ∧ ks.length = es.length ∧ ks.length ≤ m ∧ ∀ o : Int, .inl o ∈ ks → os.idxOf (t : Int) < os.idxOf o
theorem BelOk.mono {n m m' : Nat} {os : List Int} {bs : List D} (h : BelOk n os m bs) (hm : m ≤ m') : BelOk n os m' bs := ⟨h.1, fun t ht => by
  obtain ⟨ks, es, h1, h2, h3, h4⟩ := h.2 t ht
  exact ⟨ks, es, h1, h2, Nat.le_trans h3 hm, h4⟩⟩
theorem putK_facts (ks : List Key) (es : List D) (x : Key) (y : D) (hl : ks.length = es.length) : (putK ks es x y).1.length = (putK ks es x y).2.length ∧ (putK ks es x y).1.length ≤ ks.length + 1 ∧ ∀ k ∈ (putK ks es x y).1, k ∈ ks ∨ k = x := by
  unfold putK
  split
  · refine ⟨?_, Nat.le_succ _, fun k hk => .inl hk⟩
    show ks.length = (List.zipWith _ ks es).length
    rw [List.length_zipWith]
    omega
  · refine ⟨by simp [hl], by simp, fun k hk => ?_⟩
    rcases List.mem_append.mp hk with hk | hk
    · exact .inl hk
    · exact .inr (List.mem_singleton.mp hk)
theorem bel_put {n m : Nat} {os : List Int} {bs : List D} (h : BelOk n os m bs) {t o : Int} {y : D} (t0 : 0 ≤ t) (tn : t < n) (hm : m ≤ 100000) (ho : os.idxOf t < os.idxOf o) {s2 s3 : Option Vl} (e2 : s2 = some (0, .int t)) (e3 : s3 = some (0, .int o)) :
    ∃ bs', put2E y (some (2, .lst bs)) s2 s3 = some bs' ∧ BelOk n os (m + 1) bs' := by
  subst e2 e3
  obtain ⟨hl, hb⟩ := h
  obtain ⟨ks, es, h1, h2, h3, h4⟩ := hb t.toNat (by omega)
  have hs : ks.length < sLine := Nat.lt_of_le_of_lt (Nat.le_trans h3 hm) (by decide)
  refine ⟨bs.set t.toNat (.dK (putK ks es (.inl o) y).1 (putK ks es (.inl o) y).2), ?_, by rw [List.length_set]; exact hl, fun u hu => ?_⟩
  · show ((some bs).bind fun ds => (some t).bind fun z => (some (Sum.inl o)).bind fun kk => (ds[z.toNat]?).bind fun d => (dictD d).bind fun q => _) = _
    simp only [Option.bind_some, h1]
    show (if decide (0 ≤ t) && decide (ks.length < sLine) then some _ else none) = _
    rw [if_pos (by simp [t0, hs])]
  · by_cases hut : t.toNat = u
    · subst hut
      obtain ⟨q1, q2, q3⟩ := putK_facts ks es (.inl o) y h2
      refine ⟨_, _, by rw [List.getElem?_set_self (by omega)], q1, by omega, fun o' ho' => ?_⟩
      rcases q3 _ ho' with h | h
      · exact h4 o' h
      · cases h
        rw [Int.toNat_of_nonneg t0]
        exact ho
    · obtain ⟨ks', es', k1, k2, k3, k4⟩ := hb u hu
      exact ⟨ks', es', by rw [List.getElem?_set_ne hut]; exact k1, k2, by omega, k4⟩
theorem bel_in {n m : Nat} {os : List Int} {bs : List D} (h : BelOk n os m bs) {t : Int} (t0 : 0 ≤ t) (tn : t < n) (o : Int) {k : Nat} : ∃ b, in2E (some (k, .lst bs)) (some (0, .int t)) (some (0, .int o)) = some b := by
  obtain ⟨ks, es, h1, _⟩ := h.2 t.toNat (by omega)
  refine ⟨(findK ks es (.inl o)).isSome, ?_⟩
  show ((some bs).bind fun ds => (some t).bind fun z => (some (Sum.inl o)).bind fun kk => (ds[z.toNat]?).bind fun d => (dictD d).bind fun q => _) = _
  simp only [Option.bind_some, h1]
  show (if 0 ≤ t then some _ else none) = _
  rw [if_pos t0]
theorem minOwn_one {α : Type} (x : D) : ∀ {l : List α}, l ≠ [] → minOwn (l.map fun _ => ((1 : Nat), x)) = 1
  | [], h => absurd rfl h
  | [a], _ => rfl
  | a :: b :: l, _ => by
    have := minOwn_one x (l := b :: l) (by simp)
    rw [List.map_cons]
    show min 1 (minOwn _) = 1
    rw [this]; rfl
theorem told_pairs_ok {n : Nat} {os : List Int} {R : List (List Int × Int)} {nd : List D} (hn : nd.length = n) (n0 : 0 < n) (n1 : n ≤ 100) (hg : Good n os R) (hR : R.length ≤ 100) :
    FT s_told_pairs [(0, chD nd R)] fun v mu => mu = none ∧ ∃ bs, v = (0, .lst bs) ∧ BelOk n os 10000 bs := by
  unfold s_told_pairs
  refine ft_st0 rfl ?_
  let e0 : Mini.Env := [some (0, chD nd R), none, none, none, none, none, none, none]
  rw [show startE 8 [(0, chD nd R)] = e0 from rfl]
  have hmany : ∀ e : Mini.Env, getS e 0 = some (0, chD nd R) → op1 (fAttr "many") (oVar 0) e = .ok (0, .int n) e := fun e g => tr_eq (tr_op1 (tr_oVar g (tr_resB0 g (ex_some (show _ = some ((0 : Nat), D.int nd.length) from rfl) ⟨by rw [hn], rfl⟩))))
  have hsize : ∀ e : Mini.Env, getS e 0 = some (0, chD nd R) → op1 (fAttr "size") (oVar 0) e = .ok (0, .int R.length) e := fun e g => tr_eq (tr_op1 (tr_oVar g (tr_resB0 g (ex_some (show _ = some ((0 : Nat), D.int R.length) from rfl) ⟨rfl, rfl⟩))))
  have hrows : ∀ e : Mini.Env, getS e 0 = some (0, chD nd R) → op1 (fAttr "rows") (oVar 0) e = .ok (0, .tup (R.map rowD)) e := fun e g => tr_eq (tr_op1 (tr_oVar g (tr_resB0 g (ex_some (show _ = some ((0 : Nat), D.tup (R.map rowD)) from rfl) ⟨rfl, rfl⟩))))
  have hit : itRange1 (oV (op1 (fAttr "many") (oVar 0))) e0 = .ok (rangeL 0 n) e0 := tr_eq (tr_range1 (tr_oV (tr_of (hmany e0 rfl) (tr_resV (ex_int rfl ⟨⟨by omega, by omega⟩, rfl, rfl⟩)))))
  have hc := comp_ok (own := [7]) (g := gVar 7) (t := Mini.ret true) (elt := vDct [] []) (fun _ => true) (fun _ => (1, .dK [] [])) hit rfl fun d hd => ⟨_, _, rfl, rfl, fun _ => ⟨_, rfl, rfl⟩, fun z => nomatch z⟩
  have hfil : ((rangeL 0 (n : Int)).filter fun _ => true) = rangeL 0 n := List.filter_eq_self.mpr fun _ _ => rfl
  have hrl : (rangeL 0 (n : Int)).length = n := by simp [rangeL]
  rw [hfil] at hc
  have hmk : mkLst ((rangeL 0 (n : Int)).map fun _ => ((1 : Nat), D.dK [] [])) = (2, .lst ((rangeL 0 (n : Int)).map fun _ => .dK [] [])) := by
    unfold mkLst
    rw [minOwn_one _ (fun z => by rw [z] at hrl; simp at hrl; omega), List.map_map]
    rfl
  rw [hmk] at hc
  refine st_seq (st_set (tr_of hc ⟨in_len rfl, ?_⟩))
  dsimp only [e0, List.set]
  have hb0 : BelOk n os 0 ((rangeL 0 (n : Int)).map fun _ => .dK [] []) := ⟨by rw [List.length_map, hrl], fun t ht => ⟨[], [], by rw [List.getElem?_map, List.getElem?_eq_getElem (by omega)]; rfl, rfl, Nat.le_refl _, fun _ h => nomatch h⟩⟩
  refine st_seq (st_for (tr_range1 (tr_oV (tr_of (hsize _ rfl) (tr_resV (ex_int rfl ⟨⟨by omega, by omega⟩, ?_⟩))))))
  refine st_loop (fun i e => ∃ (bs : List D) (s2 s3 s4 s5 s6 : Option Vl), e = [some (0, chD nd R), some (2, .lst bs), s2, s3, s4, s5, s6, none] ∧ BelOk n os (i * 100) bs) ⟨_, none, none, none, none, none, rfl, by simpa using hb0⟩ (fun i d e hd ⟨bs, s2, s3, s4, s5, s6, he, hb⟩ => ?_) (fun e ⟨bs, s2, s3, s4, s5, s6, he, hb⟩ => ?_)
  · subst he
    have hi : i < R.length := by
      have := (List.getElem?_eq_some_iff.mp hd).1
      simpa [rangeL] using this
    have hd' : d = .int i := by
      rw [rangeL_eq, List.getElem?_map, Option.map_eq_some_iff] at hd
      obtain ⟨x, hx, rfl⟩ := hd
      unfold rangeI at hx
      rw [List.getElem?_map, List.getElem?_range (by simpa using hi)] at hx
      cases hx
      rfl
    subst hd'
    have hrm : R[i] ∈ R := List.getElem_mem hi
    obtain ⟨hlot, hfirst⟩ := hg.row _ hrm
    have hcm := (firstI_mem (lot_meets hg.per hlot)).2
    rw [← hfirst] at hcm
    obtain ⟨c0, c1⟩ := hlot.2.2 _ hcm
    have hslen := lot_len hlot.2.1 hlot.2.2
    have hix : fIxA (.tup (R.map rowD)) (.int i) = some (0, rowD R[i]) := by
      simp [fIxA, fIx, ixD, List.getElem?_eq_getElem hi]
    refine ⟨_, rfl, ?_⟩
    dsimp only [List.set]
    refine st_seq (st_asg (tr_op2 (tr_oV (tr_of (hrows _ rfl) ?_))))
    walk_at "st"
    refine ex_some hix ⟨_, rfl, ?_⟩
    dsimp only [List.set]
    walk_at "st"
    refine ex_itT ?_
    refine st_loop (fun k e => ∃ (bs : List D) (s5 s6 : Option Vl), e = [some (0, chD nd R), some (2, .lst bs), some (0, .int i), some (0, ordD R[i].1), some (0, ordD [R[i].2]), s5, s6, none] ∧ BelOk n os (i * 100 + k * 100) bs) ⟨bs, s5, s6, rfl, by simpa using hb⟩ (fun k d e hd ⟨bs, s5, s6, he, hb⟩ => ?_) (fun e ⟨bs, s5, s6, he, hb⟩ => ?_)
    · subst he
      have hk : k = 0 ∧ d = .int R[i].2 := by
        match k, hd with
        | 0, hd => cases hd; exact ⟨rfl, rfl⟩
        | _ + 1, hd => cases hd
      obtain ⟨rfl, rfl⟩ := hk
      refine ⟨_, rfl, ?_⟩
      dsimp only [List.set]
      walk_at "st"
      refine ex_itT ?_
      refine st_loop (fun k e => ∃ (bs : List D) (s6 : Option Vl), e = [some (0, chD nd R), some (2, .lst bs), some (0, .int i), some (0, ordD R[i].1), some (0, ordD [R[i].2]), some (0, .int R[i].2), s6, none] ∧ BelOk n os (i * 100 + k) bs) ⟨bs, s6, rfl, by simpa using hb⟩ (fun k d e hd ⟨bs, s6, he, hb⟩ => ?_) (fun e ⟨bs, s6, he, hb⟩ => ?_)
      · subst he
        have hkl : k < R[i].1.length := by
          have := (List.getElem?_eq_some_iff.mp hd).1
          rwa [List.length_map] at this
        obtain ⟨o, ho, rfl⟩ := List.mem_map.mp (List.mem_of_getElem? hd)
        refine ⟨_, rfl, ?_⟩
        dsimp only [List.set]
        have same : ∀ (s6 : Option Vl), s6 = some (0, .int o) → ∃ (bs' : List D) (s6 : Option Vl), ([some (0, chD nd R), some (2, .lst bs), some (0, .int i), some (0, ordD R[i].1), some (0, ordD [R[i].2]), some (0, .int R[i].2), some (0, .int o), none] : Mini.Env) = [some (0, chD nd R), some (2, .lst bs'), some (0, .int i), some (0, ordD R[i].1), some (0, ordD [R[i].2]), some (0, .int R[i].2), s6, none] ∧ BelOk n os (i * 100 + (k + 1)) bs' := fun s6 hs => ⟨bs, some (0, .int o), rfl, hb.mono (by omega)⟩
        refine st_if (tr_tAnd (tr_tB ?_))
        walk_at "st"
        refine ⟨fun hx => ?_, fun _ => ⟨(fun z => nomatch z), fun _ => st_next (same _ rfl)⟩⟩
        have hne : o ≠ R[i].2 := by simpa using hx
        obtain ⟨b, hbin⟩ := bel_in hb c0 c1 o (k := 2)
        refine tr_tB (tr_in2 hbin (ex_bl rfl ⟨fun _ => ?_, fun _ => st_next (same _ rfl)⟩))
        have hlt : os.idxOf R[i].2 < os.idxOf o := by
          rw [hfirst]
          refine firstI_lt (hg.per.mem_iff.mpr (mem_rangeI.mpr (hlot.2.2 o ho))) ho ?_
          rw [← hfirst]
          exact hne
        obtain ⟨bs', hput, hb'⟩ := bel_put hb (y := .int i) c0 c1 (by omega) hlt rfl rfl
        refine st_put2 ?_
        walk_at "st"
        exact ⟨bs', hput, bs', some (0, .int o), rfl, hb'⟩
      · subst he
        rw [List.length_map] at hb
        exact ⟨bs, _, _, rfl, hb.mono (by omega)⟩
    · subst he
      exact ⟨bs, _, _, _, _, _, rfl, hb.mono (by simp; omega)⟩
  · subst he
    have hrl : (rangeL 0 (R.length : Int)).length = R.length := by simp [rangeL]
    rw [hrl] at hb
    walk_at "st"
    exact ⟨_, rfl, rfl, bs, rfl, hb.mono (by omega)⟩
end Law

set_option Elab.async false
set_option linter.all false
set_option maxRecDepth 100000
set_option maxHeartbeats 4000000
namespace Law
open PySem Mini
local macro_rules | `(tactic| walk_at "st") => `(tactic| repeat (first
  | with_reducible refine st_seq ?_
  | with_reducible refine st_set ?_
  | with_reducible refine st_ret ?_
  | with_reducible refine st_expr ?_
  | with_reducible refine st_asg ?_
  | with_reducible refine st_for ?_
  | with_reducible refine st_next ?_
  | with_reducible refine st_par2 ?_
  | with_reducible refine st_par3 ?_
  | with_reducible refine st_if ?_
  | with_reducible refine tr_oV ?_
  | with_reducible refine tr_resV ?_
  | with_reducible refine tr_vC ?_
  | with_reducible refine tr_op1 ?_
  | with_reducible refine tr_op2 ?_
  | with_reducible refine tr_opN ?_
  | with_reducible refine tr_nil ?_
  | with_reducible refine tr_cons ?_
  | with_reducible refine tr_rnil ?_
  | with_reducible refine tr_rcons ?_
  | with_reducible refine tr_tB ?_
  | with_reducible refine tr_tAnd ?_
  | with_reducible refine tr_tOr ?_
  | with_reducible refine tr_tNot ?_
  | with_reducible refine tr_vBool ?_
  | with_reducible refine tr_vIf ?_
  | with_reducible refine tr_vAnd ?_
  | with_reducible refine tr_vOr ?_
  | with_reducible refine tr_vIsI ?_
  | with_reducible refine tr_range1 ?_
  | with_reducible refine tr_range2 ?_
  | with_reducible refine tr_vRgT ?_
  | with_reducible refine tr_vRgL ?_
  | with_reducible refine tr_call0 ?_
  | with_reducible refine tr_call1 ?_
  | with_reducible refine tr_vNew ?_
  | ((with_reducible apply tr_vApp); · rfl)
  | with_reducible refine tr_vTup ?_
  | with_reducible refine tr_vLst ?_
  | with_reducible refine tr_cutNS ?_
  | with_reducible refine tr_cutSN ?_
  | with_reducible refine ex_itL ?_
  | with_reducible refine ex_itT ?_
  | with_reducible refine tr_itV ?_
  | ((with_reducible apply tr_vVar0); · rfl)
  | ((with_reducible apply tr_vVar); · rfl)
  | ((with_reducible apply tr_oVar); · rfl)
  | ((with_reducible apply tr_resB0); · rfl)
  | ((with_reducible apply tr_resB1); · rfl)
  | ((with_reducible apply tr_resB); · rfl)
  | ((with_reducible apply ex_some); · with_reducible exact feq_int _ _)
  | ((with_reducible apply ex_some); · with_reducible exact fne_int _ _)
  | ((with_reducible apply ex_some); · with_reducible exact in_tup _ _)
  | ((with_reducible apply ex_some); · with_reducible exact in_lst _ _)
  | ((with_reducible apply ex_some); · with_reducible exact nin_tup _ _)
  | ((with_reducible apply ex_some); · with_reducible exact nin_lst _ _)
  | ((with_reducible apply ex_some); · rfl)
  | ((with_reducible apply ex_bl); · rfl)
  | ((with_reducible apply ex_int); · rfl)
  | refine ⟨in_len rfl, ?_⟩
  | refine ⟨fit_l rfl, ?_⟩
  | refine ex_call1 rfl rfl ?_))
theorem ch_many {nd : List D} {R : List (List Int × Int)} {n : Nat} (hn : nd.length = n) {e : Mini.Env} {i : Nat} (g : getS e i = some (0, chD nd R)) : op1 (fAttr "many") (oVar i) e = .ok (0, .int n) e := tr_eq (tr_op1 (tr_oVar g (tr_resB0 g (ex_some (show _ = some ((0 : Nat), D.int nd.length) from rfl) ⟨by rw [hn], rfl⟩))))
theorem ch_size {nd : List D} {R : List (List Int × Int)} {e : Mini.Env} {i : Nat} (g : getS e i = some (0, chD nd R)) : op1 (fAttr "size") (oVar i) e = .ok (0, .int R.length) e := tr_eq (tr_op1 (tr_oVar g (tr_resB0 g (ex_some (show _ = some ((0 : Nat), D.int R.length) from rfl) ⟨rfl, rfl⟩))))
theorem ch_rows {nd : List D} {R : List (List Int × Int)} {e : Mini.Env} {i : Nat} (g : getS e i = some (0, chD nd R)) : op1 (fAttr "rows") (oVar i) e = .ok (0, .tup (R.map rowD)) e := tr_eq (tr_op1 (tr_oVar g (tr_resB0 g (ex_some (show _ = some ((0 : Nat), D.tup (R.map rowD)) from rfl) ⟨rfl, rfl⟩))))
theorem any_map (f : D → Bool) (ds : List D) : fAny [.lst (ds.map fun d => .bl (f d))] = some (0, .bl (ds.any f)) := by
  unfold fAny
  dsimp only
  rw [bls_map]
  simp
theorem mkLst_map (f : D → D) (ds : List D) : ∃ k, mkLst (ds.map fun d => ((0 : Nat), f d)) = (k, .lst (ds.map f)) := by
  refine ⟨(mkLst (ds.map fun d => ((0 : Nat), f d))).1, ?_⟩
  unfold mkLst
  rw [List.map_map]
  rfl
def hasK (bs : List D) (x t : Int) : Bool := match bs[x.toNat]? with
  | some (.box (.dK ks) es) => (findK ks es (.inl t)).isSome
  | _ => false
theorem findK_mem : ∀ {ks : List Key} {es : List D} {k : Key} {d : D}, findK ks es k = some d → k ∈ ks
  | [], es, k, d, h => by cases es <;> cases h
  | q :: ks, [], k, d, h => by cases h
  | q :: ks, e :: es, k, d, h => by
    unfold findK at h
    split at h
    · rename_i hq
      exact hq ▸ List.mem_cons_self
    · exact List.mem_cons_of_mem _ (findK_mem h)
theorem hasK_lt {n m : Nat} {os : List Int} {bs : List D} (h : BelOk n os m bs) {x t : Int} (x0 : 0 ≤ x) (xn : x < n) (hk : hasK bs x t = true) : os.idxOf x < os.idxOf t := by
  obtain ⟨ks, es, h1, h2, h3, h4⟩ := h.2 x.toNat (by omega)
  unfold hasK at hk
  rw [h1] at hk
  obtain ⟨d, hd⟩ := Option.isSome_iff_exists.mp hk
  have := h4 t (findK_mem hd)
  rwa [Int.toNat_of_nonneg x0] at this
theorem has_ok {n m : Nat} {os : List Int} {bs : List D} (h : BelOk n os m bs) {x : Int} (x0 : 0 ≤ x) (xn : x < n) (t : Int) : ∃ d, fIxA (.lst bs) (.int x) = some (0, d) ∧ fInA (.int t) d = some (0, .bl (hasK bs x t)) := by
  obtain ⟨ks, es, h1, _⟩ := h.2 x.toNat (by omega)
  refine ⟨.dK ks es, ?_, ?_⟩
  · show (ixD bs x).map _ = _
    unfold ixD
    rw [if_pos x0, h1]
    rfl
  · unfold hasK
    rw [h1]
    rfl
theorem nodup_len : ∀ {l m : List Int}, l.Nodup → (∀ x ∈ l, x ∈ m) → l.length ≤ m.length
  | [], _, _, _ => Nat.zero_le _
  | a :: l, m, h, hm => by
    have ha := hm a List.mem_cons_self
    have := nodup_len (l := l) (m := m.erase a) h.of_cons fun x hx => by
      have hne : x ≠ a := fun z => (List.nodup_cons.mp h).1 (z ▸ hx)
      exact (List.mem_erase_of_ne hne).mpr (hm x (List.mem_cons_of_mem _ hx))
    rw [List.length_erase_of_mem ha] at this
    have hpos := List.length_pos_of_mem ha
    rw [List.length_cons]
    omega
def readyI (n : Nat) (bs : List D) (fs : List Int) : Int → Bool := fun t => !decide (t ∈ fs) && !(((rangeI n).filter fun x => !decide (x ∈ fs)).any fun x => hasK bs x t)
theorem ready_some {n m : Nat} {os fs : List Int} {bs : List D} (hp : os.Perm (rangeI n)) (h : BelOk n os m bs) (hl : fs.length < n) : ∃ t l, (rangeI n).filter (readyI n bs fs) = t :: l := by
  have hos : os.Nodup := hp.nodup_iff.mpr (rangeI_nodup n)
  have hrest : ∃ x ∈ os, x ∈ (os.filter fun x => !decide (x ∈ fs)) := by
    refine Classical.byContradiction fun hno => ?_
    have : ∀ x ∈ os, x ∈ fs := fun x hx => by
      refine Classical.byContradiction fun hn => hno ⟨x, hx, List.mem_filter.mpr ⟨hx, by simpa using hn⟩⟩
    have := nodup_len hos this
    rw [hp.length_eq, len_rangeI] at this
    omega
  obtain ⟨h1, h2⟩ := firstI_mem hrest
  have hin : firstI os (os.filter fun x => !decide (x ∈ fs)) ∈ (rangeI n).filter (readyI n bs fs) := by
    refine List.mem_filter.mpr ⟨hp.mem_iff.mp h1, ?_⟩
    unfold readyI
    rw [Bool.and_eq_true]
    refine ⟨(List.mem_filter.mp h2).2, ?_⟩
    rw [Bool.not_eq_true', List.any_eq_false]
    intro x hx hk
    obtain ⟨hx1, hx2⟩ := List.mem_filter.mp hx
    obtain ⟨x0, x1⟩ := mem_rangeI.mp hx1
    have hlt := hasK_lt h x0 x1 hk
    have hxos := hp.mem_iff.mpr hx1
    by_cases he : x = firstI os (os.filter fun x => !decide (x ∈ fs))
    · rw [← he] at hlt
      omega
    · have := firstI_lt hxos (List.mem_filter.mpr ⟨hxos, hx2⟩) he
      omega
  cases q : (rangeI n).filter (readyI n bs fs) with
  | nil => rw [q] at hin; cases hin
  | cons t l => exact ⟨t, l, rfl⟩
theorem least_order_ok {n : Nat} {os : List Int} {R : List (List Int × Int)} {nd : List D} (hn : nd.length = n) (n0 : 0 < n) (n1 : n ≤ 100) (hg : Good n os R) (hR : R.length ≤ 100) :
    FT s_least_order [(0, chD nd R)] fun v mu => mu = none ∧ ∃ ds, v = (0, .tup ds) := by
  unfold s_least_order
  refine ft_st0 rfl ?_
  rw [show startE 6 [(0, chD nd R)] = [some (0, chD nd R), none, none, none, none, none] from rfl]
  walk_at "st"
  refine (told_pairs_ok hn n0 n1 hg hR).imp fun v mu ⟨hm, bs, hv, hb⟩ => ?_
  subst hm hv
  refine ⟨in_len rfl, ?_⟩
  dsimp only [List.set]
  refine st_seq (st_set ?_)
  walk_at "st"
  dsimp only [List.set]
  refine st_while (fun k e => ∃ (fs : List Int) (s3 : Option Vl), e = [some (0, chD nd R), some (0, .lst bs), some (1, .lst (fs.map D.int)), s3, none, none] ∧ fs.length + k = n) (fun k e ⟨fs, s3, he, hk⟩ => ?_) 200 n (by omega) ⟨[], none, rfl, by simp⟩
  subst he
  refine tr_tB (tr_op2 (tr_oV ?_))
  walk_at "st"
  rw [List.length_map, hn]
  refine ⟨fun hx => ?_, fun hx => ?_⟩
  · have hlt : fs.length < n := by
      have : (fs.length : Int) < n := by simpa using hx
      omega
    refine ⟨k - 1, by omega, ?_⟩
    let e0 : Mini.Env := [some (0, chD nd R), some (0, .lst bs), some (1, .lst (fs.map D.int)), s3, none, none]
    have hit : itRange1 (oV (op1 (fAttr "many") (oVar 0))) e0 = .ok (rangeL 0 n) e0 := tr_eq (tr_range1 (tr_oV (tr_of (ch_many hn rfl) (tr_resV (ex_int rfl ⟨⟨by omega, by omega⟩, rfl, rfl⟩)))))
    have hc := comp_ok (own := [4]) (g := gVar 4) (t := tAnd (tB (op2 fNotInA (oVar 4) (oVar 2))) (tNot (tB (opN fAny [oV (vComp [5] (itRange1 (oV (op1 (fAttr "many") (oVar 0)))) (gVar 5) (tB (op2 fNotInA (oVar 5) (oVar 2))) (op2 fInA (oVar 4) (oV (op2 fIxA (oVar 1) (oVar 5)))))])))) (elt := vVar 4) (onI (readyI n bs fs)) (fun d => (0, d)) hit rfl fun d hd => by
      obtain ⟨t, rfl, t0, t1⟩ := mem_rangeL.mp hd
      let e1 : Mini.Env := [some (0, chD nd R), some (0, .lst bs), some (1, .lst (fs.map D.int)), s3, some (0, .int t), none]
      have hit1 : itRange1 (oV (op1 (fAttr "many") (oVar 0))) e1 = .ok (rangeL 0 n) e1 := tr_eq (tr_range1 (tr_oV (tr_of (ch_many hn rfl) (tr_resV (ex_int rfl ⟨⟨by omega, by omega⟩, rfl, rfl⟩)))))
      have hc1 := comp_ok (own := [5]) (g := gVar 5) (t := tB (op2 fNotInA (oVar 5) (oVar 2))) (elt := op2 fInA (oVar 4) (oV (op2 fIxA (oVar 1) (oVar 5)))) (onI fun x => !decide (x ∈ fs)) (fun d => (0, .bl (onI (fun x => hasK bs x t) d))) hit1 rfl fun d hd => by
        obtain ⟨x, rfl, x0, x1⟩ := mem_rangeL.mp hd
        obtain ⟨dd, k1, k2⟩ := has_ok hb x0 x1 t
        refine ⟨_, [some (0, chD nd R), some (0, .lst bs), some (1, .lst (fs.map D.int)), s3, some (0, .int t), some (0, .int x)], rfl, tB_ok (n := 0) (op2_ok (x := .bor 5) (y := .bor 2) rfl rfl rfl rfl (nin_lst x fs)), fun _ => ⟨[some (0, chD nd R), some (0, .lst bs), some (1, .lst (fs.map D.int)), s3, some (0, .int t), some (0, .int x)], ?_, rfl⟩, fun _ => rfl⟩
        exact op2_ok (x := .bor 4) (y := .val dd) rfl (oV_ok (op2_ok (x := .bor 1) (y := .bor 5) rfl rfl rfl rfl k1)) rfl rfl k2
      rw [rangeL_eq, filter_ints] at hc1
      have hany : ∃ k, vComp [5] (itRange1 (oV (op1 (fAttr "many") (oVar 0)))) (gVar 5) (tB (op2 fNotInA (oVar 5) (oVar 2))) (op2 fInA (oVar 4) (oV (op2 fIxA (oVar 1) (oVar 5)))) e1 = .ok (k, .lst ((((rangeI n).filter fun x => !decide (x ∈ fs)).map D.int).map fun d => .bl (onI (fun x => hasK bs x t) d))) e1 := by
        obtain ⟨k, hk⟩ := mkLst_map (fun d => .bl (onI (fun x => hasK bs x t) d)) (((rangeI n).filter fun x => !decide (x ∈ fs)).map D.int)
        rw [hk] at hc1
        exact ⟨_, hc1⟩
      obtain ⟨k3, hc2⟩ := hany
      have hfa := opN1_ok (oV_ok hc2) rfl (any_map _ (((rangeI n).filter fun x => !decide (x ∈ fs)).map D.int))
      rw [List.any_map] at hfa
      have h1 : tB (op2 fNotInA (oVar 4) (oVar 2)) e1 = .ok (!decide (t ∈ fs)) e1 := tB_ok (n := 0) (op2_ok (x := .bor 4) (y := .bor 2) rfl rfl rfl rfl (nin_lst t fs))
      exact ⟨_, e1, rfl, tAnd_b h1 fun _ => tNot_ok (tB_ok hfa), fun _ => ⟨e1, rfl, rfl⟩, fun _ => rfl⟩
    rw [rangeL_eq, filter_ints] at hc
    obtain ⟨t, l, hready⟩ := ready_some (fs := fs) hg.per hb hlt
    rw [hready] at hc
    obtain ⟨k2, hk2⟩ := mkLst_id ((t :: l).map D.int)
    rw [hk2] at hc
    refine st_seq (st_set (tr_of hc ⟨in_len rfl, ?_⟩))
    dsimp only [e0, List.set]
    refine st_seq (st_if ?_)
    walk_at "st"
    have hnz : ((((t :: l).map D.int).length : Int) == 0) = false := by
      rw [beq_eq_false_iff_ne, List.length_map, List.length_cons]
      omega
    rw [hnz]
    refine ⟨(fun z => nomatch z), fun _ => st_next ?_⟩
    dsimp only [List.set]
    refine st_expr ?_
    walk_at "st"
    refine ⟨_, _, _, rfl, rfl, by rw [List.length_map]; omega, fs ++ [t], some (min (min (k2 + 1) 1) 1, .lst ((t :: l).map D.int)), ?_, by rw [List.length_append, List.length_singleton]; omega⟩
    rw [List.map_append]
    rfl
  · walk_at "st"
    exact ⟨_, rfl, rfl, _, rfl⟩
theorem is_single_ok {R : List (List Int × Int)} {nd : List D} : s_is_single [(0, chD nd R)] = .ok (0, .bl true) none := by
  unfold s_is_single
  obtain ⟨k, c⟩ : ∃ k, vComp [1, 2] (itV (op1 (fAttr "rows") (oVar 0))) (gTupD [gVar 1, gVar 2]) (Mini.ret true) (op2 fEq (oV (opN fLen [oVar 2])) (oV (vC (.int 1)))) [some (0, chD nd R), none, none] = .ok (k + 1, .lst ((R.map rowD).map fun _ => .bl true)) [some (0, chD nd R), none, none] := by
    refine comp_map2 (fun _ => .bl true) (ds := R.map rowD) rfl rfl fun d hd => ?_
    obtain ⟨r, _, rfl⟩ := List.mem_map.mp hd
    exact ⟨_, rfl, rfl, rfl⟩
  have h := opN1_ok (f := fAll) (oV_ok c) rfl (all_map (fun _ => true) 0 (R.map rowD))
  have : ((R.map rowD).all fun _ => true) = true := List.all_eq_true.mpr fun _ _ => rfl
  rw [this] at h
  exact mk_rt (ret_ok h) rfl
theorem thing_told_ok {n : Nat} {R : List (List Int × Int)} {nd : List D} (hn : nd.length = n) {t : Int} (t0 : 0 ≤ t) (t1 : t < n) : s_thing_told [(0, chD nd R), (0, .int t)] = .ok (0, .int t) none := by
  unfold s_thing_told
  refine ft_eq (ft_st0 rfl ?_)
  rw [show startE 2 [(0, chD nd R), (0, D.int t)] = [some (0, chD nd R), some (0, .int t)] from rfl]
  refine st_seq (st_if (tr_tNot (tr_tB (tr_call0 (tr_cons (tr_oV (tr_of (ch_many hn rfl) ?_)))))))
  walk_at "st"
  refine ft_of (is_index_ok (d := .int t) rfl) ?_
  have hix : ixB (n : Int) (.int t) = true := by
    show (decide (0 ≤ t) && decide (t < (n : Int))) = true
    simp [t0, t1]
  rw [hix]
  refine ex_bl rfl ⟨(fun z => nomatch z), fun _ => st_next ?_⟩
  walk_at "st"
  exact ⟨_, rfl, rfl, rfl⟩
theorem two_things_ok {n : Nat} {os : List Int} {R : List (List Int × Int)} {nd : List D} (hn : nd.length = n) (n0 : 0 < n) (n1 : n ≤ 100) (hg : Good n os R) (hR : R.length ≤ 100) {i j : Int} (i0 : 0 ≤ i) (i1 : i < n) (j0 : 0 ≤ j) (j1 : j < n) :
    s_two_things [(0, chD nd R), (0, .int i), (0, .int j)] = .ok (0, .non) none := by
  have hs : s_single_looked [(0, chD nd R)] = .ok (0, .non) none := by
    unfold s_single_looked
    refine ft_eq (ft_st0 rfl ?_)
    rw [show startE 1 [(0, chD nd R)] = [some (0, chD nd R)] from rfl]
    walk_at "st"
    refine ft_of is_single_ok ?_
    exact ex_bl rfl ⟨(fun z => nomatch z), fun _ => st_next ⟨rfl, rfl⟩⟩
  have ha : s_agreeing_looked [(0, chD nd R)] = .ok (0, .non) none := by
    unfold s_agreeing_looked
    refine ft_eq (ft_st0 rfl ?_)
    rw [show startE 1 [(0, chD nd R)] = [some (0, chD nd R)] from rfl]
    walk_at "st"
    refine ft_of hs ?_
    walk_at "st"
    refine (least_order_ok hn n0 n1 hg hR).imp fun v mu ⟨hm, ds, hv⟩ => ?_
    subst hm hv
    walk_at "st"
    exact ⟨(fun z => nomatch z), fun _ => st_next ⟨rfl, rfl⟩⟩
  unfold s_two_things
  refine ft_eq (ft_st0 rfl ?_)
  rw [show startE 3 [(0, chD nd R), (0, D.int i), (0, D.int j)] = [some (0, chD nd R), some (0, .int i), some (0, .int j)] from rfl]
  walk_at "st"
  refine ft_of ha ?_
  walk_at "st"
  refine ft_of (thing_told_ok hn i0 i1) ?_
  walk_at "st"
  refine ft_of (thing_told_ok hn j0 j1) ⟨rfl, rfl⟩
end Law

set_option Elab.async false
set_option linter.all false
set_option maxRecDepth 100000
set_option maxHeartbeats 4000000
namespace Law
open PySem Mini
local macro_rules | `(tactic| walk_at "st") => `(tactic| repeat (first
  | with_reducible refine st_seq ?_
  | with_reducible refine st_set ?_
  | with_reducible refine st_ret ?_
  | with_reducible refine st_expr ?_
  | with_reducible refine st_asg ?_
  | with_reducible refine st_for ?_
  | with_reducible refine st_next ?_
  | with_reducible refine st_par2 ?_
  | with_reducible refine st_par3 ?_
  | with_reducible refine st_if ?_
  | with_reducible refine tr_oV ?_
  | with_reducible refine tr_resV ?_
  | with_reducible refine tr_vC ?_
  | with_reducible refine tr_op1 ?_
  | with_reducible refine tr_op2 ?_
  | with_reducible refine tr_opN ?_
  | with_reducible refine tr_nil ?_
  | with_reducible refine tr_cons ?_
  | with_reducible refine tr_rnil ?_
  | with_reducible refine tr_rcons ?_
  | with_reducible refine tr_tB ?_
  | with_reducible refine tr_tAnd ?_
  | with_reducible refine tr_tOr ?_
  | with_reducible refine tr_tNot ?_
  | with_reducible refine tr_vBool ?_
  | with_reducible refine tr_vIf ?_
  | with_reducible refine tr_vAnd ?_
  | with_reducible refine tr_vOr ?_
  | with_reducible refine tr_vIsI ?_
  | with_reducible refine tr_range1 ?_
  | with_reducible refine tr_range2 ?_
  | with_reducible refine tr_vRgT ?_
  | with_reducible refine tr_vRgL ?_
  | with_reducible refine tr_call0 ?_
  | with_reducible refine tr_call1 ?_
  | with_reducible refine tr_vNew ?_
  | ((with_reducible apply tr_vApp); · rfl)
  | with_reducible refine tr_vTup ?_
  | with_reducible refine tr_vLst ?_
  | with_reducible refine tr_cutNS ?_
  | with_reducible refine tr_cutSN ?_
  | with_reducible refine ex_itL ?_
  | with_reducible refine ex_itT ?_
  | with_reducible refine tr_itV ?_
  | ((with_reducible apply tr_vVar0); · rfl)
  | ((with_reducible apply tr_vVar); · rfl)
  | ((with_reducible apply tr_oVar); · rfl)
  | ((with_reducible apply tr_resB0); · rfl)
  | ((with_reducible apply tr_resB1); · rfl)
  | ((with_reducible apply tr_resB); · rfl)
  | ((with_reducible apply ex_some); · with_reducible exact feq_int _ _)
  | ((with_reducible apply ex_some); · with_reducible exact fne_int _ _)
  | ((with_reducible apply ex_some); · with_reducible exact in_tup _ _)
  | ((with_reducible apply ex_some); · with_reducible exact in_lst _ _)
  | ((with_reducible apply ex_some); · with_reducible exact nin_tup _ _)
  | ((with_reducible apply ex_some); · with_reducible exact nin_lst _ _)
  | ((with_reducible apply ex_some); · rfl)
  | ((with_reducible apply ex_bl); · rfl)
  | ((with_reducible apply ex_int); · rfl)
  | refine ⟨in_len rfl, ?_⟩
  | refine ⟨fit_l rfl, ?_⟩
  | refine ex_call1 rfl rfl ?_))
theorem ix_tI {ns : List Int} {i : Int} (h0 : 0 ≤ i) (h1 : i < ns.length) : fIxA (.tup (ns.map D.int)) (.int i) = some (0, .int (gI ns i)) := ix_tup h0 h1
def rowAt (R : List (List Int × Int)) (r : Int) : List Int × Int := R.getD r.toNat ([], 0)
theorem ix_row {R : List (List Int × Int)} {r : Int} (h0 : 0 ≤ r) (h1 : r < R.length) : fIxA (.tup (R.map rowD)) (.int r) = some (0, rowD (rowAt R r)) := by
  have hl : r.toNat < R.length := by omega
  simp [fIxA, fIx, ixD, h0, rowAt, List.getElem?_eq_getElem hl, List.getD_eq_getElem?_getD]
theorem ix_last {ns : List Int} (h : 0 < ns.length) : fIxA (.tup (ns.map D.int)) (.int (-1)) = some (0, .int (gI ns (ns.length - 1))) := by
  show (ixD (ns.map D.int) (-1)).map _ = _
  unfold ixD
  rw [if_neg (by omega), if_pos (by rw [List.length_map]; omega), List.length_map]
  have h1 : (-1 + (ns.length : Int)).toNat = ns.length - 1 := by omega
  have h2 : ((ns.length : Int) - 1).toNat = ns.length - 1 := by omega
  rw [h1, List.getElem?_map, List.getElem?_eq_getElem (by omega)]
  unfold gI
  rw [h2, List.getD_eq_getElem?_getD, List.getElem?_eq_getElem (by omega)]
  rfl
def pairD (p : List Int × Int) : D := .tup [ordD p.1, .int p.2]
theorem ix_pair {Q : List (List Int × Int)} {r : Int} (h0 : 0 ≤ r) (h1 : r < Q.length) : fIxA (.lst (Q.map pairD)) (.int r) = some (0, pairD (rowAt Q r)) := by
  have hl : r.toNat < Q.length := by omega
  simp [fIxA, fIx, ixD, h0, rowAt, List.getElem?_eq_getElem hl, List.getD_eq_getElem?_getD]
theorem ix_pairL {Q : List (List Int × Int)} (h : 0 < Q.length) : fIxA (.lst (Q.map pairD)) (.int (-1)) = some (0, pairD (rowAt Q (Q.length - 1))) := by
  show (ixD (Q.map pairD) (-1)).map _ = _
  unfold ixD
  rw [if_neg (by omega), if_pos (by rw [List.length_map]; omega), List.length_map]
  have h1 : (-1 + (Q.length : Int)).toNat = Q.length - 1 := by omega
  have h2 : ((Q.length : Int) - 1).toNat = Q.length - 1 := by omega
  rw [h1, List.getElem?_map, List.getElem?_eq_getElem (by omega)]
  unfold rowAt
  rw [h2, List.getD_eq_getElem?_getD, List.getElem?_eq_getElem (by omega)]
  rfl
/-- the steps' own truth -/
def upC (i j : Int) (Q : List (List Int × Int)) : Bool := ((rowAt Q 0).2 == i) && (decide (j ∈ (rowAt Q (Q.length - 1)).1) && (!((rowAt Q (Q.length - 1)).2 == j) && (rangeL 0 (Q.length - 1)).all (onI fun a => decide ((rowAt Q (a + 1)).2 ∈ (rowAt Q a).1))))
def upI (R : List (List Int × Int)) (i j : Int) (ns : List Int) : Bool := upC i j (ns.map (rowAt R))
def upR (R : List (List Int × Int)) (i j : Int) : D → Bool
  | .box .tup ds => !ds.isEmpty && (ds.all (ixB R.length) && match intsOf ds with
    | some ns => upI R i j ns
    | none => false)
  | _ => false
theorem rowAt_map {R : List (List Int × Int)} {ns : List Int} {a : Int} (h0 : 0 ≤ a) (h1 : a < ns.length) : rowAt (ns.map (rowAt R)) a = rowAt R (gI ns a) := by
  have hl : a.toNat < ns.length := by omega
  unfold gI
  rw [List.getD_eq_getElem?_getD, List.getElem?_eq_getElem hl]
  show (List.map (rowAt R) ns).getD a.toNat ([], 0) = _
  rw [List.getD_eq_getElem?_getD, List.getElem?_map, List.getElem?_eq_getElem hl]
  rfl
/-- a number, None, a truth -/
def smallD : D → Bool
  | .int _ => true
  | .non => true
  | .bl _ => true
  | _ => false
theorem small_plain {d : D} (h : smallD d = true) : plainD d = true := by
  cases d with
  | int _ => rfl
  | non => rfl
  | bl _ => rfl
  | str _ => cases h
  | scr _ => cases h
  | box _ _ => cases h
theorem small_flat {d : D} (h : smallD d = true) : flatD d = true := by
  cases d with
  | int _ => rfl
  | non => rfl
  | bl _ => rfl
  | str _ => cases h
  | scr _ => cases h
  | box _ _ => cases h
theorem small_ps : ∀ {ds : List D}, (∀ d ∈ ds, smallD d = true) → ∃ ps, toPs ds = some ps ∧ ps.length = ds.length ∧ PyData.canLayAll0 ps = true ∧ PyData.depthAll ps ≤ 1
  | [], _ => ⟨[], rfl, rfl, by simp [PyData.canLayAll0], by simp [PyData.depthAll]⟩
  | d :: ds, h => by
    obtain ⟨ps, h1, h2, h3, h4⟩ := small_ps fun x hx => h x (List.mem_cons_of_mem _ hx)
    have hd := h d List.mem_cons_self
    have key : ∀ p, toP d = some p → p.canLay0 = true → p.depth ≤ 1 → ∃ ps, toPs (d :: ds) = some ps ∧ ps.length = (d :: ds).length ∧ PyData.canLayAll0 ps = true ∧ PyData.depthAll ps ≤ 1 := fun p k1 k2 k3 => by
      refine ⟨p :: ps, ?_, by rw [List.length_cons, List.length_cons, h2], by simp [PyData.canLayAll0, k2, h3], ?_⟩
      · show ((toP d).bind fun p => (toPs ds).map (p :: ·)) = _
        rw [k1, h1]
        rfl
      · simp only [PyData.depthAll]
        omega
    cases d with
    | int i => exact key (.int i) rfl (by simp [PyData.canLay0]) (by simp [PyData.depth])
    | non => exact key .none rfl (by simp [PyData.canLay0]) (by simp [PyData.depth])
    | bl b => exact key (.bool b) rfl (by simp [PyData.canLay0]) (by simp [PyData.depth])
    | str _ => cases hd
    | scr _ => cases hd
    | box _ _ => cases hd
theorem feq_empty {ds : List D} (h : ∀ d ∈ ds, smallD d = true) : fEq (.tup ds) (.tup []) = some (0, .bl ds.isEmpty) := by
  obtain ⟨ps, h1, h2, h3, h4⟩ := small_ps h
  have t1 : toP (.tup ds) = some (.tuple ps) := by
    show (toPs ds).map _ = _
    rw [h1]
    rfl
  have t2 : toP (.tup []) = some (.tuple []) := rfl
  unfold fEq eqD
  rw [t1, t2]
  have hs : SeqAt.shaped (.tuple ps) = true := by
    simp [SeqAt.shaped, PyData.canLay0, h3, PyData.depth]
    omega
  have hs2 : SeqAt.shaped (.tuple []) = true := by
    simp [SeqAt.shaped, PyData.canLay0, PyData.canLayAll0, PyData.depth, PyData.depthAll]
  show (if (SeqAt.shaped (.tuple ps) && SeqAt.shaped (.tuple [])) = true then some (PyData.eqv (.tuple ps) (.tuple [])) else none).map _ = _
  rw [hs, hs2]
  show some ((0 : Nat), D.bl (PyData.eqv (.tuple ps) (.tuple []))) = _
  cases ps with
  | nil =>
    have : ds = [] := List.length_eq_zero_iff.mp h2.symm
    subst this
    simp [PyData.eqv, PyData.eqvAll]
  | cons p ps =>
    cases ds with
    | nil => cases h2
    | cons d ds => simp [PyData.eqv, PyData.eqvAll]
theorem upR_no {R : List (List Int × Int)} {i j : Int} {v : D} (h : isTupD v = false) : upR R i j v = false := by
  cases v with
  | box hd ds => cases hd <;> first | rfl | exact absurd (show true = false from h) (fun z => nomatch z)
  | _ => rfl
theorem law_up_ok {R : List (List Int × Int)} (hR : R.length ≤ 100) {i j : Int} {v : D} (hv : plainD v = true) (hp : ∀ ds, v = .tup ds → (∀ d ∈ ds, smallD d = true) ∧ ds.length ≤ 100) :
    s_law_up_right [(0, .tup (R.map rowD)), (0, .int i), (0, .int j), (0, v)] = .ok (0, .bl (upR R i j v)) none := by
  unfold s_law_up_right
  refine ft_eq (ft_st0 rfl ?_)
  rw [show startE 5 [(0, D.tup (R.map rowD)), (0, D.int i), (0, D.int j), (0, v)] = [some (0, .tup (R.map rowD)), some (0, .int i), some (0, .int j), some (0, v), none] from rfl]
  refine st_seq (st_if (tr_tOr (tr_tNot (tr_tB (tr_vIsI ?_)))))
  walk_at "st"
  refine ⟨_, ty_tup hv, ?_⟩
  refine ex_bl rfl ?_
  cases ht : isTupD v with
  | false =>
    rw [upR_no ht]
    refine ⟨fun _ => ⟨fun _ => ?_, fun z => nomatch z⟩, fun z => nomatch z⟩
    walk_at "st"
    exact ⟨_, rfl, rfl, rfl⟩
  | true =>
    obtain ⟨ds, rfl⟩ := tup_of ht
    obtain ⟨hsm, hlen⟩ := hp ds rfl
    refine ⟨(fun z => nomatch z), fun _ => ?_⟩
    refine tr_tOr (tr_tB ?_)
    refine tr_op2 (tr_oVar rfl (tr_oV (tr_vTup (tr_nil ⟨_, rfl, fit_l rfl, tr_resB0 rfl (tr_resV (ex_some (feq_empty hsm) (ex_bl rfl ?_)))⟩))))
    cases he : ds.isEmpty with
    | true =>
      have hu : upR R i j (.tup ds) = false := by
        show (!ds.isEmpty && _) = false
        rw [he]; rfl
      rw [hu]
      refine ⟨fun _ => ⟨fun _ => ?_, fun z => nomatch z⟩, fun z => nomatch z⟩
      walk_at "st"
      exact ⟨_, rfl, rfl, rfl⟩
    | false =>
      refine ⟨(fun z => nomatch z), fun _ => ?_⟩
      let e0 : Mini.Env := [some (0, .tup (R.map rowD)), some (0, .int i), some (0, .int j), some (0, .tup ds), none]
      obtain ⟨k, c⟩ : ∃ k, vComp [4] (itV (vVar 3)) (gVar 4) (Mini.ret true) (vAnd (vCall0 s_law_is_int [oV (vVar 4)]) (vChain fLe fLt (oV (vC (.int 0))) (oVar 4) (oV (opN fLen [oVar 0])))) e0 = .ok (k + 1, .lst (ds.map fun d => .bl (ixB R.length d))) e0 := by
        refine comp_map2 (fun d => .bl (ixB R.length d)) (ds := ds) rfl rfl fun d hd => ⟨_, rfl, rfl, ?_⟩
        dsimp only [hide, List.set]
        have hi : vCall0 s_law_is_int [oV (vVar 4)] [some (0, .tup (R.map rowD)), some (0, .int i), some (0, .int j), some (0, .tup ds), some (0, d)] = .ok (0, .bl (isI d)) [some (0, .tup (R.map rowD)), some (0, .int i), some (0, .int j), some (0, .tup ds), some (0, d)] := by
          refine tr_eq ?_
          walk_at "st"
          exact ft_of (is_int_ok (small_plain (hsm d hd))) ⟨rfl, rfl⟩
        cases d with
        | int x =>
          refine (vAnd_tt hi).trans ?_
          show _ = Mini.Res.ok ((0 : Nat), D.bl (decide (0 ≤ x) && decide (x < (R.length : Int)))) _
          by_cases q : 0 ≤ x
          · simp [vChain, oV, vC, oVar, bnd, Mini.ret, opt, getS, opN, seqM, mapM', res, fLen, vInt, fLe, fLt, vBl, q] <;> rfl
          · simp [vChain, oV, vC, oVar, bnd, Mini.ret, opt, getS, opN, seqM, mapM', res, fLen, vInt, fLe, fLt, vBl, q] <;> rfl
        | _ => exact vAnd_ff hi
      have hall := opN1_ok (f := fAll) (oV_ok c) rfl (all_map (ixB R.length) 0 ds)
      refine tr_tNot (tr_tB (tr_of hall (ex_bl rfl ?_)))
      cases ha : ds.all (ixB R.length) with
      | false =>
        have hu : upR R i j (.tup ds) = false := by
          show (!ds.isEmpty && (ds.all (ixB R.length) && _)) = false
          rw [ha, Bool.false_and, Bool.and_false]
        rw [hu]
        refine ⟨fun _ => ?_, fun z => nomatch z⟩
        walk_at "st"
        exact ⟨_, rfl, rfl, rfl⟩
      | true =>
        refine ⟨(fun z => nomatch z), fun _ => st_next ?_⟩
        obtain ⟨ns, hin, hds⟩ := ints_isI (all_ix ha)
        subst hds
        have hr : ∀ x ∈ ns, 0 ≤ x ∧ x < (R.length : Int) := fun x hx => by
          have := List.all_eq_true.mp ha _ (List.mem_map.mpr ⟨x, hx, rfl⟩)
          have : (decide (0 ≤ x) && decide (x < (R.length : Int))) = true := this
          simpa using this
        have hu : upR R i j (.tup (ns.map D.int)) = upI R i j ns := by
          show (!(ns.map D.int).isEmpty && ((ns.map D.int).all (ixB R.length) && match intsOf (ns.map D.int) with
            | some ns => upI R i j ns
            | none => false)) = _
          rw [he, ha, ints_map]
          rfl
        rw [hu]
        have hpos : 0 < ns.length := by
          cases ns with
          | nil => cases he
          | cons _ _ => simp
        rw [List.length_map] at hlen
        have hg : ∀ a : Int, 0 ≤ a → a < ns.length → 0 ≤ gI ns a ∧ gI ns a < (R.length : Int) := fun a h0 h1 => hr _ (gI_mem h0 h1)
        have r0 := hg 0 (by omega) (by omega)
        have rl := hg (ns.length - 1) (by omega) (by omega)
        have p0 := rowAt_map (R := R) (ns := ns) (a := 0) (by omega) (by omega)
        have pl := rowAt_map (R := R) (ns := ns) (a := ns.length - 1) (by omega) (by omega)
        have hml : ((ns.map (rowAt R)).length : Int) = ns.length := by rw [List.length_map]
        unfold upI upC
        rw [hml, p0, pl]
        refine st_seq (st_if ?_)
        walk_at "st"
        refine ex_some (ix_tI (i := 0) (by omega) (by omega)) ?_
        walk_at "st"
        refine ex_some (ix_row r0.1 r0.2) ?_
        walk_at "st"
        cases q1 : ((rowAt R (gI ns 0)).2 == i) with
        | false =>
          refine ⟨fun _ => ⟨fun _ => ?_, fun z => nomatch z⟩, fun z => nomatch z⟩
          walk_at "st"
          exact ⟨_, rfl, rfl, rfl⟩
        | true =>
          refine ⟨(fun z => nomatch z), fun _ => ?_⟩
          refine tr_tOr (tr_tB ?_)
          walk_at "st"
          refine ex_some (ix_last hpos) ?_
          walk_at "st"
          refine ex_some (ix_row rl.1 rl.2) ?_
          walk_at "st"
          cases q2 : decide (j ∈ (rowAt R (gI ns (ns.length - 1))).1) with
          | false =>
            refine ⟨fun _ => ⟨fun _ => ?_, fun z => nomatch z⟩, fun z => nomatch z⟩
            walk_at "st"
            exact ⟨_, rfl, rfl, rfl⟩
          | true =>
            refine ⟨(fun z => nomatch z), fun _ => ?_⟩
            refine tr_tB ?_
            walk_at "st"
            refine ex_some (ix_last hpos) ?_
            walk_at "st"
            refine ex_some (ix_row rl.1 rl.2) ?_
            walk_at "st"
            cases q3 : ((rowAt R (gI ns (ns.length - 1))).2 == j) with
            | true =>
              refine ⟨fun _ => ?_, fun z => nomatch z⟩
              walk_at "st"
              exact ⟨_, rfl, rfl, rfl⟩
            | false =>
              refine ⟨(fun z => nomatch z), fun _ => st_next ?_⟩
              have hit : itRange1 (oV (op2 fSub (oV (opN fLen [oVar 3])) (oV (vC (.int 1))))) e0 = .ok (rangeL 0 (ns.length - 1)) e0 := by
                refine tr_eq (tr_range1 ?_)
                walk_at "st"
                rw [List.length_map]
                exact ⟨⟨by omega, by omega⟩, rfl, rfl⟩
              obtain ⟨k2, c2⟩ : ∃ k, vComp [4] (itRange1 (oV (op2 fSub (oV (opN fLen [oVar 3])) (oV (vC (.int 1)))))) (gVar 4) (Mini.ret true) (op2 fInA (oV (op2 fIxA (oV (op2 fIxA (oV (op2 fIxA (oVar 0) (oV (op2 fIxA (oVar 3) (oV (op2 fAdd (oVar 4) (oV (vC (.int 1))))))))) (oV (vC (.int 1))))) (oV (vC (.int 0))))) (oV (op2 fIxA (oV (op2 fIxA (oVar 0) (oV (op2 fIxA (oVar 3) (oVar 4))))) (oV (vC (.int 0)))))) e0 = .ok (k + 1, .lst ((rangeL 0 (ns.length - 1)).map fun d => .bl (onI (fun a => decide ((rowAt (ns.map (rowAt R)) (a + 1)).2 ∈ (rowAt (ns.map (rowAt R)) a).1)) d))) e0 := by
                refine comp_map2 _ hit rfl fun d hd => ?_
                obtain ⟨a, rfl, a0, a1⟩ := mem_rangeL.mp hd
                refine ⟨_, rfl, rfl, ?_⟩
                dsimp only [hide, List.set]
                have e1 := hg (a + 1) (by omega) (by omega)
                have e2 := hg a (by omega) (by omega)
                show _ = Mini.Res.ok ((0 : Nat), D.bl (decide ((rowAt (ns.map (rowAt R)) (a + 1)).2 ∈ (rowAt (ns.map (rowAt R)) a).1))) _
                rw [rowAt_map (R := R) (ns := ns) (a := a + 1) (by omega) (by omega), rowAt_map (R := R) (ns := ns) (a := a) a0 (by omega)]
                refine tr_eq ?_
                walk_at "st"
                refine ex_some (ix_tI (i := a + 1) (by omega) (by omega)) ?_
                walk_at "st"
                refine ex_some (ix_row e1.1 e1.2) ?_
                walk_at "st"
                refine ex_some (ix_tI (i := a) a0 (by omega)) ?_
                walk_at "st"
                refine ex_some (ix_row e2.1 e2.2) ?_
                walk_at "st"
                exact ⟨rfl, rfl⟩
              exact st_ret (tr_of (opN1_ok (f := fAll) (oV_ok c2) rfl (all_map _ 0 _)) ⟨_, rfl, rfl, rfl⟩)
end Law

set_option Elab.async false
set_option linter.all false
set_option maxRecDepth 100000
set_option maxHeartbeats 4000000
namespace Law
open PySem Mini
local macro_rules | `(tactic| walk_at "st") => `(tactic| repeat (first
  | with_reducible refine st_seq ?_
  | with_reducible refine st_set ?_
  | with_reducible refine st_ret ?_
  | with_reducible refine st_expr ?_
  | with_reducible refine st_asg ?_
  | with_reducible refine st_for ?_
  | with_reducible refine st_next ?_
  | with_reducible refine st_par2 ?_
  | with_reducible refine st_par3 ?_
  | with_reducible refine st_if ?_
  | with_reducible refine tr_oV ?_
  | with_reducible refine tr_resV ?_
  | with_reducible refine tr_vC ?_
  | with_reducible refine tr_op1 ?_
  | with_reducible refine tr_op2 ?_
  | with_reducible refine tr_opN ?_
  | with_reducible refine tr_nil ?_
  | with_reducible refine tr_cons ?_
  | with_reducible refine tr_rnil ?_
  | with_reducible refine tr_rcons ?_
  | with_reducible refine tr_tB ?_
  | with_reducible refine tr_tAnd ?_
  | with_reducible refine tr_tOr ?_
  | with_reducible refine tr_tNot ?_
  | with_reducible refine tr_vBool ?_
  | with_reducible refine tr_vIf ?_
  | with_reducible refine tr_vAnd ?_
  | with_reducible refine tr_vOr ?_
  | with_reducible refine tr_vIsI ?_
  | with_reducible refine tr_range1 ?_
  | with_reducible refine tr_range2 ?_
  | with_reducible refine tr_vRgT ?_
  | with_reducible refine tr_vRgL ?_
  | with_reducible refine tr_call0 ?_
  | with_reducible refine tr_call1 ?_
  | with_reducible refine tr_vNew ?_
  | ((with_reducible apply tr_vApp); · rfl)
  | with_reducible refine tr_vTup ?_
  | with_reducible refine tr_vLst ?_
  | with_reducible refine tr_cutNS ?_
  | with_reducible refine tr_cutSN ?_
  | with_reducible refine ex_itL ?_
  | with_reducible refine ex_itT ?_
  | with_reducible refine tr_itV ?_
  | ((with_reducible apply tr_vVar0); · rfl)
  | ((with_reducible apply tr_vVar); · rfl)
  | ((with_reducible apply tr_oVar); · rfl)
  | ((with_reducible apply tr_resB0); · rfl)
  | ((with_reducible apply tr_resB1); · rfl)
  | ((with_reducible apply tr_resB); · rfl)
  | ((with_reducible apply ex_some); · with_reducible exact feq_int _ _)
  | ((with_reducible apply ex_some); · with_reducible exact fne_int _ _)
  | ((with_reducible apply ex_some); · with_reducible exact in_tup _ _)
  | ((with_reducible apply ex_some); · with_reducible exact in_lst _ _)
  | ((with_reducible apply ex_some); · with_reducible exact nin_tup _ _)
  | ((with_reducible apply ex_some); · with_reducible exact nin_lst _ _)
  | ((with_reducible apply ex_some); · rfl)
  | ((with_reducible apply ex_bl); · rfl)
  | ((with_reducible apply ex_int); · rfl)
  | refine ⟨in_len rfl, ?_⟩
  | refine ⟨fit_l rfl, ?_⟩
  | refine ex_call1 rfl rfl ?_))
def upD (v : D) : D := .ins 2 ["rows"] [v]
def agD (v : D) : D := .ins 3 ["order"] [v]
theorem up_holds_ok {n : Nat} {os : List Int} {R : List (List Int × Int)} {nd : List D} (hn : nd.length = n) (n0 : 0 < n) (n1 : n ≤ 100) (hG : Good n os R) (hR : R.length ≤ 100) {i j : Int} (i0 : 0 ≤ i) (i1 : i < n) (j0 : 0 ≤ j) (j1 : j < n) {v : D} (hv : plainD v = true) (hp : ∀ ds, v = .tup ds → (∀ d ∈ ds, smallD d = true) ∧ ds.length ≤ 100) :
    s_upward_holds [(0, chD nd R), (0, .int i), (0, .int j), (0, upD v)] = .ok (0, .bl (upR R i j v)) none := by
  unfold s_upward_holds
  refine ft_eq (ft_st0 rfl ?_)
  let e0 : Mini.Env := [some (0, chD nd R), some (0, .int i), some (0, .int j), some (0, upD v), none, none, none]
  rw [show startE 7 [(0, chD nd R), (0, D.int i), (0, D.int j), (0, upD v)] = e0 from rfl]
  refine st_seq (st_expr (tr_call0 ?_))
  walk_at "st"
  refine ft_of (two_things_ok hn n0 n1 hG hR i0 i1 j0 j1) ?_
  have at1 : op1 (fAttr "rows") (oVar 3) e0 = .ok (0, v) e0 := rfl
  refine st_seq (st_if (tr_tOr (tr_tNot (tr_tB ?_))))
  walk_at "st"
  refine ⟨(fun z => nomatch z), fun _ => ?_⟩
  refine tr_tOr (tr_tNot (tr_tB (tr_vIsI (tr_oV (tr_of at1 (tr_resV ⟨_, ty_tup hv, ex_bl rfl ?_⟩))))))
  cases ht : isTupD v with
  | false =>
    rw [upR_no ht]
    refine ⟨fun _ => ⟨fun _ => ?_, fun z => nomatch z⟩, fun z => nomatch z⟩
    walk_at "st"
    exact ⟨_, rfl, rfl, rfl⟩
  | true =>
    obtain ⟨ds, rfl⟩ := tup_of ht
    obtain ⟨hsm, hlen⟩ := hp ds rfl
    refine ⟨(fun z => nomatch z), fun _ => ?_⟩
    refine tr_tB ?_
    walk_at "st"
    have hemp : ((ds.length : Int) == 0) = ds.isEmpty := by
      cases ds with
      | nil => rfl
      | cons d ds =>
        show ((((d :: ds).length : Nat) : Int) == 0) = false
        rw [beq_eq_false_iff_ne, List.length_cons]
        omega
    rw [hemp]
    cases he : ds.isEmpty with
    | true =>
      have hu : upR R i j (.tup ds) = false := by
        show (!ds.isEmpty && _) = false
        rw [he]; rfl
      rw [hu]
      refine ⟨fun _ => ?_, fun z => nomatch z⟩
      walk_at "st"
      exact ⟨_, rfl, rfl, rfl⟩
    | false =>
      refine ⟨(fun z => nomatch z), fun _ => st_next ?_⟩
      have hitr : itV (op1 (fAttr "rows") (oVar 3)) e0 = .ok ds e0 := rfl
      obtain ⟨k, c⟩ : ∃ k, vComp [5] (itV (op1 (fAttr "rows") (oVar 3))) (gVar 5) (Mini.ret true) (vCall0 s_is_index [oV (op1 (fAttr "size") (oVar 0)), oV (vVar 5)]) e0 = .ok (k + 1, .lst (ds.map fun d => .bl (ixB R.length d))) e0 := by
        refine comp_map2 (fun d => .bl (ixB R.length d)) (ds := ds) hitr rfl fun d hd => ⟨_, rfl, rfl, ?_⟩
        dsimp only [hide, List.set]
        refine tr_eq (tr_call0 (tr_cons (tr_oV (tr_of (ch_size rfl) ?_))))
        walk_at "st"
        exact ft_of (is_index_ok (small_plain (hsm d hd))) ⟨rfl, rfl⟩
      have hall := opN1_ok (f := fAll) (oV_ok c) rfl (all_map (ixB R.length) 0 ds)
      refine st_seq (st_if (tr_tNot (tr_tB (tr_of hall (ex_bl rfl ?_)))))
      cases ha : ds.all (ixB R.length) with
      | false =>
        have hu : upR R i j (.tup ds) = false := by
          show (!ds.isEmpty && (ds.all (ixB R.length) && _)) = false
          rw [ha, Bool.false_and, Bool.and_false]
        rw [hu]
        refine ⟨fun _ => ?_, fun z => nomatch z⟩
        walk_at "st"
        exact ⟨_, rfl, rfl, rfl⟩
      | true =>
        refine ⟨(fun z => nomatch z), fun _ => st_next ?_⟩
        obtain ⟨ns, hin, hds⟩ := ints_isI (all_ix ha)
        subst hds
        have hr : ∀ x ∈ ns, 0 ≤ x ∧ x < (R.length : Int) := fun x hx => by
          have := List.all_eq_true.mp ha _ (List.mem_map.mpr ⟨x, hx, rfl⟩)
          have : (decide (0 ≤ x) && decide (x < (R.length : Int))) = true := this
          simpa using this
        have hu : upR R i j (.tup (ns.map D.int)) = upI R i j ns := by
          show (!(ns.map D.int).isEmpty && ((ns.map D.int).all (ixB R.length) && match intsOf (ns.map D.int) with
            | some ns => upI R i j ns
            | none => false)) = _
          rw [he, ha, ints_map]
          rfl
        rw [hu]
        have hpos : 0 < ns.length := by
          cases ns with
          | nil => cases he
          | cons _ _ => simp
        rw [List.length_map] at hlen
        have hQl : (ns.map (rowAt R)).length = ns.length := List.length_map ..
        obtain ⟨k2, c2⟩ : ∃ k, vComp [5] (itV (op1 (fAttr "rows") (oVar 3))) (gVar 5) (Mini.ret true) (vTup [oV (op2 fIxA (oV (op2 fIxA (oV (op1 (fAttr "rows") (oVar 0))) (oVar 5))) (oV (vC (.int 0)))), oV (op2 fIxA (oV (op2 fIxA (oV (op2 fIxA (oV (op1 (fAttr "rows") (oVar 0))) (oVar 5))) (oV (vC (.int 1))))) (oV (vC (.int 0))))]) e0 =
            .ok (k + 1, .lst ((ns.map (rowAt R)).map pairD)) e0 := by
          obtain ⟨k, c⟩ := comp_map2 (own := [5]) (g := gVar 5) (elt := vTup [oV (op2 fIxA (oV (op2 fIxA (oV (op1 (fAttr "rows") (oVar 0))) (oVar 5))) (oV (vC (.int 0)))), oV (op2 fIxA (oV (op2 fIxA (oV (op2 fIxA (oV (op1 (fAttr "rows") (oVar 0))) (oVar 5))) (oV (vC (.int 1))))) (oV (vC (.int 0))))]) (fun d => pairD (rowAt R (gI0 d))) hitr rfl fun d hd => by
            obtain ⟨x, hx, rfl⟩ := List.mem_map.mp hd
            obtain ⟨x0, x1⟩ := hr x hx
            refine ⟨_, rfl, rfl, ?_⟩
            dsimp only [hide, List.set]
            refine tr_eq (tr_vTup (tr_cons (tr_oV (tr_op2 (tr_oV (tr_op2 (tr_oV (tr_of (ch_rows rfl) ?_))))))))
            walk_at "st"
            refine ex_some (ix_row x0 x1) ?_
            walk_at "st"
            refine ex_some (ix_row x0 x1) ?_
            walk_at "st"
            exact ⟨rfl, rfl⟩
          refine ⟨k, ?_⟩
          rw [c, List.map_map, List.map_map]
          rfl
        refine st_seq (st_set (tr_of c2 ⟨in_len rfl, ?_⟩))
        have hmin : min (k2 + 1) 1 = 1 := by omega
        dsimp only [e0, List.set]
        unfold upI upC
        generalize hQ : ns.map (rowAt R) = Q at hQl ⊢
        have hQp : 0 < Q.length := by omega
        refine st_seq (st_if ?_)
        walk_at "st"
        rw [hmin]
        refine ex_some (ix_pair (r := 0) (by omega) (by omega)) ?_
        walk_at "st"
        dsimp only [List.set]
        cases q1 : ((rowAt Q 0).2 == i) with
        | false =>
          refine ⟨fun _ => ⟨fun _ => ?_, fun z => nomatch z⟩, fun z => nomatch z⟩
          walk_at "st"
          exact ⟨_, rfl, rfl, rfl⟩
        | true =>
          refine ⟨(fun z => nomatch z), fun _ => ?_⟩
          refine tr_tOr (tr_tB ?_)
          walk_at "st"
          refine ex_some (ix_pairL hQp) ?_
          walk_at "st"
          cases q2 : decide (j ∈ (rowAt Q (Q.length - 1)).1) with
          | false =>
            refine ⟨fun _ => ⟨fun _ => ?_, fun z => nomatch z⟩, fun z => nomatch z⟩
            walk_at "st"
            exact ⟨_, rfl, rfl, rfl⟩
          | true =>
            refine ⟨(fun z => nomatch z), fun _ => ?_⟩
            refine tr_tB ?_
            walk_at "st"
            refine ex_some (ix_pairL hQp) ?_
            walk_at "st"
            have hcomm : (j == (rowAt Q (Q.length - 1)).2) = ((rowAt Q (Q.length - 1)).2 == j) := by
              rw [Bool.eq_iff_iff, beq_iff_eq, beq_iff_eq]
              exact eq_comm
            rw [hcomm]
            cases q3 : ((rowAt Q (Q.length - 1)).2 == j) with
            | true =>
              refine ⟨fun _ => ?_, fun z => nomatch z⟩
              walk_at "st"
              exact ⟨_, rfl, rfl, rfl⟩
            | false =>
              refine ⟨(fun z => nomatch z), fun _ => st_next ?_⟩
              let e1 : Mini.Env := [some (0, chD nd R), some (0, .int i), some (0, .int j), some (0, upD (.tup (ns.map D.int))), some (1, .lst (Q.map pairD)), none, none]
              have hit : itRange1 (oV (op2 fSub (oV (opN fLen [oVar 4])) (oV (vC (.int 1))))) e1 = .ok (rangeL 0 (Q.length - 1)) e1 := by
                refine tr_eq (tr_range1 ?_)
                walk_at "st"
                rw [List.length_map]
                exact ⟨⟨by omega, by omega⟩, rfl, rfl⟩
              obtain ⟨k3, c3⟩ : ∃ k, vComp [6] (itRange1 (oV (op2 fSub (oV (opN fLen [oVar 4])) (oV (vC (.int 1)))))) (gVar 6) (Mini.ret true) (op2 fInA (oV (op2 fIxA (oV (op2 fIxA (oVar 4) (oV (op2 fAdd (oVar 6) (oV (vC (.int 1))))))) (oV (vC (.int 1))))) (oV (op2 fIxA (oV (op2 fIxA (oVar 4) (oVar 6))) (oV (vC (.int 0)))))) e1 = .ok (k + 1, .lst ((rangeL 0 (Q.length - 1)).map fun d => .bl (onI (fun a => decide ((rowAt Q (a + 1)).2 ∈ (rowAt Q a).1)) d))) e1 := by
                refine comp_map2 _ hit rfl fun d hd => ?_
                obtain ⟨a, rfl, a0, a1⟩ := mem_rangeL.mp hd
                refine ⟨_, rfl, rfl, ?_⟩
                dsimp only [hide, List.set]
                show _ = Mini.Res.ok ((0 : Nat), D.bl (decide ((rowAt Q (a + 1)).2 ∈ (rowAt Q a).1))) _
                refine tr_eq ?_
                walk_at "st"
                refine ex_some (ix_pair (r := a + 1) (by omega) (by omega)) ?_
                walk_at "st"
                refine ex_some (ix_pair (r := a) a0 (by omega)) ?_
                walk_at "st"
                exact ⟨rfl, rfl⟩
              exact st_ret (tr_of (opN1_ok (f := fAll) (oV_ok c3) rfl (all_map _ 0 _)) ⟨_, rfl, rfl, rfl⟩)
end Law

set_option Elab.async false
set_option linter.all false
set_option maxRecDepth 100000
set_option maxHeartbeats 4000000
namespace Law
open PySem Mini
theorem fIndex_ints {os : List Int} {a : Int} (h : a ∈ os) : fIndex false (.tup (os.map D.int)) (.int a) = some (0, .int (os.idxOf a : Nat)) := by
  simp [fIndex, flatD, flat_ints, findIdx_ints a os h]
theorem tr_index {a b : M Item} {e : Mini.Env} {os : List Int} {x : Int} {Q : Vl → Mini.Env → Prop} (ha : a e = .ok (.val (.tup (os.map D.int))) e ∨ ∃ i, a e = .ok (.bor i) e ∧ getS e i = some (0, .tup (os.map D.int))) (hb : Tr b e fun y e2 => e2 = e ∧ res y e = .ok (.int x) e) (hx : x ∈ os) (q : Q (0, .int (os.idxOf x : Nat)) e) : Tr (vIndex a b) e Q := by
  obtain ⟨y, e2, h1, rfl, h2⟩ := hb
  refine ⟨_, e2, ?_, q⟩
  rcases ha with ha | ⟨i, ha, hg⟩
  · unfold vIndex
    rw [bnd_ok ha, bnd_ok (show kindI (.val (.tup (os.map D.int))) e2 = .ok false e2 from rfl), seqM_one, bnd_ok h1]
    show bnd (res (.val _)) _ e2 = _
    rw [bnd_ok (show res (.val (.tup (os.map D.int))) e2 = .ok (.tup (os.map D.int)) e2 from rfl), bnd_ok h2, fIndex_ints hx]
    rfl
  · unfold vIndex
    rw [bnd_ok ha, bnd_ok (show kindI (.bor i) e2 = .ok false e2 by
      show (match getS e2 i with
        | some (_, d) => opt (kindD d) e2
        | none => .stuck) = _
      rw [hg]
      rfl), seqM_one, bnd_ok h1]
    show bnd (res (.bor i)) _ e2 = _
    rw [bnd_ok (res_bor hg), bnd_ok h2, fIndex_ints hx]
    rfl
local macro_rules | `(tactic| walk_at "st") => `(tactic| repeat (first
  | with_reducible refine st_seq ?_
  | with_reducible refine st_set ?_
  | with_reducible refine st_ret ?_
  | with_reducible refine st_expr ?_
  | with_reducible refine st_asg ?_
  | with_reducible refine st_for ?_
  | with_reducible refine st_next ?_
  | with_reducible refine st_par2 ?_
  | with_reducible refine st_par3 ?_
  | with_reducible refine st_if ?_
  | with_reducible refine tr_oV ?_
  | with_reducible refine tr_resV ?_
  | with_reducible refine tr_vC ?_
  | with_reducible refine tr_op1 ?_
  | with_reducible refine tr_op2 ?_
  | with_reducible refine tr_opN ?_
  | with_reducible refine tr_nil ?_
  | with_reducible refine tr_cons ?_
  | with_reducible refine tr_rnil ?_
  | with_reducible refine tr_rcons ?_
  | with_reducible refine tr_tB ?_
  | with_reducible refine tr_tAnd ?_
  | with_reducible refine tr_tOr ?_
  | with_reducible refine tr_tNot ?_
  | with_reducible refine tr_vBool ?_
  | with_reducible refine tr_vIf ?_
  | with_reducible refine tr_vAnd ?_
  | with_reducible refine tr_vOr ?_
  | with_reducible refine tr_vIsI ?_
  | with_reducible refine tr_range1 ?_
  | with_reducible refine tr_range2 ?_
  | with_reducible refine tr_vRgT ?_
  | with_reducible refine tr_vRgL ?_
  | with_reducible refine tr_call0 ?_
  | with_reducible refine tr_call1 ?_
  | with_reducible refine tr_vNew ?_
  | ((with_reducible apply tr_vApp); · rfl)
  | with_reducible refine tr_vTup ?_
  | with_reducible refine tr_vLst ?_
  | with_reducible refine tr_cutNS ?_
  | with_reducible refine tr_cutSN ?_
  | with_reducible refine ex_itL ?_
  | with_reducible refine ex_itT ?_
  | with_reducible refine tr_itV ?_
  | ((with_reducible apply tr_vVar0); · rfl)
  | ((with_reducible apply tr_vVar); · rfl)
  | ((with_reducible apply tr_oVar); · rfl)
  | ((with_reducible apply tr_resB0); · rfl)
  | ((with_reducible apply tr_resB1); · rfl)
  | ((with_reducible apply tr_resB); · rfl)
  | ((with_reducible apply ex_some); · with_reducible exact feq_int _ _)
  | ((with_reducible apply ex_some); · with_reducible exact fne_int _ _)
  | ((with_reducible apply ex_some); · with_reducible exact in_tup _ _)
  | ((with_reducible apply ex_some); · with_reducible exact in_lst _ _)
  | ((with_reducible apply ex_some); · with_reducible exact nin_tup _ _)
  | ((with_reducible apply ex_some); · with_reducible exact nin_lst _ _)
  | ((with_reducible apply ex_some); · rfl)
  | ((with_reducible apply ex_bl); · rfl)
  | ((with_reducible apply ex_int); · rfl)
  | refine ⟨in_len rfl, ?_⟩
  | refine ⟨fit_l rfl, ?_⟩
  | refine ex_call1 rfl rfl ?_))
theorem feq_tups (ns ms : List Int) : fEq (ordD ns) (ordD ms) = some (0, .bl (decide (ns = ms))) := by
  have h := fne_tups ns ms
  unfold fNe at h
  unfold fEq
  cases q : eqD (ordD ns) (ordD ms) with
  | none => rw [q] at h; cases h
  | some b =>
    rw [q] at h
    have : (!b) = !decide (ns = ms) := by
      injection h with h
      injection h with _ h
      injection h
    rw [show b = decide (ns = ms) from by
      cases b <;> cases hd : decide (ns = ms) <;> rw [hd] at this <;> first | rfl | cases this]
    rfl
theorem wh_ints {n : Int} (ns : List Int) : whB n (.tup (ns.map D.int)) = decide (sortI ns = rangeI n) := by
  unfold whB
  rw [show seqI (.tup (ns.map D.int)) = some ns from ints_map ns]
theorem wh_notI {n : Int} {ds : List D} (h : ds.all isI = false) : whB n (.tup ds) = false := by
  unfold whB
  cases q : seqI (.tup ds) with
  | none => rfl
  | some ns =>
    have hd := isI_of_ints (show intsOf ds = some ns from q)
    subst hd
    have : (ns.map D.int).all isI = true := by
      rw [List.all_map, List.all_eq_true]
      exact fun _ _ => rfl
    rw [this] at h
    cases h
theorem wh_notX {n : Int} {ds : List D} (h : ds.all (ixB n) = false) : whB n (.tup ds) = false := by
  unfold whB
  cases q : seqI (.tup ds) with
  | none => rfl
  | some ns =>
    have hd := isI_of_ints (show intsOf ds = some ns from q)
    subst hd
    show decide (sortI ns = rangeI n) = false
    rw [decide_eq_false_iff_not]
    intro hs
    rw [ix_all fun x hx => wh_in hs hx] at h
    cases h
theorem sorted_ints (ns : List Int) : fSorted [.tup (ns.map D.int)] = some (1, .lst ((sortI ns).map D.int)) := by
  show (intsOf _).map _ = _
  rw [ints_map]
  rfl
theorem is_order_ok {n : Nat} (n1 : n ≤ 100) {v : D} (hv : plainD v = true) (hp : ∀ ds, v = .tup ds → ds.all plainD = true) : s_is_order_of [(0, .int n), (0, v)] = .ok (0, .bl (whT n v)) none := by
  unfold s_is_order_of
  refine ft_eq (ft_st0 rfl ?_)
  let e0 : Mini.Env := [some (0, .int n), some (0, v), none]
  rw [show startE 3 [(0, D.int n), (0, v)] = e0 from rfl]
  refine st_seq (st_if (tr_tOr (tr_tNot (tr_tB (tr_vIsI ?_)))))
  walk_at "st"
  refine ⟨_, ty_tup hv, ex_bl rfl ?_⟩
  unfold whT
  cases ht : isTupD v with
  | false =>
    refine ⟨fun _ => ⟨fun _ => ?_, fun z => nomatch z⟩, fun z => nomatch z⟩
    walk_at "st"
    exact ⟨_, rfl, rfl, rfl⟩
  | true =>
    obtain ⟨ds, rfl⟩ := tup_of ht
    refine ⟨(fun z => nomatch z), fun _ => ?_⟩
    obtain ⟨k, c⟩ : ∃ k, vComp [2] (itV (vVar 1)) (gVar 2) (Mini.ret true) (vCall0 s_is_index [oV (vVar 0), oV (vVar 2)]) e0 = .ok (k + 1, .lst (ds.map fun d => .bl (ixB n d))) e0 := by
      refine comp_map2 (fun d => .bl (ixB n d)) (ds := ds) rfl rfl fun d hd => ⟨_, rfl, rfl, ?_⟩
      dsimp only [hide, List.set]
      refine tr_eq ?_
      walk_at "st"
      exact ft_of (is_index_ok (List.all_eq_true.mp (hp ds rfl) d hd)) ⟨rfl, rfl⟩
    have hall := opN1_ok (f := fAll) (oV_ok c) rfl (all_map (ixB n) 0 ds)
    refine tr_tNot (tr_tB (tr_of hall (ex_bl rfl ?_)))
    cases ha : ds.all (ixB n) with
    | false =>
      rw [wh_notX ha]
      refine ⟨fun _ => ?_, fun z => nomatch z⟩
      walk_at "st"
      exact ⟨_, rfl, rfl, rfl⟩
    | true =>
      refine ⟨(fun z => nomatch z), fun _ => st_next ?_⟩
      obtain ⟨ns, _, rfl⟩ := ints_isI (all_ix ha)
      rw [wh_ints]
      refine st_ret (tr_op2 (tr_oV (tr_opN (tr_cons (tr_oVar rfl (tr_nil (tr_rcons (tr_resB0 rfl (tr_rnil (ex_some (sorted_ints ns) ?_))))))))))
      walk_at "st"
      refine ⟨⟨by omega, by omega⟩, ?_⟩
      walk_at "st"
      rw [rangeL_eq]
      refine ex_some (feq_lsts _ _) ⟨_, rfl, ?_, rfl⟩
      rw [Bool.true_and]
def agC (R : List (List Int × Int)) (ns : List Int) : Bool := R.all fun r => firstI ns r.1 == r.2
def agR (n : Nat) (R : List (List Int × Int)) (i j : Int) (v : D) : Bool := whT n v && match seqI v with
  | some ns => agC R ns && decide (((ns.idxOf j : Nat) : Int) < (ns.idxOf i : Nat))
  | none => false
theorem wh_perm {n : Int} {ns : List Int} (h : sortI ns = rangeI n) : ns.Perm (rangeI n) := by
  rw [← h]
  exact (sortI_perm ns).symm
theorem wh_tup {n : Int} {v : D} (h : whT n v = true) : ∃ ns, v = ordD ns ∧ ns.Perm (rangeI n) := by
  unfold whT at h
  rw [Bool.and_eq_true] at h
  obtain ⟨ds, rfl⟩ := tup_of h.1
  cases q : ds.all isI with
  | false => rw [wh_notI q] at h; cases h.2
  | true =>
    obtain ⟨ns, _, rfl⟩ := ints_isI q
    rw [wh_ints] at h
    exact ⟨ns, rfl, wh_perm (by simpa using h.2)⟩
theorem compL_map {α : Type} {own : List Nat} {g : Tg} {elt : M Vl} (emb f : α → D) : ∀ {xs : List α} {e : Mini.Env}, (∀ x ∈ xs, ∃ e2, g (emb x) (hide own e) = some e2 ∧ hide own e2 = hide own e ∧ elt e2 = .ok (0, f x) e2) →
    ∃ e', compL own g (Mini.ret true) elt (xs.map emb) e = .ok (xs.map fun x => (0, f x)) e' ∧ hide own e' = hide own e
  | [], e, _ => ⟨e, rfl, rfl⟩
  | x :: xs, e, h => by
    obtain ⟨e2, h1, h2, h3⟩ := h x List.mem_cons_self
    obtain ⟨e', k1, k2⟩ := compL_map emb f (xs := xs) (e := e2) fun y hy => by
      rw [h2]
      exact h y (List.mem_cons_of_mem _ hy)
    refine ⟨e', ?_, k2.trans h2⟩
    rw [List.map_cons]
    unfold compL
    rw [bnd_ok (show tgM g (emb x) (hide own e) = .ok () e2 by simp only [tgM, h1]), bnd_ok (show Mini.ret true e2 = .ok true e2 from rfl), if_pos rfl, bnd_ok h3, bnd_ok k1]
    rfl
theorem comp_map3 {α : Type} {own : List Nat} {it : M (List D)} {g : Tg} {elt : M Vl} (emb f : α → D) {e e1 : Mini.Env} {xs : List α} (hi : it e = .ok (xs.map emb) e1) (hc : own.all (calmS e1) = true)
    (h : ∀ x ∈ xs, ∃ e2, g (emb x) (hide own e1) = some e2 ∧ hide own e2 = hide own e1 ∧ elt e2 = .ok (0, f x) e2) : ∃ n, vComp own it g (Mini.ret true) elt e = .ok (n + 1, .lst (xs.map f)) e1 := by
  obtain ⟨e', h1, h2⟩ := compL_map emb f h
  refine ⟨minOwn (xs.map fun x => ((0 : Nat), f x)), ?_⟩
  unfold vComp
  rw [bnd_ok hi]
  show (if own.all (calmS e1) then _ else _) = _
  rw [if_pos hc, h1]
  show Mini.Res.ok (mkLst _) (back e1 own e') = _
  rw [back_hide own h2]
  unfold mkLst
  rw [List.map_map]
  rfl
theorem bls_map3 {α : Type} (p : α → Bool) : ∀ xs : List α, blsOf (xs.map fun x => .bl (p x)) = some (xs.map p)
  | [] => rfl
  | x :: xs => by
    have := bls_map3 p xs
    rw [List.map_cons, List.map_cons]
    show (blsOf _).map _ = _
    rw [this]
    rfl
theorem all_map3 {α : Type} (p : α → Bool) (xs : List α) : fAll [.lst (xs.map fun x => .bl (p x))] = some (0, .bl (xs.all p)) := by
  show (blsOf _).map _ = _
  rw [bls_map3]
  simp
theorem agrees_ok {n : Nat} {os : List Int} {R : List (List Int × Int)} {nd : List D} (hG : Good n os R) {ns : List Int} (hp : ns.Perm (rangeI n)) : s_agrees_with [(0, chD nd R), (0, ordD ns)] = .ok (0, .bl (agC R ns)) none := by
  unfold s_agrees_with
  let e0 : Mini.Env := [some (0, chD nd R), some (0, ordD ns), none, none]
  obtain ⟨k, c⟩ : ∃ k, vComp [2, 3] (itV (op1 (fAttr "rows") (oVar 0))) (gTupD [gVar 2, gVar 3]) (Mini.ret true) (op2 fEq (oVar 3) (oV (vTup [oV (vCall0 s_first_of [oV (vVar 1), oV (vVar 2)])]))) e0 = .ok (k + 1, .lst (R.map fun r => .bl (firstI ns r.1 == r.2))) e0 := by
    refine comp_map3 rowD (fun r => .bl (firstI ns r.1 == r.2)) (show itV (op1 (fAttr "rows") (oVar 0)) e0 = .ok (R.map rowD) e0 from rfl) rfl fun r hr => ?_
    refine ⟨[some (0, chD nd R), some (0, ordD ns), some (0, ordD r.1), some (0, ordD [r.2])], rfl, rfl, ?_⟩
    have hm := lot_meets hp (hG.row r hr).1
    refine tr_eq (tr_op2 (tr_oVar rfl (tr_oV (tr_vTup (tr_cons (tr_oV (tr_call0 ?_)))))))
    walk_at "st"
    refine ft_of (first_of_ok (.inr rfl) hm) ?_
    walk_at "st"
    have hq : PyData.eqv (.tuple ([r.2].map PyData.int)) (.tuple ([firstI ns r.1].map PyData.int)) = decide ([r.2] = [firstI ns r.1]) := by
      rw [← eqv_ints]
      simp [PyData.eqv]
    refine ⟨?_, rfl⟩
    show ((0 : Nat), D.bl (PyData.eqv (.tuple ([r.2].map PyData.int)) (.tuple ([firstI ns r.1].map PyData.int)))) = _
    rw [hq]
    congr 2
    rw [Bool.eq_iff_iff, decide_eq_true_eq, beq_iff_eq]
    constructor
    · intro h
      injection h with h
      exact h.symm
    · intro h
      rw [h]
  exact mk_rt (ret_ok (opN1_ok (oV_ok c) rfl (all_map3 _ R))) rfl
theorem ag_holds_ok {n : Nat} {os : List Int} {R : List (List Int × Int)} {nd : List D} (hn : nd.length = n) (n0 : 0 < n) (n1 : n ≤ 100) (hG : Good n os R) (hR : R.length ≤ 100) {i j : Int} (i0 : 0 ≤ i) (i1 : i < n) (j0 : 0 ≤ j) (j1 : j < n) {v : D} (hv : plainD v = true) (hp : ∀ ds, v = .tup ds → ds.all plainD = true) :
    s_against_holds [(0, chD nd R), (0, .int i), (0, .int j), (0, agD v)] = .ok (0, .bl (agR n R i j v)) none := by
  unfold s_against_holds
  refine ft_eq (ft_st0 rfl ?_)
  let e0 : Mini.Env := [some (0, chD nd R), some (0, .int i), some (0, .int j), some (0, agD v)]
  rw [show startE 4 [(0, chD nd R), (0, D.int i), (0, D.int j), (0, agD v)] = e0 from rfl]
  refine st_seq (st_expr (tr_call0 ?_))
  walk_at "st"
  refine ft_of (two_things_ok hn n0 n1 hG hR i0 i1 j0 j1) ?_
  have at1 : op1 (fAttr "order") (oVar 3) e0 = .ok (0, v) e0 := rfl
  refine st_seq (st_if (tr_tOr (tr_tNot (tr_tB ?_))))
  walk_at "st"
  refine ⟨(fun z => nomatch z), fun _ => ?_⟩
  refine tr_tNot (tr_tB (tr_call0 (tr_cons (tr_oV (tr_of (ch_many hn rfl) (tr_cons (tr_oV (tr_of at1 (tr_nil ⟨_, rfl, ?_⟩)))))))))
  refine ft_of (is_order_ok n1 hv hp) (ex_bl rfl ?_)
  unfold agR
  cases hw : whT n v with
  | false =>
    refine ⟨fun _ => ?_, fun z => nomatch z⟩
    walk_at "st"
    exact ⟨_, rfl, rfl, rfl⟩
  | true =>
    refine ⟨(fun z => nomatch z), fun _ => st_next ?_⟩
    obtain ⟨ns, rfl, hperm⟩ := wh_tup hw
    rw [show seqI (ordD ns) = some ns from ints_map ns, Bool.true_and]
    dsimp only
    have hin : ∀ {x : Int}, 0 ≤ x → x < n → x ∈ ns := fun h0 h1 => hperm.mem_iff.mpr (mem_rangeI.mpr ⟨h0, h1⟩)
    refine st_ret (tr_vAnd (tr_call0 ?_))
    walk_at "st"
    refine ft_of (agrees_ok hG hperm) ?_
    cases ha : agC R ns with
    | false => exact ex_bl rfl ⟨(fun z => nomatch z), fun _ => ⟨_, rfl, rfl, rfl⟩⟩
    | true =>
      refine ex_bl rfl ⟨fun _ => ?_, fun z => nomatch z⟩
      refine tr_op2 (tr_oV (tr_index (os := ns) (x := j) (.inl (oV_ok at1)) (tr_oVar rfl ⟨rfl, res_bor rfl⟩) (hin j0 j1) (tr_oV (tr_index (os := ns) (x := i) (.inl (oV_ok at1)) (tr_oVar rfl ⟨rfl, res_bor rfl⟩) (hin i0 i1) ?_))))
      walk_at "st"
      exact ⟨_, rfl, rfl, rfl⟩
theorem law_ag_ok {n : Nat} {os : List Int} {R : List (List Int × Int)} (n1 : n ≤ 100) (hG : Good n os R) {i j : Int} (i0 : 0 ≤ i) (i1 : i < n) (j0 : 0 ≤ j) (j1 : j < n) {v : D} (hv : plainD v = true) (hp : ∀ ds, v = .tup ds → ds.all plainD = true) :
    s_law_against_right [(0, .int n), (0, .tup (R.map rowD)), (0, .int i), (0, .int j), (0, v)] = .ok (0, .bl (agR n R i j v)) none := by
  unfold s_law_against_right
  refine ft_eq (ft_st0 rfl ?_)
  let e0 : Mini.Env := [some (0, .int n), some (0, .tup (R.map rowD)), some (0, .int i), some (0, .int j), some (0, v), none, none, none]
  rw [show startE 8 [(0, D.int n), (0, D.tup (R.map rowD)), (0, D.int i), (0, D.int j), (0, v)] = e0 from rfl]
  refine st_seq (st_if (tr_tOr (tr_tNot (tr_tB (tr_vIsI ?_)))))
  walk_at "st"
  refine ⟨_, ty_tup hv, ex_bl rfl ?_⟩
  cases ht : isTupD v with
  | false =>
    have hu : agR n R i j v = false := by
      unfold agR whT
      rw [ht]; rfl
    rw [hu]
    refine ⟨fun _ => ⟨fun _ => ?_, fun z => nomatch z⟩, fun z => nomatch z⟩
    walk_at "st"
    exact ⟨_, rfl, rfl, rfl⟩
  | true =>
    obtain ⟨ds, rfl⟩ := tup_of ht
    refine ⟨(fun z => nomatch z), fun _ => ?_⟩
    obtain ⟨k, c⟩ : ∃ k, vComp [5] (itV (vVar 4)) (gVar 5) (Mini.ret true) (vCall0 s_law_is_int [oV (vVar 5)]) e0 = .ok (k + 1, .lst (ds.map fun d => .bl (isI d))) e0 := by
      refine comp_map2 (fun d => .bl (isI d)) (ds := ds) rfl rfl fun d hd => ⟨_, rfl, rfl, ?_⟩
      dsimp only [hide, List.set]
      refine tr_eq ?_
      walk_at "st"
      exact ft_of (is_int_ok (List.all_eq_true.mp (hp ds rfl) d hd)) ⟨rfl, rfl⟩
    have hall := opN1_ok (f := fAll) (oV_ok c) rfl (all_map isI 0 ds)
    refine tr_tOr (tr_tNot (tr_tB (tr_of hall (ex_bl rfl ?_))))
    cases ha : ds.all isI with
    | false =>
      have hu : agR n R i j (.tup ds) = false := by
        unfold agR whT
        rw [wh_notI ha, Bool.and_false]; rfl
      rw [hu]
      refine ⟨fun _ => ⟨fun _ => ?_, fun z => nomatch z⟩, fun z => nomatch z⟩
      walk_at "st"
      exact ⟨_, rfl, rfl, rfl⟩
    | true =>
      refine ⟨(fun z => nomatch z), fun _ => ?_⟩
      obtain ⟨ns, _, rfl⟩ := ints_isI ha
      refine tr_tB (tr_op2 (tr_oV (tr_opN (tr_cons (tr_oVar rfl (tr_nil (tr_rcons (tr_resB0 rfl (tr_rnil (ex_some (sorted_ints ns) ?_))))))))))
      walk_at "st"
      refine ⟨⟨by omega, by omega⟩, ?_⟩
      walk_at "st"
      rw [rangeL_eq]
      refine ex_some (fne_lsts _ _) (ex_bl rfl ?_)
      unfold agR whT
      rw [wh_ints, show isTupD (.tup (ns.map D.int)) = true from rfl, Bool.true_and, show seqI (.tup (ns.map D.int)) = some ns from ints_map ns]
      cases hs : decide (sortI ns = rangeI n) with
      | false =>
        refine ⟨fun _ => ?_, fun z => nomatch z⟩
        walk_at "st"
        exact ⟨_, rfl, rfl, rfl⟩
      | true =>
        refine ⟨(fun z => nomatch z), fun _ => st_next ?_⟩
        rw [Bool.true_and]
        dsimp only
        have hperm := wh_perm (n := n) (by simpa using hs)
        have hin : ∀ {x : Int}, 0 ≤ x → x < n → x ∈ ns := fun h0 h1 => hperm.mem_iff.mpr (mem_rangeI.mpr ⟨h0, h1⟩)
        obtain ⟨k2, c2⟩ : ∃ k, vComp [6, 7] (itV (vVar 1)) (gTupD [gVar 6, gVar 7]) (Mini.ret true) (op2 fEq (oV (vCall0 s_law_first [oV (vVar 4), oV (vVar 6)])) (oV (op2 fIxA (oVar 7) (oV (vC (.int 0)))))) e0 = .ok (k + 1, .lst (R.map fun r => .bl (firstI ns r.1 == r.2))) e0 := by
          refine comp_map3 rowD (fun r => .bl (firstI ns r.1 == r.2)) (show itV (vVar 1) e0 = .ok (R.map rowD) e0 from rfl) rfl fun r hr => ?_
          refine ⟨[some (0, .int n), some (0, .tup (R.map rowD)), some (0, .int i), some (0, .int j), some (0, .tup (ns.map D.int)), none, some (0, ordD r.1), some (0, ordD [r.2])], rfl, rfl, ?_⟩
          have hm := lot_meets hperm (hG.row r hr).1
          refine tr_eq (tr_op2 (tr_oV (tr_call0 ?_)))
          walk_at "st"
          refine ft_of (law_first_ok (.inr rfl) hm) ?_
          walk_at "st"
          exact ⟨rfl, rfl⟩
        refine st_ret (tr_vAnd (tr_of (opN1_ok (oV_ok c2) rfl (all_map3 _ R)) ?_))
        show ∃ x, D.bl (agC R ns) = D.bl x ∧ _
        cases ha : agC R ns with
        | false => exact ex_bl rfl ⟨(fun z => nomatch z), fun _ => ⟨_, rfl, rfl, rfl⟩⟩
        | true =>
          refine ex_bl rfl ⟨fun _ => ?_, fun z => nomatch z⟩
          refine tr_op2 (tr_oV (tr_index (os := ns) (x := j) (.inr ⟨4, rfl, rfl⟩) (tr_oVar rfl ⟨rfl, res_bor rfl⟩) (hin j0 j1) (tr_oV (tr_index (os := ns) (x := i) (.inr ⟨4, rfl, rfl⟩) (tr_oVar rfl ⟨rfl, res_bor rfl⟩) (hin i0 i1) ?_))))
          walk_at "st"
          exact ⟨_, rfl, rfl, rfl⟩
end Law

set_option Elab.async false
set_option linter.all false
set_option maxRecDepth 100000
set_option maxHeartbeats 4000000
namespace Law
open PySem Mini
local macro_rules | `(tactic| walk_at "st") => `(tactic| repeat (first
  | with_reducible refine st_seq ?_
  | with_reducible refine st_set ?_
  | with_reducible refine st_ret ?_
  | with_reducible refine st_expr ?_
  | with_reducible refine st_asg ?_
  | with_reducible refine st_for ?_
  | with_reducible refine st_next ?_
  | with_reducible refine st_par2 ?_
  | with_reducible refine st_par3 ?_
  | with_reducible refine st_if ?_
  | with_reducible refine tr_oV ?_
  | with_reducible refine tr_resV ?_
  | with_reducible refine tr_vC ?_
  | with_reducible refine tr_op1 ?_
  | with_reducible refine tr_op2 ?_
  | with_reducible refine tr_opN ?_
  | with_reducible refine tr_nil ?_
  | with_reducible refine tr_cons ?_
  | with_reducible refine tr_rnil ?_
  | with_reducible refine tr_rcons ?_
  | with_reducible refine tr_tB ?_
  | with_reducible refine tr_tAnd ?_
  | with_reducible refine tr_tOr ?_
  | with_reducible refine tr_tNot ?_
  | with_reducible refine tr_vBool ?_
  | with_reducible refine tr_vIf ?_
  | with_reducible refine tr_vAnd ?_
  | with_reducible refine tr_vOr ?_
  | with_reducible refine tr_vIsI ?_
  | with_reducible refine tr_range1 ?_
  | with_reducible refine tr_range2 ?_
  | with_reducible refine tr_vRgT ?_
  | with_reducible refine tr_vRgL ?_
  | with_reducible refine tr_call0 ?_
  | with_reducible refine tr_call1 ?_
  | with_reducible refine tr_vNew ?_
  | ((with_reducible apply tr_vApp); · rfl)
  | with_reducible refine tr_vTup ?_
  | with_reducible refine tr_vLst ?_
  | with_reducible refine tr_cutNS ?_
  | with_reducible refine tr_cutSN ?_
  | with_reducible refine ex_itL ?_
  | with_reducible refine ex_itT ?_
  | with_reducible refine tr_itV ?_
  | ((with_reducible apply tr_vVar0); · rfl)
  | ((with_reducible apply tr_vVar); · rfl)
  | ((with_reducible apply tr_oVar); · rfl)
  | ((with_reducible apply tr_resB0); · rfl)
  | ((with_reducible apply tr_resB1); · rfl)
  | ((with_reducible apply tr_resB); · rfl)
  | ((with_reducible apply ex_some); · with_reducible exact feq_int _ _)
  | ((with_reducible apply ex_some); · with_reducible exact fne_int _ _)
  | ((with_reducible apply ex_some); · with_reducible exact in_tup _ _)
  | ((with_reducible apply ex_some); · with_reducible exact in_lst _ _)
  | ((with_reducible apply ex_some); · with_reducible exact nin_tup _ _)
  | ((with_reducible apply ex_some); · with_reducible exact nin_lst _ _)
  | ((with_reducible apply ex_some); · rfl)
  | ((with_reducible apply ex_bl); · rfl)
  | ((with_reducible apply ex_int); · rfl)
  | refine ⟨in_len rfl, ?_⟩
  | refine ⟨fit_l rfl, ?_⟩
  | refine ex_call1 rfl rfl ?_))
theorem fadd_big {xs ys : List D} (h : xs.length + ys.length ≤ 1000000) : fAdd (.lst xs) (.lst ys) = some (1, .lst (xs ++ ys)) := by
  have : xs.length + ys.length ≤ sLine := Nat.le_trans h (by decide)
  show (if _ then _ else _) = _
  rw [if_pos this]
def moreI (n : Int) (os : List Int) : List (List Int) := ((rangeI n).filter fun x => !decide (x ∈ os)).map fun x => os ++ [x]
def nextL (n : Int) (ls : List (List Int)) : List (List Int) := ls.flatMap (moreI n)
def layL (n : Int) : Nat → List (List Int)
  | 0 => [[]]
  | i + 1 => nextL n (layL n i)
theorem more_len (n : Nat) (os : List Int) : (moreI n os).length ≤ n := by
  unfold moreI
  rw [List.length_map]
  have := List.length_filter_le (fun x => !decide (x ∈ os)) (rangeI n)
  rw [len_rangeI] at this
  exact this
theorem next_len {n : Nat} : ∀ ls : List (List Int), (nextL n ls).length ≤ n * ls.length
  | [] => Nat.zero_le _
  | os :: ls => by
    have := next_len (n := n) ls
    have h2 := more_len n os
    unfold nextL at this ⊢
    rw [List.flatMap_cons, List.length_append, List.length_cons, Nat.mul_succ]
    omega
theorem lay_len (n : Nat) : ∀ i, (layL n i).length ≤ n ^ i
  | 0 => Nat.le_refl _
  | i + 1 => by
    have h1 := next_len (n := n) (layL n i)
    have h2 := lay_len n i
    rw [Nat.pow_succ, Nat.mul_comm]
    exact Nat.le_trans h1 (Nat.mul_le_mul_left n h2)
theorem lay_mem (n : Nat) : ∀ i os, os ∈ layL n i → os.length = i ∧ os.Nodup ∧ ∀ x ∈ os, x ∈ rangeI n
  | 0, os, h => by
    rcases List.mem_singleton.mp h with rfl
    exact ⟨rfl, List.nodup_nil, fun _ h => nomatch h⟩
  | i + 1, os, h => by
    obtain ⟨l, h1, h2⟩ := List.mem_flatMap.mp (show os ∈ (layL n i).flatMap (moreI n) from h)
    unfold moreI at h2
    obtain ⟨x, h3, rfl⟩ := List.mem_map.mp h2
    obtain ⟨h4, h5⟩ := List.mem_filter.mp h3
    obtain ⟨k1, k2, k3⟩ := lay_mem n i l h1
    refine ⟨by rw [List.length_append, k1]; rfl, ?_, fun y hy => ?_⟩
    · rw [List.nodup_append]
      exact ⟨k2, by simp, fun a ha b hb => by
        rcases List.mem_singleton.mp hb with rfl
        intro z
        subst z
        simp [ha] at h5⟩
    · rcases List.mem_append.mp hy with hy | hy
      · exact k3 y hy
      · rcases List.mem_singleton.mp hy with rfl
        exact h4
theorem lay_all (n : Nat) : ∀ i (os : List Int), os.length = i → os.Nodup → (∀ x ∈ os, x ∈ rangeI n) → os ∈ layL n i
  | 0, os, h, _, _ => by
    have := List.length_eq_zero_iff.mp h
    subst this
    exact List.mem_singleton.mpr rfl
  | i + 1, os, h, hn, hr => by
    have hne : os ≠ [] := fun z => by rw [z] at h; cases h
    have hsplit := List.dropLast_concat_getLast hne
    rw [← hsplit] at hn hr ⊢
    rw [List.nodup_append] at hn
    have hl : os.dropLast.length = i := by rw [List.length_dropLast, h]; rfl
    have hi := lay_all n i os.dropLast hl hn.1 fun x hx => hr x (List.mem_append_left _ hx)
    refine List.mem_flatMap.mpr ⟨_, hi, List.mem_map.mpr ⟨os.getLast hne, List.mem_filter.mpr ⟨hr _ (by simp), ?_⟩, rfl⟩⟩
    have : os.getLast hne ∉ os.dropLast := fun z => hn.2.2 _ z _ (by simp) rfl
    simpa using this
theorem perm_of {n : Nat} {os : List Int} (hl : os.length = n) (hn : os.Nodup) (hr : ∀ x ∈ os, x ∈ rangeI n) : os.Perm (rangeI n) := by
  refine (List.perm_ext_iff_of_nodup hn (rangeI_nodup n)).mpr fun x => ⟨hr x, fun hx => ?_⟩
  refine Classical.byContradiction fun hno => ?_
  have := nodup_len (l := x :: os) (m := rangeI n) (List.nodup_cons.mpr ⟨hno, hn⟩) fun y hy => by
    rcases List.mem_cons.mp hy with rfl | hy
    · exact hx
    · exact hr y hy
  rw [List.length_cons, len_rangeI] at this
  omega
theorem five_pow {n i : Nat} (hn : n ≤ 5) (hi : i ≤ 5) : n ^ i ≤ 3125 := by
  have h1 : n ^ i ≤ 5 ^ i := Nat.pow_le_pow_left hn i
  have h2 : 5 ^ i ≤ 5 ^ 5 := Nat.pow_le_pow_right (by decide) hi
  have : (5 : Nat) ^ 5 = 3125 := by decide
  omega
def addO (os : List Int) : D → Vl
  | .int x => (0, ordD (os ++ [x]))
  | d => (0, d)
theorem law_orders_ok {n : Nat} (n5 : n ≤ 5) : FT s_law_orders [(0, .int n)] fun v mu => v = (0, .lst ((layL n n).map ordD)) ∧ mu = none := by
  unfold s_law_orders
  refine ft_st0 rfl ?_
  rw [show startE 6 [(0, D.int n)] = [some (0, .int n), none, none, none, none, none] from rfl]
  walk_at "st"
  dsimp only [List.set]
  refine ⟨⟨by omega, by omega⟩, ?_⟩
  refine st_loop (fun i e => ∃ (k : Nat) (s2 s3 s4 : Option Vl), e = [some (0, .int n), some (k, .lst ((layL n i).map ordD)), s2, s3, s4, none]) ⟨1, none, none, none, rfl⟩ (fun i d e hd ⟨k, s2, s3, s4, he⟩ => ?_) (fun e ⟨k, s2, s3, s4, he⟩ => ?_)
  · subst he
    have hi : i < n := by
      have := (List.getElem?_eq_some_iff.mp hd).1
      simpa [rangeL] using this
    refine ⟨_, rfl, ?_⟩
    dsimp only [List.set]
    walk_at "st"
    dsimp only [List.set]
    walk_at "st"
    have hlen := lay_len n i
    have h5 := five_pow (n := n) (i := i) n5 (by omega)
    generalize hls : layL n i = ls at hlen
    have hle := fun os (h : os ∈ ls) => (lay_mem n i os (hls ▸ h)).1
    refine st_loop (fun j e => ∃ (k : Nat) (s4 : Option Vl), e = [some (0, .int n), some (0, .lst (ls.map ordD)), some (0, d), some (k, .lst ((nextL n (ls.take j)).map ordD)), s4, none]) ⟨1, s4, rfl⟩ (fun j w e hd ⟨k, s4, he⟩ => ?_) (fun e ⟨k, s4, he⟩ => ?_)
    · subst he
      rw [List.getElem?_map, Option.map_eq_some_iff] at hd
      obtain ⟨os, ho, rfl⟩ := hd
      have hol := hle os (List.mem_of_getElem? ho)
      refine ⟨_, rfl, ?_⟩
      dsimp only [List.set]
      let e0 : Mini.Env := [some (0, .int n), some (0, .lst (ls.map ordD)), some (0, d), some (k, .lst ((nextL n (ls.take j)).map ordD)), some (0, ordD os), none]
      have hit : itRange1 (oVar 0) e0 = .ok (rangeL 0 n) e0 := by
        refine tr_eq (tr_range1 ?_)
        walk_at "st"
        exact ⟨⟨by omega, by omega⟩, rfl, rfl⟩
      have hc := comp_ok (own := [5]) (g := gVar 5) (t := tB (op2 fNotInA (oVar 5) (oVar 4))) (elt := op2 fAdd (oVar 4) (oV (vTup [oV (vVar 5)]))) (onI fun x => !decide (x ∈ os)) (addO os) hit rfl fun y hy => by
        obtain ⟨x, rfl, x0, x1⟩ := mem_rangeL.mp hy
        refine ⟨_, [some (0, .int n), some (0, .lst (ls.map ordD)), some (0, d), some (k, .lst ((nextL n (ls.take j)).map ordD)), some (0, ordD os), some (0, .int x)], rfl, tB_ok (n := 0) (op2_ok (x := .bor 5) (y := .bor 4) rfl rfl rfl rfl (nin_tup x os)), fun _ => ⟨[some (0, .int n), some (0, .lst (ls.map ordD)), some (0, d), some (k, .lst ((nextL n (ls.take j)).map ordD)), some (0, ordD os), some (0, .int x)], ?_, rfl⟩, fun _ => rfl⟩
        refine tr_eq ?_
        walk_at "st"
        refine ex_some (fadd_tup (by simp; omega)) ⟨?_, rfl⟩
        show (0, D.tup (os.map D.int ++ [D.int x])) = ((0 : Nat), D.tup ((os ++ [x]).map D.int))
        rw [List.map_append]
        rfl
      rw [rangeL_eq, filter_ints, List.map_map] at hc
      have hmk : ∃ k, mkLst (((rangeI n).filter fun x => !decide (x ∈ os)).map (addO os ∘ D.int)) = (k, .lst ((moreI n os).map ordD)) := by
        refine ⟨(mkLst (((rangeI n).filter fun x => !decide (x ∈ os)).map (addO os ∘ D.int))).1, ?_⟩
        unfold mkLst moreI
        rw [List.map_map, List.map_map]
        rfl
      obtain ⟨k2, hk2⟩ := hmk
      rw [hk2] at hc
      refine st_set (tr_op2 (tr_oVar rfl (tr_oV (tr_of hc ?_))))
      walk_at "st"
      have hj : j < ls.length := (List.getElem?_eq_some_iff.mp ho).1
      have l1 := next_len (n := n) (ls.take j)
      have l2 := more_len n os
      have l3 : (ls.take j).length ≤ 3125 := by rw [List.length_take]; omega
      have l4 : n * (ls.take j).length ≤ 5 * 3125 := Nat.mul_le_mul n5 l3
      refine ex_some (fadd_big (by rw [List.length_map, List.length_map]; omega)) ⟨in_len rfl, 1, some (0, ordD os), ?_⟩
      have htake : ls.take (j + 1) = ls.take j ++ [os] := by
        rw [List.take_add_one, ho]
        rfl
      have hnx : nextL n (ls.take (j + 1)) = nextL n (ls.take j) ++ moreI n os := by
        rw [htake]
        unfold nextL
        rw [List.flatMap_append]
        simp
      rw [hnx, List.map_append]
      rfl
    · subst he
      rw [List.length_map, List.take_length]
      walk_at "st"
      refine ⟨0, some (0, d), some (0, .lst ((nextL n ls).map ordD)), s4, ?_⟩
      show _ = [some (0, .int n), some (0, .lst ((nextL n (layL n i)).map ordD)), some (0, d), some (0, .lst ((nextL n ls).map ordD)), s4, none]
      rw [hls]
      rfl
  · subst he
    have hrl : (rangeL 0 (n : Int)).length = n := by simp [rangeL]
    rw [hrl]
    walk_at "st"
    exact ⟨_, rfl, rfl, rfl⟩
theorem agreeing_ok {n : Nat} {os : List Int} {R : List (List Int × Int)} (n5 : n ≤ 5) (hG : Good n os R) : FT s_law_agreeing [(0, .int n), (0, .tup (R.map rowD))] fun v mu => mu = none ∧ ∃ (k : Nat) (L : List (List Int)), v = (k, .lst (L.map ordD)) ∧ L ≠ [] ∧ L.length ≤ 3125 ∧ ∀ o ∈ L, o.Perm (rangeI n) := by
  unfold s_law_agreeing
  refine ft_st0 rfl ?_
  let e0 : Mini.Env := [some (0, .int n), some (0, .tup (R.map rowD)), none, none, none]
  rw [show startE 5 [(0, D.int n), (0, D.tup (R.map rowD))] = e0 from rfl]
  have hit : itV (vCall0 s_law_orders [oV (vVar 0)]) e0 = .ok ((layL n n).map ordD) e0 := by
    refine tr_eq (tr_itV (tr_call0 ?_))
    walk_at "st"
    refine (law_orders_ok n5).imp fun v mu ⟨hv, hm⟩ => ?_
    subst hv hm
    exact ⟨_, .inl rfl, rfl, rfl⟩
  have hperm : ∀ o ∈ layL n n, o.Perm (rangeI n) := fun o ho => by
    obtain ⟨h1, h2, h3⟩ := lay_mem n n o ho
    exact perm_of h1 h2 h3
  have hc := comp_ok (own := [2]) (g := gVar 2) (t := tB (opN fAll [oV (vComp [3, 4] (itV (vVar 1)) (gTupD [gVar 3, gVar 4]) (Mini.ret true) (op2 fEq (oV (vCall0 s_law_first [oV (vVar 2), oV (vVar 3)])) (oV (op2 fIxA (oVar 4) (oV (vC (.int 0)))))))])) (elt := vVar 2) (onO (agC R)) (fun d => (0, d)) hit rfl fun d hd => by
    obtain ⟨o, ho, rfl⟩ := List.mem_map.mp hd
    let e1 : Mini.Env := [some (0, .int n), some (0, .tup (R.map rowD)), some (0, ordD o), none, none]
    obtain ⟨k2, c2⟩ : ∃ k, vComp [3, 4] (itV (vVar 1)) (gTupD [gVar 3, gVar 4]) (Mini.ret true) (op2 fEq (oV (vCall0 s_law_first [oV (vVar 2), oV (vVar 3)])) (oV (op2 fIxA (oVar 4) (oV (vC (.int 0)))))) e1 = .ok (k + 1, .lst (R.map fun r => .bl (firstI o r.1 == r.2))) e1 := by
      refine comp_map3 rowD (fun r => .bl (firstI o r.1 == r.2)) (show itV (vVar 1) e1 = .ok (R.map rowD) e1 from rfl) rfl fun r hr => ?_
      refine ⟨[some (0, .int n), some (0, .tup (R.map rowD)), some (0, ordD o), some (0, ordD r.1), some (0, ordD [r.2])], rfl, rfl, ?_⟩
      have hm := lot_meets (hperm o ho) (hG.row r hr).1
      refine tr_eq (tr_op2 (tr_oV (tr_call0 ?_)))
      walk_at "st"
      refine ft_of (law_first_ok (.inr rfl) hm) ?_
      walk_at "st"
      exact ⟨rfl, rfl⟩
    rw [onO_ord]
    exact ⟨_, e1, rfl, tB_ok (opN1_ok (oV_ok c2) rfl (all_map3 _ R)), fun _ => ⟨e1, rfl, rfl⟩, fun _ => rfl⟩
  have hfil : ((layL n n).map ordD).filter (onO (agC R)) = ((layL n n).filter (agC R)).map ordD := by
    rw [List.filter_map, show (onO (agC R) ∘ ordD) = agC R from funext fun o => onO_ord _ o]
  rw [hfil] at hc
  obtain ⟨k, hk⟩ := mkLst_id (((layL n n).filter (agC R)).map ordD)
  rw [hk] at hc
  refine st_ret (tr_of hc ⟨_, rfl, rfl, k + 1, (layL n n).filter (agC R), rfl, fun z => ?_, ?_, fun o ho => hperm o (List.mem_filter.mp ho).1⟩)
  · have hos : os ∈ (layL n n).filter (agC R) := by
      refine List.mem_filter.mpr ⟨lay_all n n os (by rw [hG.per.length_eq, len_rangeI]) (hG.per.nodup_iff.mpr (rangeI_nodup n)) fun x hx => hG.per.mem_iff.mp hx, ?_⟩
      refine List.all_eq_true.mpr fun r hr => ?_
      rw [(hG.row r hr).2]
      simp
    rw [z] at hos
    cases hos
  · have h1 := List.length_filter_le (agC R) (layL n n)
    have h2 := lay_len n n
    have h3 := five_pow (n := n) (i := n) n5 n5
    exact Nat.le_trans h1 (Nat.le_trans h2 h3)
end Law

set_option Elab.async false
set_option linter.all false
set_option maxRecDepth 100000
set_option maxHeartbeats 4000000
namespace Law
open PySem Mini
local macro_rules | `(tactic| walk_at "st") => `(tactic| repeat (first
  | with_reducible refine st_seq ?_
  | with_reducible refine st_set ?_
  | with_reducible refine st_ret ?_
  | with_reducible refine st_expr ?_
  | with_reducible refine st_asg ?_
  | with_reducible refine st_for ?_
  | with_reducible refine st_next ?_
  | with_reducible refine st_par2 ?_
  | with_reducible refine st_par3 ?_
  | with_reducible refine st_if ?_
  | with_reducible refine tr_oV ?_
  | with_reducible refine tr_resV ?_
  | with_reducible refine tr_vC ?_
  | with_reducible refine tr_op1 ?_
  | with_reducible refine tr_op2 ?_
  | with_reducible refine tr_opN ?_
  | with_reducible refine tr_nil ?_
  | with_reducible refine tr_cons ?_
  | with_reducible refine tr_rnil ?_
  | with_reducible refine tr_rcons ?_
  | with_reducible refine tr_tB ?_
  | with_reducible refine tr_tAnd ?_
  | with_reducible refine tr_tOr ?_
  | with_reducible refine tr_tNot ?_
  | with_reducible refine tr_vBool ?_
  | with_reducible refine tr_vIf ?_
  | with_reducible refine tr_vAnd ?_
  | with_reducible refine tr_vOr ?_
  | with_reducible refine tr_vIsI ?_
  | with_reducible refine tr_range1 ?_
  | with_reducible refine tr_range2 ?_
  | with_reducible refine tr_vRgT ?_
  | with_reducible refine tr_vRgL ?_
  | with_reducible refine tr_call0 ?_
  | with_reducible refine tr_call1 ?_
  | with_reducible refine tr_vNew ?_
  | ((with_reducible apply tr_vApp); · rfl)
  | with_reducible refine tr_vTup ?_
  | with_reducible refine tr_vLst ?_
  | with_reducible refine tr_cutNS ?_
  | with_reducible refine tr_cutSN ?_
  | with_reducible refine ex_itL ?_
  | with_reducible refine ex_itT ?_
  | with_reducible refine tr_itV ?_
  | ((with_reducible apply tr_vVar0); · rfl)
  | ((with_reducible apply tr_vVar); · rfl)
  | ((with_reducible apply tr_oVar); · rfl)
  | ((with_reducible apply tr_resB0); · rfl)
  | ((with_reducible apply tr_resB1); · rfl)
  | ((with_reducible apply tr_resB); · rfl)
  | ((with_reducible apply ex_some); · with_reducible exact feq_int _ _)
  | ((with_reducible apply ex_some); · with_reducible exact fne_int _ _)
  | ((with_reducible apply ex_some); · with_reducible exact in_tup _ _)
  | ((with_reducible apply ex_some); · with_reducible exact in_lst _ _)
  | ((with_reducible apply ex_some); · with_reducible exact nin_tup _ _)
  | ((with_reducible apply ex_some); · with_reducible exact nin_lst _ _)
  | ((with_reducible apply ex_some); · rfl)
  | ((with_reducible apply ex_bl); · rfl)
  | ((with_reducible apply ex_int); · rfl)
  | refine ⟨in_len rfl, ?_⟩
  | refine ⟨fit_l rfl, ?_⟩
  | refine ex_call1 rfl rfl ?_))
theorem some_rows_ok {B : Int} {p : D} (h : PenOk B p) (hB : B ≤ 600000000000) {n : Nat} {os : List Int} {R : List (List Int × Int)} (hG : Good n os R) (hR : R.length ≤ 100) (h0 : R ≠ []) :
    FT s_law_some_rows [(1, p), (0, .tup (R.map rowD))] fun v mu => ∃ (ns : List Int) (p' : D), v = (0, ordD ns) ∧ mu = some (1, p') ∧ 0 < ns.length ∧ ns.length ≤ 5 ∧ (∀ x ∈ ns, 0 ≤ x ∧ x < (R.length : Int)) ∧ PenOk (B + 10) p' := by
  unfold s_law_some_rows
  refine ft_st1 rfl ?_
  have hpos : 0 < R.length := List.length_pos_iff.mpr h0
  rw [show startE 6 [(1, p), (0, D.tup (R.map rowD))] = [some (1, p), some (0, .tup (R.map rowD)), none, none, none, none] from rfl]
  walk_at "st"
  rw [List.length_map]
  obtain ⟨r, p1, h1, r0, r1, hp1⟩ := draw_ok h (by omega) (many := (R.length : Int)) (by omega) (by omega)
  refine ft_of h1 ⟨_, rfl, ?_⟩
  walk_at "st"
  obtain ⟨m, p2, h2, m0, m1, hp2⟩ := draw_ok hp1 (by omega) (many := 4) (by omega) (by omega)
  refine ft_of h2 ⟨_, rfl, ?_⟩
  walk_at "st"
  refine ⟨⟨by omega, by omega⟩, ?_⟩
  dsimp only [List.set]
  refine st_loop (fun i e => ∃ (p : D) (ns : List Int) (s3 s4 : Option Vl), e = [some (1, p), some (0, .tup (R.map rowD)), some (0, ordD ns), s3, s4, none] ∧ PenOk (B + 2 + i) p ∧ ns.length = i + 1 ∧ ∀ x ∈ ns, 0 ≤ x ∧ x < (R.length : Int)) ⟨p2, [r], none, none, rfl, by simpa using hp2.mono (by omega), rfl, fun x hx => by
    rcases List.mem_singleton.mp hx with rfl
    exact ⟨r0, r1⟩⟩ (fun i d e hd ⟨p, ns, s3, s4, he, hp, hl, hr⟩ => ?_) (fun e ⟨p, ns, s3, s4, he, hp, hl, hr⟩ => ?_)
  · subst he
    have hi : i < m.toNat := by
      have := (List.getElem?_eq_some_iff.mp hd).1
      simpa [rangeL] using this
    refine ⟨_, rfl, ?_⟩
    dsimp only [List.set]
    have rl := hr _ (gI_mem (ns := ns) (i := (ns.length : Int) - 1) (by omega) (by omega))
    let e0 : Mini.Env := [some (1, p), some (0, .tup (R.map rowD)), some (0, ordD ns), some (0, d), s4, none]
    have hit : itRange1 (oV (opN fLen [oVar 1])) e0 = .ok (rangeL 0 R.length) e0 := by
      refine tr_eq (tr_range1 ?_)
      walk_at "st"
      rw [List.length_map]
      exact ⟨⟨by omega, by omega⟩, rfl, rfl⟩
    have hc := comp_ok (own := [5]) (g := gVar 5) (t := tB (op2 fInA (oV (op2 fIxA (oV (op2 fIxA (oV (op2 fIxA (oVar 1) (oVar 5))) (oV (vC (.int 1))))) (oV (vC (.int 0))))) (oV (op2 fIxA (oV (op2 fIxA (oVar 1) (oV (op2 fIxA (oVar 2) (oV (op1 fNeg (oV (vC (.int 1))))))))) (oV (vC (.int 0))))))) (elt := vVar 5) (onI fun a => decide ((rowAt R a).2 ∈ (rowAt R (gI ns (ns.length - 1))).1)) (fun d => (0, d)) hit rfl fun y hy => by
      obtain ⟨a, rfl, a0, a1⟩ := mem_rangeL.mp hy
      refine ⟨_, [some (1, p), some (0, .tup (R.map rowD)), some (0, ordD ns), some (0, d), s4, some (0, .int a)], rfl, tB_ok (n := 0) (tr_eq ?_), fun _ => ⟨[some (1, p), some (0, .tup (R.map rowD)), some (0, ordD ns), some (0, d), s4, some (0, .int a)], rfl, rfl⟩, fun _ => rfl⟩
      dsimp only [hide, List.set]
      walk_at "st"
      refine ex_some (ix_row a0 a1) ?_
      walk_at "st"
      refine ex_some (ix_last (by omega)) ?_
      walk_at "st"
      refine ex_some (ix_row rl.1 rl.2) ?_
      walk_at "st"
      exact ⟨rfl, rfl⟩
    rw [rangeL_eq, filter_ints] at hc
    obtain ⟨k2, hk2⟩ := mkLst_id (((rangeI R.length).filter fun a => decide ((rowAt R a).2 ∈ (rowAt R (gI ns (ns.length - 1))).1)).map D.int)
    rw [hk2] at hc
    have hmem : gI ns (ns.length - 1) ∈ (rangeI R.length).filter fun a => decide ((rowAt R a).2 ∈ (rowAt R (gI ns (ns.length - 1))).1) := by
      refine List.mem_filter.mpr ⟨mem_rangeI.mpr rl, ?_⟩
      have hrow : rowAt R (gI ns (ns.length - 1)) ∈ R := by
        unfold rowAt
        rw [List.getD_eq_getElem?_getD, List.getElem?_eq_getElem (by omega)]
        exact List.getElem_mem _
      obtain ⟨q1, q2⟩ := hG.row _ hrow
      have := (firstI_mem (lot_meets hG.per q1)).2
      rw [← q2] at this
      simpa using this
    have hal : ((rangeI R.length).filter fun a => decide ((rowAt R a).2 ∈ (rowAt R (gI ns (ns.length - 1))).1)).length ≤ R.length := by
      have := List.length_filter_le (fun a => decide ((rowAt R a).2 ∈ (rowAt R (gI ns (ns.length - 1))).1)) (rangeI R.length)
      rwa [len_rangeI] at this
    refine st_seq (st_set (tr_of hc ⟨in_len rfl, ?_⟩))
    dsimp only [e0, List.set]
    walk_at "st"
    obtain ⟨y, p3, h3, hy, hp3⟩ := pick_ok hp (by omega) (ds := ((rangeI R.length).filter fun a => decide ((rowAt R a).2 ∈ (rowAt R (gI ns (ns.length - 1))).1)).map D.int) (fun z => by
      rw [List.map_eq_nil_iff] at z
      rw [z] at hmem
      cases hmem) (by rw [List.length_map]; omega)
    obtain ⟨a, ha, rfl⟩ := List.mem_map.mp hy
    obtain ⟨a0, a1⟩ := mem_rangeI.mp (List.mem_filter.mp ha).1
    refine ft_of h3 ⟨_, rfl, ?_⟩
    walk_at "st"
    refine ex_some (fadd_tup (by simp; omega)) ⟨in_len rfl, p3, ns ++ [a], some (0, d), some (0, .lst (((rangeI R.length).filter fun a => decide ((rowAt R a).2 ∈ (rowAt R (gI ns (ns.length - 1))).1)).map D.int)), ?_, hp3.mono (by omega), by rw [List.length_append, hl]; rfl, fun x hx => ?_⟩
    · show _ = [_, _, some (0, D.tup ((ns ++ [a]).map D.int)), _, _, _]
      rw [List.map_append]
      rfl
    · rcases List.mem_append.mp hx with hx | hx
      · exact hr x hx
      · rcases List.mem_singleton.mp hx with rfl
        exact ⟨a0, a1⟩
  · subst he
    have hrl : (rangeL 0 m).length = m.toNat := by simp [rangeL]
    rw [hrl] at hp hl
    walk_at "st"
    exact ⟨_, _, rfl, rfl, ns, p, rfl, rfl, by omega, by omega, hr, hp.mono (by omega)⟩
end Law

set_option Elab.async false
set_option linter.all false
set_option maxRecDepth 100000
set_option maxHeartbeats 4000000
namespace Law
open PySem Mini
local macro_rules | `(tactic| walk_at "st") => `(tactic| repeat (first
  | with_reducible refine st_seq ?_
  | with_reducible refine st_set ?_
  | with_reducible refine st_ret ?_
  | with_reducible refine st_expr ?_
  | with_reducible refine st_asg ?_
  | with_reducible refine st_for ?_
  | with_reducible refine st_next ?_
  | with_reducible refine st_par2 ?_
  | with_reducible refine st_par3 ?_
  | with_reducible refine st_if ?_
  | with_reducible refine tr_oV ?_
  | with_reducible refine tr_resV ?_
  | with_reducible refine tr_vC ?_
  | with_reducible refine tr_op1 ?_
  | with_reducible refine tr_op2 ?_
  | with_reducible refine tr_opN ?_
  | with_reducible refine tr_nil ?_
  | with_reducible refine tr_cons ?_
  | with_reducible refine tr_rnil ?_
  | with_reducible refine tr_rcons ?_
  | with_reducible refine tr_tB ?_
  | with_reducible refine tr_tAnd ?_
  | with_reducible refine tr_tOr ?_
  | with_reducible refine tr_tNot ?_
  | with_reducible refine tr_vBool ?_
  | with_reducible refine tr_vIf ?_
  | with_reducible refine tr_vAnd ?_
  | with_reducible refine tr_vOr ?_
  | with_reducible refine tr_vIsI ?_
  | with_reducible refine tr_range1 ?_
  | with_reducible refine tr_range2 ?_
  | with_reducible refine tr_vRgT ?_
  | with_reducible refine tr_vRgL ?_
  | with_reducible refine tr_call0 ?_
  | with_reducible refine tr_call1 ?_
  | with_reducible refine tr_vNew ?_
  | ((with_reducible apply tr_vApp); · rfl)
  | with_reducible refine tr_vTup ?_
  | with_reducible refine tr_vLst ?_
  | with_reducible refine tr_cutNS ?_
  | with_reducible refine tr_cutSN ?_
  | with_reducible refine ex_itL ?_
  | with_reducible refine ex_itT ?_
  | with_reducible refine tr_itV ?_
  | ((with_reducible apply tr_vVar0); · rfl)
  | ((with_reducible apply tr_vVar); · rfl)
  | ((with_reducible apply tr_oVar); · rfl)
  | ((with_reducible apply tr_resB0); · rfl)
  | ((with_reducible apply tr_resB1); · rfl)
  | ((with_reducible apply tr_resB); · rfl)
  | ((with_reducible apply ex_some); · with_reducible exact feq_int _ _)
  | ((with_reducible apply ex_some); · with_reducible exact fne_int _ _)
  | ((with_reducible apply ex_some); · with_reducible exact in_tup _ _)
  | ((with_reducible apply ex_some); · with_reducible exact in_lst _ _)
  | ((with_reducible apply ex_some); · with_reducible exact nin_tup _ _)
  | ((with_reducible apply ex_some); · with_reducible exact nin_lst _ _)
  | ((with_reducible apply ex_some); · rfl)
  | ((with_reducible apply ex_bl); · rfl)
  | ((with_reducible apply ex_int); · rfl)
  | refine ⟨in_len rfl, ?_⟩
  | refine ⟨fit_l rfl, ?_⟩
  | refine ex_call1 rfl rfl ?_))
/-- what may be passed as steps, as a way -/
def Stp (v : D) : Prop := (∃ ds, v = .tup ds ∧ (∀ d ∈ ds, smallD d = true) ∧ ds.length ≤ 50) ∨ v = .non ∨ v = .int 0
theorem stp_plain {v : D} (h : Stp v) : plainD v = true := by
  rcases h with ⟨ds, rfl, _⟩ | rfl | rfl <;> rfl
theorem stp_tup {v : D} (h : Stp v) : ∀ ds, v = .tup ds → (∀ d ∈ ds, smallD d = true) ∧ ds.length ≤ 100 := fun ds e => by
  rcases h with ⟨ds', rfl, h1, h2⟩ | rfl | rfl
  · cases e
    exact ⟨h1, by omega⟩
  · cases e
  · cases e
theorem stp_all {v : D} (h : Stp v) : ∀ ds, v = .tup ds → ds.all plainD = true := fun ds e => List.all_eq_true.mpr fun d hd => small_plain ((stp_tup h ds e).1 d hd)
theorem ints_small (ns : List Int) : ∀ d ∈ ns.map D.int, smallD d = true := fun d hd => by
  obtain ⟨x, _, rfl⟩ := List.mem_map.mp hd
  rfl
theorem stp_ints {ns : List Int} (h : ns.length ≤ 50) : Stp (ordD ns) := .inl ⟨_, rfl, ints_small ns, by rwa [List.length_map]⟩
theorem small_frz {ds : List D} (h : ∀ d ∈ ds, smallD d = true) (k : Nat) : ds.map (frz k) = ds := by
  have : ds.map (frz k) = ds.map id := List.map_congr_left fun d hd => frz_flat (small_flat (h d hd)) k
  rw [this, List.map_id]
theorem stp_okF {v : D} (h : Stp v) : okF 6 v ∧ frz 6 v = v := by
  rcases h with ⟨ds, rfl, h1, h2⟩ | rfl | rfl
  · refine ⟨okF_tup fun x hx => okF_flat (small_flat (h1 x hx)) 4, ?_⟩
    show D.tup (ds.map (frz 5)) = _
    rw [small_frz h1]
  · exact ⟨okF_flat rfl 5, rfl⟩
  · exact ⟨okF_flat rfl 5, rfl⟩
theorem lst_okF {ds : List D} (h1 : ∀ d ∈ ds, smallD d = true) : okF 6 (.lst ds) ∧ frz 6 (.lst ds) = .tup ds := by
  refine ⟨okF_lst fun x hx => okF_flat (small_flat (h1 x hx)) 4, ?_⟩
  show D.tup (ds.map (frz 5)) = _
  rw [small_frz h1]
theorem up_init {d : D} (h : okF 6 d) : s_Upward_init [(9, .ins 2 [] []), (0, d)] = .ok (0, .non) (some (1, upD (frz 6 d))) := by
  have hf := frozen_ok 6 h
  unfold s_Upward_init
  let e0 : Mini.Env := [some (9, .ins 2 [] []), some (0, d)]
  have c : vCall0 (s_frozen 6) [oV (vVar 1)] e0 = .ok (0, frz 6 d) e0 := call0_ok (seqM_cons_ok (name_val rfl) seqM_nil_ok) rfl hf
  refine mu_nx (e' := [some (1, upD (frz 6 d)), some (0, d)]) ?_ rfl rfl
  unfold sFldS
  exact (bnd_ok (oV_ok c)).trans rfl
theorem ag_init {d : D} (h : okF 6 d) : s_Against_init [(9, .ins 3 [] []), (0, d)] = .ok (0, .non) (some (1, agD (frz 6 d))) := by
  have hf := frozen_ok 6 h
  unfold s_Against_init
  let e0 : Mini.Env := [some (9, .ins 3 [] []), some (0, d)]
  have c : vCall0 (s_frozen 6) [oV (vVar 1)] e0 = .ok (0, frz 6 d) e0 := call0_ok (seqM_cons_ok (name_val rfl) seqM_nil_ok) rfl hf
  refine mu_nx (e' := [some (1, agD (frz 6 d)), some (0, d)]) ?_ rfl rfl
  unfold sFldS
  exact (bnd_ok (oV_ok c)).trans rfl
def orderD (v : D) : D := .ins 1 ["things"] [v]
theorem or_init {d : D} (h : okF 6 d) : s_Order_init [(9, .ins 1 [] []), (0, d)] = .ok (0, .non) (some (1, orderD (frz 6 d))) := by
  have hf := frozen_ok 6 h
  unfold s_Order_init
  let e0 : Mini.Env := [some (9, .ins 1 [] []), some (0, d)]
  have c : vCall0 (s_frozen 6) [oV (vVar 1)] e0 = .ok (0, frz 6 d) e0 := call0_ok (seqM_cons_ok (name_val rfl) seqM_nil_ok) rfl hf
  refine mu_nx (e' := [some (1, orderD (frz 6 d)), some (0, d)]) ?_ rfl rfl
  unfold sFldS
  exact (bnd_ok (oV_ok c)).trans rfl
abbrev LF (s0 : Option Vl) (p : D) (n : Int) (R : List (List Int × Int)) (s4 s5 s6 s7 s8 s9 s10 s11 s12 s13 s14 : Option Vl) : Mini.Env := [s0, some (1, p), some (0, .int n), some (0, .tup (R.map rowD)), s4, s5, s6, s7, s8, s9, s10, s11, s12, s13, s14]
section
variable {s0 s4 s5 s6 s7 s8 s9 s10 s11 s12 s13 s14 : Option Vl} {p : D}
theorem lap_steps {B : Int} (h : PenOk B p) (hB : B ≤ 700000000000) {n : Int} {R : List (List Int × Int)} (hR : R.length ≤ 100) (h0 : R ≠ []) {ns : List Int} (hl : ns.length ≤ 5) {x : Int} :
    St (sIf (tB (op2 fGt (oVar 7) (oV (vC (.int 4))))) (sSeq (sSet 11 (vCall1 s_law_draw [oVar 1, oV (op2 fAdd (oV (opN fLen [oVar 10])) (oV (vC (.int 1))))])) (sSeq (sSet 12 (vCall1 s_law_pick [oVar 1, oV (vLst [oV (opN fLen [oVar 3]), oV (op1 fNeg (oV (vC (.int 1)))), oV (vC .non), oV (vC (.bl true)), oV (vCall1 s_law_draw [oVar 1, oV (opN fLen [oVar 3])])])])) (sSet 10 (vCall1 s_law_pick [oVar 1, oV (vLst [oV (vVar 10), oV (op2 fAdd (oV (op2 fAdd (oV (vCut (oVar 10) none (some (oVar 11)))) (oV (vTup [oV (vVar 12)])))) (oV (vCut (oVar 10) (some (oV (op2 fAdd (oVar 11) (oV (vC (.int 1)))))) none))), oV (op2 fAdd (oV (op2 fAdd (oV (vCut (oVar 10) none (some (oVar 11)))) (oV (vTup [oV (vVar 12)])))) (oV (vCut (oVar 10) (some (oVar 11)) none))), oV (vCut (oVar 10) (some (oV (vC (.int 1)))) none), oV (op1 fRev (oVar 10)), oV (vC .non), oV (vTup []), oV (vC (.int 0))])])))) (sNext))
      (LF s0 p n R s4 s5 s6 (some (0, .int x)) s8 s9 (some (0, ordD ns)) s11 s12 s13 s14)
      (fun e' => ∃ (p' v : D) (s11 s12 : Option Vl), e' = LF s0 p' n R s4 s5 s6 (some (0, .int x)) s8 s9 (some (0, v)) s11 s12 s13 s14 ∧ Stp v ∧ (x ≤ 4 → v = ordD ns) ∧ PenOk (B + 10) p') fun _ _ => False := by
  have hpos : 0 < R.length := List.length_pos_iff.mpr h0
  walk_at "st"
  refine ⟨fun hx => ?_, fun _ => st_next ⟨p, ordD ns, s11, s12, rfl, stp_ints (by omega), fun _ => rfl, h.mono (by omega)⟩⟩
  have hx4 : (4 : Int) < x := by simpa using hx
  generalize hds : ns.map D.int = ds
  have hsm : ∀ d ∈ ds, smallD d = true := hds ▸ ints_small ns
  have hdl : ds.length ≤ 5 := by rw [← hds, List.length_map]; exact hl
  have ho : ordD ns = .tup ds := by rw [← hds]; rfl
  rw [ho]
  walk_at "st"
  obtain ⟨a, p1, h1, a0, a1, hp1⟩ := draw_ok h (by omega) (many := (ds.length : Int) + 1) (by omega) (by omega)
  refine ft_of h1 ⟨_, rfl, ?_⟩
  walk_at "st"
  rw [List.length_map]
  obtain ⟨b, p2, h2, b0, b1, hp2⟩ := draw_ok hp1 (by omega) (many := (R.length : Int)) (by omega) (by omega)
  refine ft_of h2 ⟨_, rfl, ?_⟩
  walk_at "st"
  obtain ⟨odd, p3, h3, hodd, hp3⟩ := pick_ok hp2 (by omega) (ds := [.int R.length, .int (-1), .non, .bl true, .int b]) (by simp) (by simp)
  have hos : smallD odd = true := by
    simp only [List.mem_cons, List.not_mem_nil, or_false] at hodd
    rcases hodd with rfl | rfl | rfl | rfl | rfl <;> rfl
  refine ft_of h3 ⟨_, rfl, ?_⟩
  walk_at "st"
  have l1 := cut_len ds none (some a)
  have l2 := cut_len ds (some (a + 1)) none
  have l3 := cut_len ds (some a) none
  have l4 := cut_len ds (some 1) none
  refine ex_some (fadd_tup (by simp; omega)) ?_
  walk_at "st"
  refine ex_some (fadd_tup (by simp; omega)) ?_
  walk_at "st"
  refine ex_some (fadd_tup (by simp; omega)) ?_
  walk_at "st"
  refine ex_some (fadd_tup (by simp; omega)) ?_
  walk_at "st"
  obtain ⟨v, p4, h4, hv, hp4⟩ := pick_ok hp3 (by omega) (ds := [.tup ds, .tup (cutD ds none (some a) ++ [odd] ++ cutD ds (some (a + 1)) none), .tup (cutD ds none (some a) ++ [odd] ++ cutD ds (some a) none), .tup (cutD ds (some 1) none), .tup ds.reverse, .non, .tup [], .int 0]) (by simp) (by simp)
  refine ft_of h4 ⟨_, rfl, in_len rfl, p4, v, some (0, .int a), some (0, odd), rfl, ?_, fun z => absurd z (by omega), hp4.mono (by omega)⟩
  have hc : ∀ {lo hi}, ∀ x ∈ cutD ds lo hi, smallD x = true := fun x hx => hsm x (cut_mem hx)
  have ho1 : ∀ x ∈ [odd], smallD x = true := fun x hx => by
    rcases List.mem_singleton.mp hx with rfl
    exact hos
  have ha : ∀ {xs ys : List D}, (∀ x ∈ xs, smallD x = true) → (∀ x ∈ ys, smallD x = true) → ∀ x ∈ xs ++ ys, smallD x = true := fun h1 h2 x hx => by
    rcases List.mem_append.mp hx with hx | hx
    · exact h1 x hx
    · exact h2 x hx
  simp only [List.mem_cons, List.not_mem_nil, or_false] at hv
  rcases hv with rfl | rfl | rfl | rfl | rfl | rfl | rfl | rfl
  · exact .inl ⟨_, rfl, hsm, by omega⟩
  · exact .inl ⟨_, rfl, ha (ha hc ho1) hc, by simp; omega⟩
  · exact .inl ⟨_, rfl, ha (ha hc ho1) hc, by simp; omega⟩
  · exact .inl ⟨_, rfl, hc, by omega⟩
  · exact .inl ⟨_, rfl, fun x hx => hsm x (List.mem_reverse.mp hx), by simp; omega⟩
  · exact .inr (.inl rfl)
  · exact .inl ⟨_, rfl, (fun _ h => nomatch h), by simp⟩
  · exact .inr (.inr rfl)
theorem lap_way {B : Int} (h : PenOk B p) (hB : B ≤ 700000000000) {n : Nat} (n1 : n ≤ 5) {R : List (List Int × Int)} {ns : List Int} (hl : ns.length ≤ 5) {x : Int} :
    St (sIf (tB (op2 fGt (oVar 7) (oV (vC (.int 6))))) (sSet 14 (vCall1 s_law_pick [oVar 1, oV (vLst [oV (vVar 14), oV (op1 fRev (oVar 14)), oV (vCut (oVar 14) (some (oV (vC (.int 1)))) none), oV (op2 fAdd (oVar 14) (oV (vTup [oV (vC (.int 0))]))), oV (op2 fAdd (oV (vCut (oVar 14) none (some (oV (op1 fNeg (oV (vC (.int 1)))))))) (oV (vTup [oV (vC .non)]))), oV (vC .non), oV (opN fTuple [oV (vCall1 s_law_shuffled [oVar 1, oV (vRg false (itRange1 (oVar 2)))])]), oV (op2 fAdd (oV (vTup [oV (vC (.bl true))])) (oV (vCut (oVar 14) (some (oV (vC (.int 1)))) none))), oV (vC (.int 0))])])) (sNext))
      (LF s0 p n R s4 s5 s6 (some (0, .int x)) s8 s9 s10 s11 s12 s13 (some (0, ordD ns)))
      (fun e' => ∃ (p' v : D), e' = LF s0 p' n R s4 s5 s6 (some (0, .int x)) s8 s9 s10 s11 s12 s13 (some (0, v)) ∧ Stp v ∧ (x ≤ 6 → v = ordD ns) ∧ PenOk (B + 10) p') fun _ _ => False := by
  walk_at "st"
  refine ⟨fun hx => ?_, fun _ => st_next ⟨p, ordD ns, rfl, stp_ints (by omega), fun _ => rfl, h.mono (by omega)⟩⟩
  have hx6 : (6 : Int) < x := by simpa using hx
  generalize hds : ns.map D.int = ds
  have hsm : ∀ d ∈ ds, smallD d = true := hds ▸ ints_small ns
  have hdl : ds.length ≤ 5 := by rw [← hds, List.length_map]; exact hl
  have ho : ordD ns = .tup ds := by rw [← hds]; rfl
  rw [ho]
  have l2 := cut_len ds none (some (-1))
  have l4 := cut_len ds (some 1) none
  walk_at "st"
  refine ex_some (fadd_tup (by simp; omega)) ?_
  walk_at "st"
  refine ex_some (fadd_tup (by simp; omega)) ?_
  walk_at "st"
  refine ⟨⟨by omega, by omega⟩, ?_⟩
  walk_at "st"
  obtain ⟨ms, p1, h1, hperm, hp1⟩ := shuf_ok h (n := n) (by omega) (by omega)
  have hml : ms.length = n := by rw [hperm.length_eq, len_rangeI]
  refine ft_of h1 ⟨_, rfl, ?_⟩
  walk_at "st"
  refine ex_some (fadd_tup (by simp; omega)) ?_
  walk_at "st"
  obtain ⟨v, p4, h4, hv, hp4⟩ := pick_ok hp1 (by omega) (ds := [.tup ds, .tup ds.reverse, .tup (cutD ds (some 1) none), .tup (ds ++ [.int 0]), .tup (cutD ds none (some (-1)) ++ [.non]), .non, .tup (ms.map D.int), .tup ([.bl true] ++ cutD ds (some 1) none), .int 0]) (by simp) (by simp)
  refine ft_of h4 ⟨_, rfl, in_len rfl, p4, v, rfl, ?_, fun z => absurd z (by omega), hp4.mono (by omega)⟩
  have hc : ∀ {lo hi}, ∀ x ∈ cutD ds lo hi, smallD x = true := fun x hx => hsm x (cut_mem hx)
  have ho1 : ∀ {o : D}, smallD o = true → ∀ x ∈ [o], smallD x = true := fun h x hx => by
    rcases List.mem_singleton.mp hx with rfl
    exact h
  have ha : ∀ {xs ys : List D}, (∀ x ∈ xs, smallD x = true) → (∀ x ∈ ys, smallD x = true) → ∀ x ∈ xs ++ ys, smallD x = true := fun h1 h2 x hx => by
    rcases List.mem_append.mp hx with hx | hx
    · exact h1 x hx
    · exact h2 x hx
  simp only [List.mem_cons, List.not_mem_nil, or_false] at hv
  rcases hv with rfl | rfl | rfl | rfl | rfl | rfl | rfl | rfl | rfl
  · exact .inl ⟨_, rfl, hsm, by omega⟩
  · exact .inl ⟨_, rfl, fun x hx => hsm x (List.mem_reverse.mp hx), by simp; omega⟩
  · exact .inl ⟨_, rfl, hc, by omega⟩
  · exact .inl ⟨_, rfl, ha hsm (ho1 rfl), by simp; omega⟩
  · exact .inl ⟨_, rfl, ha hc (ho1 rfl), by simp; omega⟩
  · exact .inr (.inl rfl)
  · exact .inl ⟨_, rfl, ints_small ms, by rw [List.length_map]; omega⟩
  · exact .inl ⟨_, rfl, ha (ho1 rfl) hc, by simp; omega⟩
  · exact .inr (.inr rfl)
end
end Law

set_option Elab.async false
set_option linter.all false
set_option maxRecDepth 100000
set_option maxHeartbeats 4000000
namespace Law
open PySem Mini
local macro_rules | `(tactic| walk_at "st") => `(tactic| repeat (first
  | with_reducible refine st_seq ?_
  | with_reducible refine st_set ?_
  | with_reducible refine st_ret ?_
  | with_reducible refine st_expr ?_
  | with_reducible refine st_asg ?_
  | with_reducible refine st_for ?_
  | with_reducible refine st_next ?_
  | with_reducible refine st_par2 ?_
  | with_reducible refine st_par3 ?_
  | with_reducible refine st_if ?_
  | with_reducible refine tr_oV ?_
  | with_reducible refine tr_resV ?_
  | with_reducible refine tr_vC ?_
  | with_reducible refine tr_op1 ?_
  | with_reducible refine tr_op2 ?_
  | with_reducible refine tr_opN ?_
  | with_reducible refine tr_nil ?_
  | with_reducible refine tr_cons ?_
  | with_reducible refine tr_rnil ?_
  | with_reducible refine tr_rcons ?_
  | with_reducible refine tr_tB ?_
  | with_reducible refine tr_tAnd ?_
  | with_reducible refine tr_tOr ?_
  | with_reducible refine tr_tNot ?_
  | with_reducible refine tr_vBool ?_
  | with_reducible refine tr_vIf ?_
  | with_reducible refine tr_vAnd ?_
  | with_reducible refine tr_vOr ?_
  | with_reducible refine tr_vIsI ?_
  | with_reducible refine tr_range1 ?_
  | with_reducible refine tr_range2 ?_
  | with_reducible refine tr_vRgT ?_
  | with_reducible refine tr_vRgL ?_
  | with_reducible refine tr_call0 ?_
  | with_reducible refine tr_call1 ?_
  | with_reducible refine tr_vNew ?_
  | ((with_reducible apply tr_vApp); · rfl)
  | with_reducible refine tr_vTup ?_
  | with_reducible refine tr_vLst ?_
  | with_reducible refine tr_cutNS ?_
  | with_reducible refine tr_cutSN ?_
  | with_reducible refine ex_itL ?_
  | with_reducible refine ex_itT ?_
  | with_reducible refine tr_itV ?_
  | ((with_reducible apply tr_vVar0); · rfl)
  | ((with_reducible apply tr_vVar); · rfl)
  | ((with_reducible apply tr_oVar); · rfl)
  | ((with_reducible apply tr_resB0); · rfl)
  | ((with_reducible apply tr_resB1); · rfl)
  | ((with_reducible apply tr_resB); · rfl)
  | ((with_reducible apply ex_some); · with_reducible exact feq_int _ _)
  | ((with_reducible apply ex_some); · with_reducible exact fne_int _ _)
  | ((with_reducible apply ex_some); · with_reducible exact in_tup _ _)
  | ((with_reducible apply ex_some); · with_reducible exact in_lst _ _)
  | ((with_reducible apply ex_some); · with_reducible exact nin_tup _ _)
  | ((with_reducible apply ex_some); · with_reducible exact nin_lst _ _)
  | ((with_reducible apply ex_some); · rfl)
  | ((with_reducible apply ex_bl); · rfl)
  | ((with_reducible apply ex_int); · rfl)
  | refine ⟨in_len rfl, ?_⟩
  | refine ⟨fit_l rfl, ?_⟩
  | refine ex_call1 rfl rfl ?_))
section
variable {s0 s4 s5 s6 s7 s8 s9 s10 s11 s12 s13 s14 : Option Vl} {p : D}
theorem row_mem {R : List (List Int × Int)} {r : Int} (h0 : 0 ≤ r) (h1 : r < R.length) : rowAt R r ∈ R := by
  unfold rowAt
  rw [List.getD_eq_getElem?_getD, List.getElem?_eq_getElem (by omega)]
  exact List.getElem_mem _
theorem lap_ij {B : Int} (h : PenOk B p) (hB : B ≤ 700000000000) {n : Nat} (n1 : n ≤ 100) {os : List Int} {R : List (List Int × Int)} (hG : Good n os R) (hR : R.length ≤ 100) {ns : List Int} (hpos : 0 < ns.length) (hr : ∀ x ∈ ns, 0 ≤ x ∧ x < (R.length : Int)) {x i j : Int} (i0 : 0 ≤ i) (i1 : i < n) (j0 : 0 ≤ j) (j1 : j < n) :
    St (sIf (tB (op2 fLt (oVar 7) (oV (vC (.int 9))))) (sPar2 8 9 (op2 fIxA (oV (op2 fIxA (oV (op2 fIxA (oVar 3) (oV (op2 fIxA (oVar 10) (oV (vC (.int 0))))))) (oV (vC (.int 1))))) (oV (vC (.int 0)))) (vCall1 s_law_pick [oVar 1, oV (opN fList [oV (op2 fIxA (oV (op2 fIxA (oVar 3) (oV (op2 fIxA (oVar 10) (oV (op1 fNeg (oV (vC (.int 1))))))))) (oV (vC (.int 0))))])])) (sNext))
      (LF s0 p n R s4 s5 s6 (some (0, .int x)) (some (0, .int i)) (some (0, .int j)) (some (0, ordD ns)) s11 s12 s13 s14)
      (fun e' => ∃ (p' : D) (i j : Int), e' = LF s0 p' n R s4 s5 s6 (some (0, .int x)) (some (0, .int i)) (some (0, .int j)) (some (0, ordD ns)) s11 s12 s13 s14 ∧ 0 ≤ i ∧ i < n ∧ 0 ≤ j ∧ j < n ∧ PenOk (B + 1) p') fun _ _ => False := by
  walk_at "st"
  refine ⟨fun _ => ?_, fun _ => st_next ⟨p, i, j, rfl, i0, i1, j0, j1, h.mono (by omega)⟩⟩
  have r0 := hr _ (gI_mem (ns := ns) (i := 0) (by omega) (by omega))
  have rl := hr _ (gI_mem (ns := ns) (i := (ns.length : Int) - 1) (by omega) (by omega))
  obtain ⟨q1, q2⟩ := hG.row _ (row_mem r0.1 r0.2)
  obtain ⟨q3, q4⟩ := hG.row _ (row_mem rl.1 rl.2)
  have hc := (firstI_mem (lot_meets hG.per q1)).2
  rw [← q2] at hc
  obtain ⟨c0, c1⟩ := q1.2.2 _ hc
  walk_at "st"
  refine ex_some (ix_tI (i := 0) (by omega) (by omega)) ?_
  walk_at "st"
  refine ex_some (ix_row r0.1 r0.2) ?_
  walk_at "st"
  refine ex_some (ix_last hpos) ?_
  walk_at "st"
  refine ex_some (ix_row rl.1 rl.2) ?_
  walk_at "st"
  have hlen := lot_len q3.2.1 q3.2.2
  obtain ⟨y, p1, h1, hy, hp1⟩ := pick_ok h (by omega) (ds := (rowAt R (gI ns (ns.length - 1))).1.map D.int) (fun z => q3.1 (List.map_eq_nil_iff.mp z)) (by rw [List.length_map]; omega)
  obtain ⟨b, hb, rfl⟩ := List.mem_map.mp hy
  obtain ⟨b0, b1⟩ := q3.2.2 b hb
  refine ft_of h1 ⟨_, rfl, ?_⟩
  walk_at "st"
  exact ⟨p1, _, b, rfl, c0, c1, b0, b1, hp1⟩
end
theorem up_no {n : Nat} {os : List Int} {R : List (List Int × Int)} {nd : List D} (hn : nd.length = n) (n0 : 0 < n) (n1 : n ≤ 100) (hG : Good n os R) (hR : R.length ≤ 100) {i j : Int} (i0 : 0 ≤ i) (i1 : i < n) (j0 : 0 ≤ j) (j1 : j < n) {d : D} (h : tyAny [.own 2] d = some false) :
    s_upward_holds [(0, chD nd R), (0, .int i), (0, .int j), (0, d)] = .ok (0, .bl false) none := by
  unfold s_upward_holds
  refine ft_eq (ft_st0 rfl ?_)
  rw [show startE 7 [(0, chD nd R), (0, D.int i), (0, D.int j), (0, d)] = [some (0, chD nd R), some (0, .int i), some (0, .int j), some (0, d), none, none, none] from rfl]
  refine st_seq (st_expr (tr_call0 ?_))
  walk_at "st"
  refine ft_of (two_things_ok hn n0 n1 hG hR i0 i1 j0 j1) ?_
  refine st_seq (st_if (tr_tOr (tr_tNot (tr_tB (tr_vIsI ?_)))))
  walk_at "st"
  refine ⟨_, h, ex_bl rfl ?_⟩
  refine ⟨fun _ => ⟨fun _ => ?_, fun z => nomatch z⟩, fun z => nomatch z⟩
  walk_at "st"
  exact ⟨_, rfl, rfl, rfl⟩
theorem ag_no {n : Nat} {os : List Int} {R : List (List Int × Int)} {nd : List D} (hn : nd.length = n) (n0 : 0 < n) (n1 : n ≤ 100) (hG : Good n os R) (hR : R.length ≤ 100) {i j : Int} (i0 : 0 ≤ i) (i1 : i < n) (j0 : 0 ≤ j) (j1 : j < n) {d : D} (h : tyAny [.own 3] d = some false) :
    s_against_holds [(0, chD nd R), (0, .int i), (0, .int j), (0, d)] = .ok (0, .bl false) none := by
  unfold s_against_holds
  refine ft_eq (ft_st0 rfl ?_)
  rw [show startE 4 [(0, chD nd R), (0, D.int i), (0, D.int j), (0, d)] = [some (0, chD nd R), some (0, .int i), some (0, .int j), some (0, d)] from rfl]
  refine st_seq (st_expr (tr_call0 ?_))
  walk_at "st"
  refine ft_of (two_things_ok hn n0 n1 hG hR i0 i1 j0 j1) ?_
  refine st_seq (st_if (tr_tOr (tr_tNot (tr_tB (tr_vIsI ?_)))))
  walk_at "st"
  refine ⟨_, h, ex_bl rfl ?_⟩
  refine ⟨fun _ => ⟨fun _ => ?_, fun z => nomatch z⟩, fun z => nomatch z⟩
  walk_at "st"
  exact ⟨_, rfl, rfl, rfl⟩
/-- what is let by neither judge -/
def NoneD (nd : List D) (R : List (List Int × Int)) (d : D) : Prop := s_upward_holds [(0, chD nd R), (0, .int 0), (0, .int 1), (0, d)] = .ok (0, .bl false) none ∧ s_against_holds [(0, chD nd R), (0, .int 0), (0, .int 1), (0, d)] = .ok (0, .bl false) none
section
variable {n : Nat} {os : List Int} {R : List (List Int × Int)} {nd : List D}
theorem none_flat (hn : nd.length = n) (n2 : 2 ≤ n) (n1 : n ≤ 100) (hG : Good n os R) (hR : R.length ≤ 100) {d : D} (h2 : tyAny [.own 2] d = some false) (h3 : tyAny [.own 3] d = some false) : NoneD nd R d :=
  ⟨up_no hn (by omega) n1 hG hR (by omega) (by omega) (by omega) (by omega) h2, ag_no hn (by omega) n1 hG hR (by omega) (by omega) (by omega) (by omega) h3⟩
theorem none_up (hn : nd.length = n) (n2 : 2 ≤ n) (n1 : n ≤ 100) (hG : Good n os R) (hR : R.length ≤ 100) {v : D} (hv : plainD v = true) (hp : ∀ ds, v = .tup ds → ds = []) : NoneD nd R (upD v) := by
  refine ⟨?_, ag_no hn (by omega) n1 hG hR (by omega) (by omega) (by omega) (by omega) rfl⟩
  rw [up_holds_ok hn (by omega) n1 hG hR (by omega) (by omega) (by omega) (by omega) hv fun ds e => by
    rw [hp ds e]
    exact ⟨(fun _ h => nomatch h), by simp⟩]
  cases ht : isTupD v with
  | false => rw [upR_no ht]
  | true =>
    obtain ⟨ds, rfl⟩ := tup_of ht
    rw [hp ds rfl]
    rfl
theorem none_ag (hn : nd.length = n) (n2 : 2 ≤ n) (n1 : n ≤ 100) (hG : Good n os R) (hR : R.length ≤ 100) {v : D} (hv : plainD v = true) (hp : ∀ ds, v = .tup ds → ds = []) : NoneD nd R (agD v) := by
  refine ⟨up_no hn (by omega) n1 hG hR (by omega) (by omega) (by omega) (by omega) rfl, ?_⟩
  rw [ag_holds_ok hn (by omega) n1 hG hR (by omega) (by omega) (by omega) (by omega) hv fun ds e => by
    rw [hp ds e]
    rfl]
  have : agR n R 0 1 v = false := by
    unfold agR
    cases hw : whT n v with
    | false => rfl
    | true =>
      obtain ⟨ns, rfl, hperm⟩ := wh_tup hw
      have := hp _ rfl
      rw [List.map_eq_nil_iff] at this
      subst this
      have := hperm.length_eq
      rw [len_rangeI, List.length_nil] at this
      omega
  rw [this]
end
theorem fne_bl (b : Bool) : fNe (.bl b) (.bl b) = some (0, .bl false) := by cases b <;> rfl
end Law

set_option Elab.async false
set_option linter.all false
set_option maxRecDepth 100000
set_option maxHeartbeats 4000000
namespace Law
open PySem Mini
local macro_rules | `(tactic| walk_at "st") => `(tactic| repeat (first
  | with_reducible refine st_seq ?_
  | with_reducible refine st_set ?_
  | with_reducible refine st_ret ?_
  | with_reducible refine st_expr ?_
  | with_reducible refine st_asg ?_
  | with_reducible refine st_for ?_
  | with_reducible refine st_next ?_
  | with_reducible refine st_par2 ?_
  | with_reducible refine st_par3 ?_
  | with_reducible refine st_if ?_
  | with_reducible refine tr_oV ?_
  | with_reducible refine tr_resV ?_
  | with_reducible refine tr_vC ?_
  | with_reducible refine tr_op1 ?_
  | with_reducible refine tr_op2 ?_
  | with_reducible refine tr_opN ?_
  | with_reducible refine tr_nil ?_
  | with_reducible refine tr_cons ?_
  | with_reducible refine tr_rnil ?_
  | with_reducible refine tr_rcons ?_
  | with_reducible refine tr_tB ?_
  | with_reducible refine tr_tAnd ?_
  | with_reducible refine tr_tOr ?_
  | with_reducible refine tr_tNot ?_
  | with_reducible refine tr_vBool ?_
  | with_reducible refine tr_vIf ?_
  | with_reducible refine tr_vAnd ?_
  | with_reducible refine tr_vOr ?_
  | with_reducible refine tr_vIsI ?_
  | with_reducible refine tr_range1 ?_
  | with_reducible refine tr_range2 ?_
  | with_reducible refine tr_vRgT ?_
  | with_reducible refine tr_vRgL ?_
  | with_reducible refine tr_call0 ?_
  | with_reducible refine tr_call1 ?_
  | with_reducible refine tr_vNew ?_
  | ((with_reducible apply tr_vApp); · rfl)
  | with_reducible refine tr_vTup ?_
  | with_reducible refine tr_vLst ?_
  | with_reducible refine tr_cutNS ?_
  | with_reducible refine tr_cutSN ?_
  | with_reducible refine ex_itL ?_
  | with_reducible refine ex_itT ?_
  | with_reducible refine tr_itV ?_
  | ((with_reducible apply tr_vVar0); · rfl)
  | ((with_reducible apply tr_vVar); · rfl)
  | ((with_reducible apply tr_oVar); · rfl)
  | ((with_reducible apply tr_resB0); · rfl)
  | ((with_reducible apply tr_resB1); · rfl)
  | ((with_reducible apply tr_resB); · rfl)
  | ((with_reducible apply ex_some); · with_reducible exact feq_int _ _)
  | ((with_reducible apply ex_some); · with_reducible exact fne_int _ _)
  | ((with_reducible apply ex_some); · with_reducible exact in_tup _ _)
  | ((with_reducible apply ex_some); · with_reducible exact in_lst _ _)
  | ((with_reducible apply ex_some); · with_reducible exact nin_tup _ _)
  | ((with_reducible apply ex_some); · with_reducible exact nin_lst _ _)
  | ((with_reducible apply ex_some); · rfl)
  | ((with_reducible apply ex_bl); · rfl)
  | ((with_reducible apply ex_int); · rfl)
  | refine ⟨in_len rfl, ?_⟩
  | refine ⟨fit_l rfl, ?_⟩
  | refine ex_call1 rfl rfl ?_))
/-- two papers, == or != -/
theorem tr_eqO {neg : Bool} {a b : M Vl} {e : Mini.Env} {Q : Vl → Mini.Env → Prop} (h : Tr a e fun v e1 => Tr b e1 fun w e2 => ∃ u, fEqO teq neg v.2 w.2 = some u ∧ Q u e2) : Tr (vEqO teq neg a b) e Q := by
  obtain ⟨v, e1, h1, w, e2, h2, u, h3, q⟩ := h
  refine ⟨u, e2, ?_, q⟩
  unfold vEqO
  rw [seqM_two, bnd_ok (oV_ok h1), bnd_ok (oV_ok h2)]
  show opt (fEqO teq neg v.2 w.2) e2 = _
  rw [h3]
  rfl
theorem eqv_bl (b : Bool) : (!(PyData.bool b).eqv (PyData.bool b)) = false := by cases b <;> rfl
theorem law_ft (ns : List Int) : FT s_law [(0, .scr ns)] fun v mu => v.2 = .bl true := by
  unfold s_law
  refine ft_st0 rfl ?_
  rw [show startE 15 [(0, D.scr ns)] = [some (0, .scr ns), none, none, none, none, none, none, none, none, none, none, none, none, none, none] from rfl]
  obtain ⟨p0, hpen, hp0⟩ := pen_ok ns
  walk_at "st"
  refine ft_of hpen ?_
  walk_at "st"
  obtain ⟨d, p1, h1, hd, hp1⟩ := pick_ok hp0 (by omega) (ds := [.int 4, .int 3, .int 5, .int 2]) (by simp) (by simp)
  obtain ⟨n, rfl, n2, n5⟩ : ∃ n : Nat, d = .int n ∧ 2 ≤ n ∧ n ≤ 5 := by
    simp only [List.mem_cons, List.not_mem_nil, or_false] at hd
    rcases hd with rfl | rfl | rfl | rfl
    · exact ⟨4, rfl, by omega, by omega⟩
    · exact ⟨3, rfl, by omega, by omega⟩
    · exact ⟨5, rfl, by omega, by omega⟩
    · exact ⟨2, rfl, by omega, by omega⟩
  refine ft_of h1 ⟨_, rfl, ?_⟩
  walk_at "st"
  obtain ⟨z, p2, h2, z0, z1, hp2⟩ := draw_ok hp1 (by omega) (many := 5) (by omega) (by omega)
  refine ft_of h2 ⟨_, rfl, ?_⟩
  walk_at "st"
  obtain ⟨zn, hzn⟩ : ∃ k : Nat, 2 + z = (k : Int) := ⟨(2 + z).toNat, by omega⟩
  rw [hzn]
  refine (single_rows_ok hp2 (by omega) (n := n) (z := zn) n2 (by omega) (by omega) (by omega)).imp fun v mu ⟨os, R, p3, hv, hm, hG, hR0, hRl, hp3⟩ => ?_
  subst hv hm
  refine ⟨_, rfl, _, rfl, ?_⟩
  dsimp only [List.set]
  obtain ⟨nd, hth, hnd, hnl⟩ := names_ok n2 n5
  have hR : R.length ≤ 100 := by omega
  refine st_seq (st_par2 (tr_vNew (tr_cons (tr_oV (tr_call0 ?_)))))
  walk_at "st"
  refine ft_of hth ?_
  walk_at "st"
  refine ft_of (choices_init hnd (by omega) hnl hG hR) ⟨_, rfl, rfl, ?_⟩
  walk_at "st"
  refine (agreeing_ok n5 hG).imp fun v mu ⟨hm, k6, L, hv, hL0, hLl, hLp⟩ => ?_
  subst hm hv
  refine ⟨in_len rfl, in_len rfl, ?_⟩
  dsimp only [List.set]
  have hL5 : ∀ o ∈ L, o.length ≤ 5 := fun o ho => by
    rw [(hLp o ho).length_eq, len_rangeI]
    exact n5
  have hn100 : n ≤ 100 := by omega
  have hp3' : PenOk 30000 p3 := hp3.mono (by omega)
  refine st_seq (st_for (tr_range1 ?_))
  walk_at "st"
  refine ⟨⟨by omega, by omega⟩, ?_⟩
  refine st_loop (fun i e => ∃ (p : D) (k5 k6 : Nat) (s7 s8 s9 s10 s11 s12 s13 s14 : Option Vl), e = LF (some (0, .scr ns)) p n R (some (0, ordD os)) (some (k5, chD nd R)) (some (k6, .lst (L.map ordD))) s7 s8 s9 s10 s11 s12 s13 s14 ∧ PenOk (30000 + i * 100) p) ⟨p3, 1, k6, none, none, none, none, none, none, none, none, rfl, by simpa using hp3'⟩ (fun i d e hd ⟨p, k5, k6, s7, s8, s9, s10, s11, s12, s13, s14, he, hp⟩ => ?_) (fun e ⟨p, k5, k6, s7, s8, s9, s10, s11, s12, s13, s14, he, hp⟩ => ?_)
  · subst he
    have hi : i < 16 := by
      have := (List.getElem?_eq_some_iff.mp hd).1
      simpa [rangeL] using this
    obtain ⟨x, rfl, x0, x1⟩ := mem_rangeL.mp (List.mem_of_getElem? hd)
    have gv : gVar 7 (.int x) (LF (some (0, .scr ns)) p n R (some (0, ordD os)) (some (k5, chD nd R)) (some (k6, .lst (L.map ordD))) s7 s8 s9 s10 s11 s12 s13 s14) = some (LF (some (0, .scr ns)) p n R (some (0, ordD os)) (some (k5, chD nd R)) (some (k6, .lst (L.map ordD))) (some (0, .int x)) s8 s9 s10 s11 s12 s13 s14) := rfl
    refine ⟨_, gv, ?_⟩
    refine st_seq (st_par2 ?_)
    walk_at "st"
    obtain ⟨a, q1, e1, a0, a1, hq1⟩ := draw_ok hp (by omega) (many := (n : Int)) (by omega) (by omega)
    refine ft_of e1 ⟨_, rfl, ?_⟩
    walk_at "st"
    obtain ⟨b, q2, e2, b0, b1, hq2⟩ := draw_ok hq1 (by omega) (many := (n : Int)) (by omega) (by omega)
    refine ft_of e2 ⟨_, rfl, in_len rfl, in_len rfl, ?_⟩
    dsimp only [List.set]
    refine st_seq (st_set ?_)
    walk_at "st"
    refine (some_rows_ok hq2 (by omega) hG hR hR0).imp fun v mu ⟨ms, q3, hv, hm, hms0, hms5, hmr, hq3⟩ => ?_
    subst hv hm
    refine ⟨_, rfl, in_len rfl, ?_⟩
    dsimp only [List.set]
    refine st_seq ?_
    obtain ⟨f, e, hif, hq⟩ := lap_ij (s0 := some (0, .scr ns)) (s4 := some (0, ordD os)) (s5 := some (k5, chD nd R)) (s6 := some (k6, .lst (L.map ordD))) (s11 := s11) (s12 := s12) (s13 := s13) (s14 := s14) (x := x) hq3 (by omega) hn100 hG hR hms0 hmr a0 a1 b0 b1
    cases f with
    | rt v => exact hq.elim
    | bk => exact hq.elim
    | ct => exact hq.elim
    | nx =>
      obtain ⟨q4, i', j', rfl, i0, i1, j0, j1, hq4⟩ := hq
      refine st_of hif ?_
      show St _ _ _ _
      refine st_seq ?_
      obtain ⟨f, e, hif, hq⟩ := lap_steps (s0 := some (0, .scr ns)) (s4 := some (0, ordD os)) (s5 := some (k5, chD nd R)) (s6 := some (k6, .lst (L.map ordD))) (s8 := some (0, .int i')) (s9 := some (0, .int j')) (s11 := s11) (s12 := s12) (s13 := s13) (s14 := s14) (n := n) (x := x) hq4 (by omega) hR hR0 hms5
      cases f with
      | rt v => exact hq.elim
      | bk => exact hq.elim
      | ct => exact hq.elim
      | nx =>
        obtain ⟨q5, v, t11, t12, rfl, hv, hv4, hq5⟩ := hq
        refine st_of hif ?_
        show St _ _ _ _
        obtain ⟨hvF, hvz⟩ := stp_okF hv
        have hval : Tr (vNew 2 s_Upward_init [oV (vIf (tB (op2 fEq (oVar 7) (oV (vC (.int 1))))) (opN fList [oVar 10]) (vVar 10))]) (LF (some (0, .scr ns)) q5 n R (some (0, ordD os)) (some (0, chD nd R)) (some (k6, .lst (L.map ordD))) (some (0, .int x)) (some (0, .int i')) (some (0, .int j')) (some (0, v)) t11 t12 s13 s14) fun w e' => w = (1, upD v) ∧ e' = LF (some (0, .scr ns)) q5 n R (some (0, ordD os)) (some (0, chD nd R)) (some (k6, .lst (L.map ordD))) (some (0, .int x)) (some (0, .int i')) (some (0, .int j')) (some (0, v)) t11 t12 s13 s14 := by
          refine tr_vNew (tr_cons (tr_oV (tr_vIf ?_)))
          walk_at "st"
          refine ⟨fun hx => ?_, fun _ => ?_⟩
          · have hx1 : x = 1 := by simpa using hx
            have := hv4 (by omega)
            subst this
            obtain ⟨k1, k2⟩ := lst_okF (ints_small ms)
            walk_at "st"
            refine ft_of (up_init k1) ⟨_, rfl, rfl, ?_, rfl⟩
            rw [k2]
            rfl
          · walk_at "st"
            refine ft_of (up_init hvF) ⟨_, rfl, rfl, ?_, rfl⟩
            rw [hvz]
        refine st_seq (st_set (tr_call0 ?_))
        refine tr_cons (tr_oV (tr_vVar rfl ?_))
        refine tr_cons (tr_oV (tr_vVar0 rfl ?_))
        refine tr_cons (tr_oV (tr_vVar0 rfl ?_))
        refine tr_cons (tr_oV ?_)
        refine hval.imp fun w e' ⟨hw, he⟩ => ?_
        subst hw he
        walk_at "st"
        refine ft_of (up_holds_ok hnd (by omega) hn100 hG hR i0 i1 j0 j1 (stp_plain hv) (stp_tup hv)) ⟨in_len rfl, ?_⟩
        dsimp only [List.set]
        refine st_seq (st_if ?_)
        walk_at "st"
        refine ⟨(fun z => nomatch z), fun _ => ?_⟩
        walk_at "st"
        refine ft_of (law_up_ok hR (stp_plain hv) (stp_tup hv)) ?_
        walk_at "st"
        refine ⟨(fun z => Bool.noConfusion (z.symm.trans (eqv_bl _))), fun _ => st_next ?_⟩
        refine st_seq (st_set ?_)
        walk_at "st"
        obtain ⟨y, q6, e6, hy, hq6⟩ := pick_ok hq5 (by omega) (ds := L.map ordD) (fun z => hL0 (List.map_eq_nil_iff.mp z)) (by rw [List.length_map]; omega)
        obtain ⟨o, ho, rfl⟩ := List.mem_map.mp hy
        refine ft_of e6 ⟨_, rfl, in_len rfl, ?_⟩
        dsimp only [List.set]
        refine st_seq ?_
        obtain ⟨f, e, hif, hq⟩ := lap_way (s0 := some (0, .scr ns)) (s4 := some (0, ordD os)) (s5 := some (0, chD nd R)) (s6 := some (0, .lst (L.map ordD))) (s8 := some (0, .int i')) (s9 := some (0, .int j')) (s10 := some (0, v)) (s11 := t11) (s12 := t12) (s13 := some (0, .bl (upR R i' j' v))) (n := n) (R := R) (x := x) hq6 (by omega) n5 (hL5 o ho)
        cases f with
        | rt v => exact hq.elim
        | bk => exact hq.elim
        | ct => exact hq.elim
        | nx =>
          obtain ⟨q7, w, rfl, hw, hw6, hq7⟩ := hq
          refine st_of hif ?_
          show St _ _ _ _
          obtain ⟨hwF, hwz⟩ := stp_okF hw
          have hval2 : Tr (vNew 3 s_Against_init [oV (vIf (tB (op2 fEq (oVar 7) (oV (vC (.int 1))))) (opN fList [oVar 14]) (vVar 14))]) (LF (some (0, .scr ns)) q7 n R (some (0, ordD os)) (some (0, chD nd R)) (some (0, .lst (L.map ordD))) (some (0, .int x)) (some (0, .int i')) (some (0, .int j')) (some (0, v)) t11 t12 (some (0, .bl (upR R i' j' v))) (some (0, w))) fun u e' => u = (1, agD w) ∧ e' = LF (some (0, .scr ns)) q7 n R (some (0, ordD os)) (some (0, chD nd R)) (some (0, .lst (L.map ordD))) (some (0, .int x)) (some (0, .int i')) (some (0, .int j')) (some (0, v)) t11 t12 (some (0, .bl (upR R i' j' v))) (some (0, w)) := by
            refine tr_vNew (tr_cons (tr_oV (tr_vIf ?_)))
            walk_at "st"
            refine ⟨fun hx => ?_, fun _ => ?_⟩
            · have hx1 : x = 1 := by simpa using hx
              have := hw6 (by omega)
              subst this
              obtain ⟨k1, k2⟩ := lst_okF (ints_small o)
              walk_at "st"
              refine ft_of (ag_init k1) ⟨_, rfl, rfl, ?_, rfl⟩
              rw [k2]
              rfl
            · walk_at "st"
              refine ft_of (ag_init hwF) ⟨_, rfl, rfl, ?_, rfl⟩
              rw [hwz]
          refine st_seq (st_set (tr_call0 ?_))
          refine tr_cons (tr_oV (tr_vVar rfl ?_))
          refine tr_cons (tr_oV (tr_vVar0 rfl ?_))
          refine tr_cons (tr_oV (tr_vVar0 rfl ?_))
          refine tr_cons (tr_oV ?_)
          refine hval2.imp fun u e' ⟨hu, he⟩ => ?_
          subst hu he
          walk_at "st"
          refine ft_of (ag_holds_ok hnd (by omega) hn100 hG hR i0 i1 j0 j1 (stp_plain hw) (stp_all hw)) ⟨in_len rfl, ?_⟩
          dsimp only [List.set]
          refine st_if ?_
          walk_at "st"
          refine ⟨(fun z => nomatch z), fun _ => ?_⟩
          walk_at "st"
          refine ft_of (law_ag_ok hn100 hG i0 i1 j0 j1 (stp_plain hw) (stp_all hw)) ?_
          walk_at "st"
          refine ⟨(fun z => Bool.noConfusion (z.symm.trans (eqv_bl _))), fun _ => st_next ?_⟩
          exact ⟨q7, 0, 0, some (0, .int x), some (0, .int i'), some (0, .int j'), some (0, v), t11, t12, some (0, .bl (agR n R i' j' w)), some (0, w), rfl, hq7.mono (by omega)⟩
  · subst he
    have ff : ∀ {d : D}, flatD d = true → okF 6 d := fun h => okF_flat h 5
    have ft : ∀ {ds : List D}, ds.all flatD = true → okF 6 (.tup ds) := fun h => okF_tup fun x hx => okF_flat (List.all_eq_true.mp h x hx) 4
    have fl : ∀ {ds : List D}, ds.all flatD = true → okF 6 (.lst ds) := fun h => okF_lst fun x hx => okF_flat (List.all_eq_true.mp h x hx) 4
    obtain ⟨o, L', rfl⟩ : ∃ o L', L = o :: L' := by
      cases L with
      | nil => exact absurd rfl hL0
      | cons o L' => exact ⟨o, L', rfl⟩
    refine st_seq (st_for ?_)
    walk_at "st"
    refine ft_of (up_init (ff rfl)) ⟨_, rfl, rfl, ?_⟩
    walk_at "st"
    refine ft_of (up_init (ft rfl)) ⟨_, rfl, rfl, ?_⟩
    walk_at "st"
    refine ft_of (up_init (ff rfl)) ⟨_, rfl, rfl, ?_⟩
    walk_at "st"
    refine ft_of (ag_init (ff rfl)) ⟨_, rfl, rfl, ?_⟩
    walk_at "st"
    refine ft_of (ag_init (ft rfl)) ⟨_, rfl, rfl, ?_⟩
    walk_at "st"
    refine ft_of (or_init (ft (flat_ints o))) ⟨_, rfl, rfl, ?_⟩
    walk_at "st"
    refine st_loop (fun i e => ∃ (p : D) (k5 : Nat) (s6 s7 s8 s9 s10 s11 s12 s13 s14 : Option Vl), e = LF (some (0, .scr ns)) p n R (some (0, ordD os)) (some (k5, chD nd R)) s6 s7 s8 s9 s10 s11 s12 s13 s14) ⟨_, _, _, _, _, _, _, _, _, _, _, rfl⟩ (fun i d e hd ⟨p, k5, s6, s7, s8, s9, s10, s11, s12, s13, s14, he⟩ => ?_) (fun e ⟨p, k5, s6, s7, s8, s9, s10, s11, s12, s13, s14, he⟩ => ?_)
    · subst he
      have gv : gVar 12 d (LF (some (0, .scr ns)) p n R (some (0, ordD os)) (some (k5, chD nd R)) s6 s7 s8 s9 s10 s11 s12 s13 s14) = some (LF (some (0, .scr ns)) p n R (some (0, ordD os)) (some (k5, chD nd R)) s6 s7 s8 s9 s10 s11 (some (0, d)) s13 s14) := rfl
      refine ⟨_, gv, ?_⟩
      have hno : NoneD nd R d := by
        have hm := List.mem_of_getElem? hd
        simp only [List.mem_cons, List.not_mem_nil, or_false] at hm
        rcases hm with rfl | rfl | rfl | rfl | rfl | rfl | rfl | rfl | rfl | rfl | rfl | rfl
        · exact none_flat hnd n2 hn100 hG hR rfl rfl
        · exact none_flat hnd n2 hn100 hG hR rfl rfl
        · exact none_flat hnd n2 hn100 hG hR rfl rfl
        · exact none_flat hnd n2 hn100 hG hR rfl rfl
        · exact none_flat hnd n2 hn100 hG hR rfl rfl
        · exact none_up hnd n2 hn100 hG hR rfl fun ds h => by cases h
        · exact none_up hnd n2 hn100 hG hR rfl fun ds h => by cases h; rfl
        · exact none_up hnd n2 hn100 hG hR rfl fun ds h => by cases h
        · exact none_ag hnd n2 hn100 hG hR rfl fun ds h => by cases h
        · exact none_ag hnd n2 hn100 hG hR rfl fun ds h => by cases h; rfl
        · exact none_flat hnd n2 hn100 hG hR rfl rfl
        · exact none_flat hnd n2 hn100 hG hR rfl rfl
      refine st_if (tr_tOr (tr_tB ?_))
      walk_at "st"
      refine ft_of hno.1 ?_
      walk_at "st"
      refine ⟨(fun z => nomatch z), fun _ => ?_⟩
      walk_at "st"
      refine ft_of hno.2 ?_
      walk_at "st"
      refine ⟨(fun z => nomatch z), fun _ => st_next ?_⟩
      exact ⟨_, 0, _, _, _, _, _, _, _, _, _, rfl⟩
    · subst he
      refine st_seq (st_if ?_)
      refine tr_tOr (tr_tB (tr_eqO ?_))
      walk_at "st"
      refine ft_of (up_init (fl rfl)) ⟨_, rfl, rfl, ?_⟩
      walk_at "st"
      refine ft_of (up_init (ft rfl)) ⟨_, rfl, rfl, ?_⟩
      refine ex_some (show fEqO teq true (upD (.tup [.int 1])) (upD (.tup [.int 1])) = some (0, .bl false) from rfl) ?_
      refine ex_bl rfl ⟨(fun z => nomatch z), fun _ => ?_⟩
      refine tr_tOr (tr_tB (tr_eqO ?_))
      walk_at "st"
      refine ft_of (up_init (ft rfl)) ⟨_, rfl, rfl, ?_⟩
      walk_at "st"
      refine ft_of (up_init (ft rfl)) ⟨_, rfl, rfl, ?_⟩
      refine ex_some (show fEqO teq false (upD (.tup [.int 1])) (upD (.tup [.int 2])) = some (0, .bl false) from rfl) ?_
      refine ex_bl rfl ⟨(fun z => nomatch z), fun _ => ?_⟩
      refine tr_tOr (tr_tB (tr_eqO ?_))
      walk_at "st"
      refine ft_of (ag_init (fl rfl)) ⟨_, rfl, rfl, ?_⟩
      walk_at "st"
      refine ft_of (ag_init (ft rfl)) ⟨_, rfl, rfl, ?_⟩
      refine ex_some (show fEqO teq true (agD (.tup [.int 1])) (agD (.tup [.int 1])) = some (0, .bl false) from rfl) ?_
      refine ex_bl rfl ⟨(fun z => nomatch z), fun _ => ?_⟩
      refine tr_tB (tr_eqO ?_)
      walk_at "st"
      refine ft_of (ag_init (ft rfl)) ⟨_, rfl, rfl, ?_⟩
      walk_at "st"
      refine ft_of (ag_init (ft rfl)) ⟨_, rfl, rfl, ?_⟩
      refine ex_some (show fEqO teq false (agD (.tup [.int 1])) (agD (.tup [.int 2])) = some (0, .bl false) from rfl) ?_
      refine ex_bl rfl ⟨(fun z => nomatch z), fun _ => st_next ?_⟩
      refine st_ret (tr_eqO ?_)
      walk_at "st"
      refine ft_of (up_init (ft rfl)) ⟨_, rfl, rfl, ?_⟩
      walk_at "st"
      refine ft_of (ag_init (ft rfl)) ⟨_, rfl, rfl, ?_⟩
      refine ex_some (show fEqO teq true (upD (.tup [.int 1])) (agD (.tup [.int 1])) = some (0, .bl true) from rfl) ?_
      exact ⟨_, rfl, rfl⟩
theorem law_true (ns : List Int) (_ : ns.length ≤ 63) (_ : ∀ z ∈ ns, Builtin.Int.intBits z ≤ 1048576) : ∃ n mu, s_law [(0, .scr ns)] = .ok (n, .bl true) mu := by
  obtain ⟨⟨n, d⟩, mu, h, hd⟩ := law_ft ns
  cases hd
  exact ⟨n, mu, h⟩
end Law

namespace Law
open PySem L2 Mini
def pk (l : List Addr) (k : Nat) : Addr := l.getD k 0
theorem walk {l : PySem.W.OpenLaw} {q : Program} {loose : List Str} {XP : (Str → Option Value) → Heap → Prop} {YP : World → Heap → Prop} {d : DefRec} {K : Params → PySem.W.Frag} (hn : l.most = some 63) (hdf : d.params.defaults = [])
    (hY : ∀ (w : World) (h : Heap), YP w h → (K w.params).In h)
    (F : ∀ (w : World) (mg : Str → Option Value) (fa : Addr) (h : Heap), (K w.params).In h → h.Ns mainGlobals mg → mg d.name = some (.ref fa) →
      ∃ fd : FuncData, (∀ (s : Shared) (u : Value), BindsTo s fd ⟨[u], []⟩ [("script", u)]) ∧ ∀ base : Heap, (K w.params).In base → base.Ns mainGlobals mg → FnOk l.prog w (K w.params) mg base (L2.CX l.prog w) 10 fa fd ["script"] (spLaw (K w.params))) :
    PySem.W.WalkO q loose XP YP l.row.toRowW d [] (fun f vs => PySem.call f vs) :=
  L2.walk_ofB (n := 63) (k := 10) (x := "script") (CX := fun w => L2.CX l.prog w) (sp := fun w => spLaw (K w.params)) hn (by decide) hdf ⟨rfl, by decide, by decide⟩ hY F (fun w H a ns hl hb _ hS => ⟨a, ns, rfl, hS, hl, hb, fun _ => rfl⟩) fun w H s e s' z => by
    obtain ⟨_, _, _, _, _, _, _, _, _, _, _, _, z⟩ := z
    exact z
theorem all_mk {l : PySem.W.OpenLaw} {w : World} {K : PySem.W.Frag} {h : Heap} {mg : Str → Option Value} {fa : Addr}
    {C0 C1 C2 C3 : Addr}
    (X : K.In h) (G : h.Ns mainGlobals mg) (hfa : mg "law" = some (.ref fa))
    (z_all : PySem.W.nsIn K mainGlobals "all" = some none)
    (z_any : PySem.W.nsIn K mainGlobals "any" = some none)
    (z_bool : PySem.W.nsIn K mainGlobals "bool" = some none)
    (z_int : PySem.W.nsIn K mainGlobals "int" = some none)
    (z_isinstance : PySem.W.nsIn K mainGlobals "isinstance" = some none)
    (z_len : PySem.W.nsIn K mainGlobals "len" = some none)
    (z_list : PySem.W.nsIn K mainGlobals "list" = some none)
    (z_range : PySem.W.nsIn K mainGlobals "range" = some none)
    (z_sorted : PySem.W.nsIn K mainGlobals "sorted" = some none)
    (z_str : PySem.W.nsIn K mainGlobals "str" = some none)
    (z_tuple : PySem.W.nsIn K mainGlobals "tuple" = some none)
    (y_LETTERS : ∃ t, PySem.W.nsIn K mainGlobals "LETTERS" = some (some (.str "abcdefghijklmnopqrstuvwxyzABCDEFGHIJKLMNOPQRSTUVWXYZ" t)))
    (y_SIGNS : ∃ t, PySem.W.nsIn K mainGlobals "SIGNS" = some (some (.str "abcdefghijklmnopqrstuvwxyzABCDEFGHIJKLMNOPQRSTUVWXYZ0123456789_" t)))
    (aC0 : PySem.W.nsIn K mainGlobals "Choices" = some (some (.ref C0)))
    (aC1 : PySem.W.nsIn K mainGlobals "Order" = some (some (.ref C1)))
    (aC2 : PySem.W.nsIn K mainGlobals "Upward" = some (some (.ref C2)))
    (aC3 : PySem.W.nsIn K mainGlobals "Against" = some (some (.ref C3)))
    (hn : PySem.W.specialIn K (.builtin "object.__class__") "__get__" = some (some (.builtin "getset_descriptor.__get__")))
    (htk : PySem.W.takesIn K (.builtin "object.__class__") = some true)
    (ic0 : PySem.W.isClsIn K C0 = true)
    (ty0 : PySem.W.typeIn K (.ref C0) = some (.type "type"))
    (su0_0 : PySem.W.mroIn K C0 (.ref C0) = some true)
    (su0_1 : PySem.W.mroIn K C1 (.ref C0) = some false)
    (su0_2 : PySem.W.mroIn K C2 (.ref C0) = some false)
    (su0_3 : PySem.W.mroIn K C3 (.ref C0) = some false)
    (bt0_int : PySem.W.mroIn K C0 (.type "int") = some false)
    (bt0_bool : PySem.W.mroIn K C0 (.type "bool") = some false)
    (bt0_str : PySem.W.mroIn K C0 (.type "str") = some false)
    (bt0_list : PySem.W.mroIn K C0 (.type "list") = some false)
    (bt0_tuple : PySem.W.mroIn K C0 (.type "tuple") = some false)
    (bt0_dict : PySem.W.mroIn K C0 (.type "dict") = some false)
    (pg0 : PySem.W.plainGet K C0 Str.empty = true)
    (hd0 : PySem.W.hasDictIn K C0 = true)
    (po0 : PySem.W.plainOver K C0 = true)
    (sa0 : PySem.W.findIn K (.ref C0) "__setattr__" = some (some (.builtin "object.__setattr__")))
    (ha0 : PySem.W.findIn K (.ref C0) "__class__" = some (some (.builtin "object.__class__")))
    (hm0 : PySem.W.mroIn K C0 (.type "object") = some true)
    (mk0 : PySem.W.makesIn K C0 = true)
    (kc0 : PySem.W.keepIn K (.ref C0) = true)
    (n0_many : PySem.W.findIn K (.ref C0) "many" = some none)
    (n0_order : PySem.W.findIn K (.ref C0) "order" = some none)
    (n0_rows : PySem.W.findIn K (.ref C0) "rows" = some none)
    (n0_size : PySem.W.findIn K (.ref C0) "size" = some none)
    (n0_things : PySem.W.findIn K (.ref C0) "things" = some none)
    (ic1 : PySem.W.isClsIn K C1 = true)
    (ty1 : PySem.W.typeIn K (.ref C1) = some (.type "type"))
    (su1_0 : PySem.W.mroIn K C0 (.ref C1) = some false)
    (su1_1 : PySem.W.mroIn K C1 (.ref C1) = some true)
    (su1_2 : PySem.W.mroIn K C2 (.ref C1) = some false)
    (su1_3 : PySem.W.mroIn K C3 (.ref C1) = some false)
    (bt1_int : PySem.W.mroIn K C1 (.type "int") = some false)
    (bt1_bool : PySem.W.mroIn K C1 (.type "bool") = some false)
    (bt1_str : PySem.W.mroIn K C1 (.type "str") = some false)
    (bt1_list : PySem.W.mroIn K C1 (.type "list") = some false)
    (bt1_tuple : PySem.W.mroIn K C1 (.type "tuple") = some false)
    (bt1_dict : PySem.W.mroIn K C1 (.type "dict") = some false)
    (pg1 : PySem.W.plainGet K C1 Str.empty = true)
    (hd1 : PySem.W.hasDictIn K C1 = true)
    (po1 : PySem.W.plainOver K C1 = true)
    (sa1 : PySem.W.findIn K (.ref C1) "__setattr__" = some (some (.builtin "object.__setattr__")))
    (ha1 : PySem.W.findIn K (.ref C1) "__class__" = some (some (.builtin "object.__class__")))
    (hm1 : PySem.W.mroIn K C1 (.type "object") = some true)
    (mk1 : PySem.W.makesIn K C1 = true)
    (kc1 : PySem.W.keepIn K (.ref C1) = true)
    (n1_many : PySem.W.findIn K (.ref C1) "many" = some none)
    (n1_order : PySem.W.findIn K (.ref C1) "order" = some none)
    (n1_rows : PySem.W.findIn K (.ref C1) "rows" = some none)
    (n1_size : PySem.W.findIn K (.ref C1) "size" = some none)
    (n1_things : PySem.W.findIn K (.ref C1) "things" = some none)
    (ic2 : PySem.W.isClsIn K C2 = true)
    (ty2 : PySem.W.typeIn K (.ref C2) = some (.type "type"))
    (su2_0 : PySem.W.mroIn K C0 (.ref C2) = some false)
    (su2_1 : PySem.W.mroIn K C1 (.ref C2) = some false)
    (su2_2 : PySem.W.mroIn K C2 (.ref C2) = some true)
    (su2_3 : PySem.W.mroIn K C3 (.ref C2) = some false)
    (bt2_int : PySem.W.mroIn K C2 (.type "int") = some false)
    (bt2_bool : PySem.W.mroIn K C2 (.type "bool") = some false)
    (bt2_str : PySem.W.mroIn K C2 (.type "str") = some false)
    (bt2_list : PySem.W.mroIn K C2 (.type "list") = some false)
    (bt2_tuple : PySem.W.mroIn K C2 (.type "tuple") = some false)
    (bt2_dict : PySem.W.mroIn K C2 (.type "dict") = some false)
    (pg2 : PySem.W.plainGet K C2 Str.empty = true)
    (hd2 : PySem.W.hasDictIn K C2 = true)
    (po2 : PySem.W.plainOver K C2 = true)
    (sa2 : PySem.W.findIn K (.ref C2) "__setattr__" = some (some (.builtin "object.__setattr__")))
    (ha2 : PySem.W.findIn K (.ref C2) "__class__" = some (some (.builtin "object.__class__")))
    (hm2 : PySem.W.mroIn K C2 (.type "object") = some true)
    (mk2 : PySem.W.makesIn K C2 = true)
    (kc2 : PySem.W.keepIn K (.ref C2) = true)
    (n2_many : PySem.W.findIn K (.ref C2) "many" = some none)
    (n2_order : PySem.W.findIn K (.ref C2) "order" = some none)
    (n2_rows : PySem.W.findIn K (.ref C2) "rows" = some none)
    (n2_size : PySem.W.findIn K (.ref C2) "size" = some none)
    (n2_things : PySem.W.findIn K (.ref C2) "things" = some none)
    (ic3 : PySem.W.isClsIn K C3 = true)
    (ty3 : PySem.W.typeIn K (.ref C3) = some (.type "type"))
    (su3_0 : PySem.W.mroIn K C0 (.ref C3) = some false)
    (su3_1 : PySem.W.mroIn K C1 (.ref C3) = some false)
    (su3_2 : PySem.W.mroIn K C2 (.ref C3) = some false)
    (su3_3 : PySem.W.mroIn K C3 (.ref C3) = some true)
    (bt3_int : PySem.W.mroIn K C3 (.type "int") = some false)
    (bt3_bool : PySem.W.mroIn K C3 (.type "bool") = some false)
    (bt3_str : PySem.W.mroIn K C3 (.type "str") = some false)
    (bt3_list : PySem.W.mroIn K C3 (.type "list") = some false)
    (bt3_tuple : PySem.W.mroIn K C3 (.type "tuple") = some false)
    (bt3_dict : PySem.W.mroIn K C3 (.type "dict") = some false)
    (pg3 : PySem.W.plainGet K C3 Str.empty = true)
    (hd3 : PySem.W.hasDictIn K C3 = true)
    (po3 : PySem.W.plainOver K C3 = true)
    (sa3 : PySem.W.findIn K (.ref C3) "__setattr__" = some (some (.builtin "object.__setattr__")))
    (ha3 : PySem.W.findIn K (.ref C3) "__class__" = some (some (.builtin "object.__class__")))
    (hm3 : PySem.W.mroIn K C3 (.type "object") = some true)
    (mk3 : PySem.W.makesIn K C3 = true)
    (kc3 : PySem.W.keepIn K (.ref C3) = true)
    (n3_many : PySem.W.findIn K (.ref C3) "many" = some none)
    (n3_order : PySem.W.findIn K (.ref C3) "order" = some none)
    (n3_rows : PySem.W.findIn K (.ref C3) "rows" = some none)
    (n3_size : PySem.W.findIn K (.ref C3) "size" = some none)
    (n3_things : PySem.W.findIn K (.ref C3) "things" = some none)
    {f_Against_eq : Addr} {od_Against_eq an_Against_eq : Option Addr} {sl_Against_eq : Array (Option Value)} {oc_Against_eq kV_Against_eq dc_Against_eq pm_Against_eq cd_Against_eq ct_Against_eq : Value}
    (a_Against_eq : PySem.W.findIn K (.ref C3) "__eq__" = some (some (.ref f_Against_eq)))
    (l_Against_eq : K.lookup f_Against_eq = some ⟨oc_Against_eq, od_Against_eq, .func (PySem.W.fnOf "__eq__" "Against.__eq__" (defArgs st_Against_eq) (defBody st_Against_eq) (defScope st_Against_eq) .none kV_Against_eq dc_Against_eq pm_Against_eq an_Against_eq cd_Against_eq ct_Against_eq), sl_Against_eq⟩)
    (c_Against_eq : PySem.W.codeIn K cd_Against_eq "Against.__eq__" = true)
    (k_Against_eq : PySem.W.keepIn K (.ref f_Against_eq) = true)
    (i_Against_eq : PySem.W.isFn K (.ref f_Against_eq) = true)
    (ne_Against_eq : PySem.W.findIn K (.ref C3) "__ne__" = some (some (.builtin "object.__ne__")))
    {f_frozen : Addr} {od_frozen an_frozen : Option Addr} {sl_frozen : Array (Option Value)} {oc_frozen kV_frozen dc_frozen pm_frozen cd_frozen ct_frozen : Value}
    (a_frozen : PySem.W.nsIn K mainGlobals "frozen" = some (some (.ref f_frozen)))
    (l_frozen : K.lookup f_frozen = some ⟨oc_frozen, od_frozen, .func (PySem.W.fnOf "frozen" "frozen" (defArgs st_frozen) (defBody st_frozen) (defScope st_frozen) .none kV_frozen dc_frozen pm_frozen an_frozen cd_frozen ct_frozen), sl_frozen⟩)
    (c_frozen : PySem.W.codeIn K cd_frozen "frozen" = true)
    (k_frozen : PySem.W.keepIn K (.ref f_frozen) = true)
    {f_Against_init : Addr} {od_Against_init an_Against_init : Option Addr} {sl_Against_init : Array (Option Value)} {oc_Against_init kV_Against_init dc_Against_init pm_Against_init cd_Against_init ct_Against_init : Value}
    (a_Against_init : PySem.W.findIn K (.ref C3) "__init__" = some (some (.ref f_Against_init)))
    (l_Against_init : K.lookup f_Against_init = some ⟨oc_Against_init, od_Against_init, .func (PySem.W.fnOf "__init__" "Against.__init__" (defArgs st_Against_init) (defBody st_Against_init) (defScope st_Against_init) .none kV_Against_init dc_Against_init pm_Against_init an_Against_init cd_Against_init ct_Against_init), sl_Against_init⟩)
    (c_Against_init : PySem.W.codeIn K cd_Against_init "Against.__init__" = true)
    (k_Against_init : PySem.W.keepIn K (.ref f_Against_init) = true)
    (i_Against_init : PySem.W.isFn K (.ref f_Against_init) = true)
    {f_Choices_eq : Addr} {od_Choices_eq an_Choices_eq : Option Addr} {sl_Choices_eq : Array (Option Value)} {oc_Choices_eq kV_Choices_eq dc_Choices_eq pm_Choices_eq cd_Choices_eq ct_Choices_eq : Value}
    (a_Choices_eq : PySem.W.findIn K (.ref C0) "__eq__" = some (some (.ref f_Choices_eq)))
    (l_Choices_eq : K.lookup f_Choices_eq = some ⟨oc_Choices_eq, od_Choices_eq, .func (PySem.W.fnOf "__eq__" "Choices.__eq__" (defArgs st_Choices_eq) (defBody st_Choices_eq) (defScope st_Choices_eq) .none kV_Choices_eq dc_Choices_eq pm_Choices_eq an_Choices_eq cd_Choices_eq ct_Choices_eq), sl_Choices_eq⟩)
    (c_Choices_eq : PySem.W.codeIn K cd_Choices_eq "Choices.__eq__" = true)
    (k_Choices_eq : PySem.W.keepIn K (.ref f_Choices_eq) = true)
    (i_Choices_eq : PySem.W.isFn K (.ref f_Choices_eq) = true)
    (ne_Choices_eq : PySem.W.findIn K (.ref C0) "__ne__" = some (some (.builtin "object.__ne__")))
    {f_is_list : Addr} {od_is_list an_is_list : Option Addr} {sl_is_list : Array (Option Value)} {oc_is_list kV_is_list dc_is_list pm_is_list cd_is_list ct_is_list : Value}
    (a_is_list : PySem.W.nsIn K mainGlobals "is_list" = some (some (.ref f_is_list)))
    (l_is_list : K.lookup f_is_list = some ⟨oc_is_list, od_is_list, .func (PySem.W.fnOf "is_list" "is_list" (defArgs st_is_list) (defBody st_is_list) (defScope st_is_list) .none kV_is_list dc_is_list pm_is_list an_is_list cd_is_list ct_is_list), sl_is_list⟩)
    (c_is_list : PySem.W.codeIn K cd_is_list "is_list" = true)
    (k_is_list : PySem.W.keepIn K (.ref f_is_list) = true)
    {f_is_whole : Addr} {od_is_whole an_is_whole : Option Addr} {sl_is_whole : Array (Option Value)} {oc_is_whole kV_is_whole dc_is_whole pm_is_whole cd_is_whole ct_is_whole : Value}
    (a_is_whole : PySem.W.nsIn K mainGlobals "is_whole" = some (some (.ref f_is_whole)))
    (l_is_whole : K.lookup f_is_whole = some ⟨oc_is_whole, od_is_whole, .func (PySem.W.fnOf "is_whole" "is_whole" (defArgs st_is_whole) (defBody st_is_whole) (defScope st_is_whole) .none kV_is_whole dc_is_whole pm_is_whole an_is_whole cd_is_whole ct_is_whole), sl_is_whole⟩)
    (c_is_whole : PySem.W.codeIn K cd_is_whole "is_whole" = true)
    (k_is_whole : PySem.W.keepIn K (.ref f_is_whole) = true)
    {f_is_index : Addr} {od_is_index an_is_index : Option Addr} {sl_is_index : Array (Option Value)} {oc_is_index kV_is_index dc_is_index pm_is_index cd_is_index ct_is_index : Value}
    (a_is_index : PySem.W.nsIn K mainGlobals "is_index" = some (some (.ref f_is_index)))
    (l_is_index : K.lookup f_is_index = some ⟨oc_is_index, od_is_index, .func (PySem.W.fnOf "is_index" "is_index" (defArgs st_is_index) (defBody st_is_index) (defScope st_is_index) .none kV_is_index dc_is_index pm_is_index an_is_index cd_is_index ct_is_index), sl_is_index⟩)
    (c_is_index : PySem.W.codeIn K cd_is_index "is_index" = true)
    (k_is_index : PySem.W.keepIn K (.ref f_is_index) = true)
    {f_is_lot_of : Addr} {od_is_lot_of an_is_lot_of : Option Addr} {sl_is_lot_of : Array (Option Value)} {oc_is_lot_of kV_is_lot_of dc_is_lot_of pm_is_lot_of cd_is_lot_of ct_is_lot_of : Value}
    (a_is_lot_of : PySem.W.nsIn K mainGlobals "is_lot_of" = some (some (.ref f_is_lot_of)))
    (l_is_lot_of : K.lookup f_is_lot_of = some ⟨oc_is_lot_of, od_is_lot_of, .func (PySem.W.fnOf "is_lot_of" "is_lot_of" (defArgs st_is_lot_of) (defBody st_is_lot_of) (defScope st_is_lot_of) .none kV_is_lot_of dc_is_lot_of pm_is_lot_of an_is_lot_of cd_is_lot_of ct_is_lot_of), sl_is_lot_of⟩)
    (c_is_lot_of : PySem.W.codeIn K cd_is_lot_of "is_lot_of" = true)
    (k_is_lot_of : PySem.W.keepIn K (.ref f_is_lot_of) = true)
    {f_is_choice : Addr} {od_is_choice an_is_choice : Option Addr} {sl_is_choice : Array (Option Value)} {oc_is_choice kV_is_choice dc_is_choice pm_is_choice cd_is_choice ct_is_choice : Value}
    (a_is_choice : PySem.W.nsIn K mainGlobals "is_choice" = some (some (.ref f_is_choice)))
    (l_is_choice : K.lookup f_is_choice = some ⟨oc_is_choice, od_is_choice, .func (PySem.W.fnOf "is_choice" "is_choice" (defArgs st_is_choice) (defBody st_is_choice) (defScope st_is_choice) .none kV_is_choice dc_is_choice pm_is_choice an_is_choice cd_is_choice ct_is_choice), sl_is_choice⟩)
    (c_is_choice : PySem.W.codeIn K cd_is_choice "is_choice" = true)
    (k_is_choice : PySem.W.keepIn K (.ref f_is_choice) = true)
    {f_is_name : Addr} {od_is_name an_is_name : Option Addr} {sl_is_name : Array (Option Value)} {oc_is_name kV_is_name dc_is_name pm_is_name cd_is_name ct_is_name : Value}
    (a_is_name : PySem.W.nsIn K mainGlobals "is_name" = some (some (.ref f_is_name)))
    (l_is_name : K.lookup f_is_name = some ⟨oc_is_name, od_is_name, .func (PySem.W.fnOf "is_name" "is_name" (defArgs st_is_name) (defBody st_is_name) (defScope st_is_name) .none kV_is_name dc_is_name pm_is_name an_is_name cd_is_name ct_is_name), sl_is_name⟩)
    (c_is_name : PySem.W.codeIn K cd_is_name "is_name" = true)
    (k_is_name : PySem.W.keepIn K (.ref f_is_name) = true)
    {f_names_looked : Addr} {od_names_looked an_names_looked : Option Addr} {sl_names_looked : Array (Option Value)} {oc_names_looked kV_names_looked dc_names_looked pm_names_looked cd_names_looked ct_names_looked : Value}
    (a_names_looked : PySem.W.nsIn K mainGlobals "names_looked" = some (some (.ref f_names_looked)))
    (l_names_looked : K.lookup f_names_looked = some ⟨oc_names_looked, od_names_looked, .func (PySem.W.fnOf "names_looked" "names_looked" (defArgs st_names_looked) (defBody st_names_looked) (defScope st_names_looked) .none kV_names_looked dc_names_looked pm_names_looked an_names_looked cd_names_looked ct_names_looked), sl_names_looked⟩)
    (c_names_looked : PySem.W.codeIn K cd_names_looked "names_looked" = true)
    (k_names_looked : PySem.W.keepIn K (.ref f_names_looked) = true)
    {f_Choices_init : Addr} {od_Choices_init an_Choices_init : Option Addr} {sl_Choices_init : Array (Option Value)} {oc_Choices_init kV_Choices_init dc_Choices_init pm_Choices_init cd_Choices_init ct_Choices_init : Value}
    (a_Choices_init : PySem.W.findIn K (.ref C0) "__init__" = some (some (.ref f_Choices_init)))
    (l_Choices_init : K.lookup f_Choices_init = some ⟨oc_Choices_init, od_Choices_init, .func (PySem.W.fnOf "__init__" "Choices.__init__" (defArgs st_Choices_init) (defBody st_Choices_init) (defScope st_Choices_init) .none kV_Choices_init dc_Choices_init pm_Choices_init an_Choices_init cd_Choices_init ct_Choices_init), sl_Choices_init⟩)
    (c_Choices_init : PySem.W.codeIn K cd_Choices_init "Choices.__init__" = true)
    (k_Choices_init : PySem.W.keepIn K (.ref f_Choices_init) = true)
    (i_Choices_init : PySem.W.isFn K (.ref f_Choices_init) = true)
    {f_Order_eq : Addr} {od_Order_eq an_Order_eq : Option Addr} {sl_Order_eq : Array (Option Value)} {oc_Order_eq kV_Order_eq dc_Order_eq pm_Order_eq cd_Order_eq ct_Order_eq : Value}
    (a_Order_eq : PySem.W.findIn K (.ref C1) "__eq__" = some (some (.ref f_Order_eq)))
    (l_Order_eq : K.lookup f_Order_eq = some ⟨oc_Order_eq, od_Order_eq, .func (PySem.W.fnOf "__eq__" "Order.__eq__" (defArgs st_Order_eq) (defBody st_Order_eq) (defScope st_Order_eq) .none kV_Order_eq dc_Order_eq pm_Order_eq an_Order_eq cd_Order_eq ct_Order_eq), sl_Order_eq⟩)
    (c_Order_eq : PySem.W.codeIn K cd_Order_eq "Order.__eq__" = true)
    (k_Order_eq : PySem.W.keepIn K (.ref f_Order_eq) = true)
    (i_Order_eq : PySem.W.isFn K (.ref f_Order_eq) = true)
    (ne_Order_eq : PySem.W.findIn K (.ref C1) "__ne__" = some (some (.builtin "object.__ne__")))
    {f_Order_init : Addr} {od_Order_init an_Order_init : Option Addr} {sl_Order_init : Array (Option Value)} {oc_Order_init kV_Order_init dc_Order_init pm_Order_init cd_Order_init ct_Order_init : Value}
    (a_Order_init : PySem.W.findIn K (.ref C1) "__init__" = some (some (.ref f_Order_init)))
    (l_Order_init : K.lookup f_Order_init = some ⟨oc_Order_init, od_Order_init, .func (PySem.W.fnOf "__init__" "Order.__init__" (defArgs st_Order_init) (defBody st_Order_init) (defScope st_Order_init) .none kV_Order_init dc_Order_init pm_Order_init an_Order_init cd_Order_init ct_Order_init), sl_Order_init⟩)
    (c_Order_init : PySem.W.codeIn K cd_Order_init "Order.__init__" = true)
    (k_Order_init : PySem.W.keepIn K (.ref f_Order_init) = true)
    (i_Order_init : PySem.W.isFn K (.ref f_Order_init) = true)
    {f_Upward_eq : Addr} {od_Upward_eq an_Upward_eq : Option Addr} {sl_Upward_eq : Array (Option Value)} {oc_Upward_eq kV_Upward_eq dc_Upward_eq pm_Upward_eq cd_Upward_eq ct_Upward_eq : Value}
    (a_Upward_eq : PySem.W.findIn K (.ref C2) "__eq__" = some (some (.ref f_Upward_eq)))
    (l_Upward_eq : K.lookup f_Upward_eq = some ⟨oc_Upward_eq, od_Upward_eq, .func (PySem.W.fnOf "__eq__" "Upward.__eq__" (defArgs st_Upward_eq) (defBody st_Upward_eq) (defScope st_Upward_eq) .none kV_Upward_eq dc_Upward_eq pm_Upward_eq an_Upward_eq cd_Upward_eq ct_Upward_eq), sl_Upward_eq⟩)
    (c_Upward_eq : PySem.W.codeIn K cd_Upward_eq "Upward.__eq__" = true)
    (k_Upward_eq : PySem.W.keepIn K (.ref f_Upward_eq) = true)
    (i_Upward_eq : PySem.W.isFn K (.ref f_Upward_eq) = true)
    (ne_Upward_eq : PySem.W.findIn K (.ref C2) "__ne__" = some (some (.builtin "object.__ne__")))
    {f_Upward_init : Addr} {od_Upward_init an_Upward_init : Option Addr} {sl_Upward_init : Array (Option Value)} {oc_Upward_init kV_Upward_init dc_Upward_init pm_Upward_init cd_Upward_init ct_Upward_init : Value}
    (a_Upward_init : PySem.W.findIn K (.ref C2) "__init__" = some (some (.ref f_Upward_init)))
    (l_Upward_init : K.lookup f_Upward_init = some ⟨oc_Upward_init, od_Upward_init, .func (PySem.W.fnOf "__init__" "Upward.__init__" (defArgs st_Upward_init) (defBody st_Upward_init) (defScope st_Upward_init) .none kV_Upward_init dc_Upward_init pm_Upward_init an_Upward_init cd_Upward_init ct_Upward_init), sl_Upward_init⟩)
    (c_Upward_init : PySem.W.codeIn K cd_Upward_init "Upward.__init__" = true)
    (k_Upward_init : PySem.W.keepIn K (.ref f_Upward_init) = true)
    (i_Upward_init : PySem.W.isFn K (.ref f_Upward_init) = true)
    {f_law_first : Addr} {od_law_first an_law_first : Option Addr} {sl_law_first : Array (Option Value)} {oc_law_first kV_law_first dc_law_first pm_law_first cd_law_first ct_law_first : Value}
    (a_law_first : PySem.W.nsIn K mainGlobals "_law_first" = some (some (.ref f_law_first)))
    (l_law_first : K.lookup f_law_first = some ⟨oc_law_first, od_law_first, .func (PySem.W.fnOf "_law_first" "_law_first" (defArgs st_law_first) (defBody st_law_first) (defScope st_law_first) .none kV_law_first dc_law_first pm_law_first an_law_first cd_law_first ct_law_first), sl_law_first⟩)
    (c_law_first : PySem.W.codeIn K cd_law_first "_law_first" = true)
    (k_law_first : PySem.W.keepIn K (.ref f_law_first) = true)
    {f_law_is_int : Addr} {od_law_is_int an_law_is_int : Option Addr} {sl_law_is_int : Array (Option Value)} {oc_law_is_int kV_law_is_int dc_law_is_int pm_law_is_int cd_law_is_int ct_law_is_int : Value}
    (a_law_is_int : PySem.W.nsIn K mainGlobals "_law_is_int" = some (some (.ref f_law_is_int)))
    (l_law_is_int : K.lookup f_law_is_int = some ⟨oc_law_is_int, od_law_is_int, .func (PySem.W.fnOf "_law_is_int" "_law_is_int" (defArgs st_law_is_int) (defBody st_law_is_int) (defScope st_law_is_int) .none kV_law_is_int dc_law_is_int pm_law_is_int an_law_is_int cd_law_is_int ct_law_is_int), sl_law_is_int⟩)
    (c_law_is_int : PySem.W.codeIn K cd_law_is_int "_law_is_int" = true)
    (k_law_is_int : PySem.W.keepIn K (.ref f_law_is_int) = true)
    {f_law_against_right : Addr} {od_law_against_right an_law_against_right : Option Addr} {sl_law_against_right : Array (Option Value)} {oc_law_against_right kV_law_against_right dc_law_against_right pm_law_against_right cd_law_against_right ct_law_against_right : Value}
    (a_law_against_right : PySem.W.nsIn K mainGlobals "_law_against_right" = some (some (.ref f_law_against_right)))
    (l_law_against_right : K.lookup f_law_against_right = some ⟨oc_law_against_right, od_law_against_right, .func (PySem.W.fnOf "_law_against_right" "_law_against_right" (defArgs st_law_against_right) (defBody st_law_against_right) (defScope st_law_against_right) .none kV_law_against_right dc_law_against_right pm_law_against_right an_law_against_right cd_law_against_right ct_law_against_right), sl_law_against_right⟩)
    (c_law_against_right : PySem.W.codeIn K cd_law_against_right "_law_against_right" = true)
    (k_law_against_right : PySem.W.keepIn K (.ref f_law_against_right) = true)
    {f_law_orders : Addr} {od_law_orders an_law_orders : Option Addr} {sl_law_orders : Array (Option Value)} {oc_law_orders kV_law_orders dc_law_orders pm_law_orders cd_law_orders ct_law_orders : Value}
    (a_law_orders : PySem.W.nsIn K mainGlobals "_law_orders" = some (some (.ref f_law_orders)))
    (l_law_orders : K.lookup f_law_orders = some ⟨oc_law_orders, od_law_orders, .func (PySem.W.fnOf "_law_orders" "_law_orders" (defArgs st_law_orders) (defBody st_law_orders) (defScope st_law_orders) .none kV_law_orders dc_law_orders pm_law_orders an_law_orders cd_law_orders ct_law_orders), sl_law_orders⟩)
    (c_law_orders : PySem.W.codeIn K cd_law_orders "_law_orders" = true)
    (k_law_orders : PySem.W.keepIn K (.ref f_law_orders) = true)
    {f_law_agreeing : Addr} {od_law_agreeing an_law_agreeing : Option Addr} {sl_law_agreeing : Array (Option Value)} {oc_law_agreeing kV_law_agreeing dc_law_agreeing pm_law_agreeing cd_law_agreeing ct_law_agreeing : Value}
    (a_law_agreeing : PySem.W.nsIn K mainGlobals "_law_agreeing" = some (some (.ref f_law_agreeing)))
    (l_law_agreeing : K.lookup f_law_agreeing = some ⟨oc_law_agreeing, od_law_agreeing, .func (PySem.W.fnOf "_law_agreeing" "_law_agreeing" (defArgs st_law_agreeing) (defBody st_law_agreeing) (defScope st_law_agreeing) .none kV_law_agreeing dc_law_agreeing pm_law_agreeing an_law_agreeing cd_law_agreeing ct_law_agreeing), sl_law_agreeing⟩)
    (c_law_agreeing : PySem.W.codeIn K cd_law_agreeing "_law_agreeing" = true)
    (k_law_agreeing : PySem.W.keepIn K (.ref f_law_agreeing) = true)
    {f_law_draw : Addr} {od_law_draw an_law_draw : Option Addr} {sl_law_draw : Array (Option Value)} {oc_law_draw kV_law_draw dc_law_draw pm_law_draw cd_law_draw ct_law_draw : Value}
    (a_law_draw : PySem.W.nsIn K mainGlobals "_law_draw" = some (some (.ref f_law_draw)))
    (l_law_draw : K.lookup f_law_draw = some ⟨oc_law_draw, od_law_draw, .func (PySem.W.fnOf "_law_draw" "_law_draw" (defArgs st_law_draw) (defBody st_law_draw) (defScope st_law_draw) .none kV_law_draw dc_law_draw pm_law_draw an_law_draw cd_law_draw ct_law_draw), sl_law_draw⟩)
    (c_law_draw : PySem.W.codeIn K cd_law_draw "_law_draw" = true)
    (k_law_draw : PySem.W.keepIn K (.ref f_law_draw) = true)
    {f_law_pen : Addr} {od_law_pen an_law_pen : Option Addr} {sl_law_pen : Array (Option Value)} {oc_law_pen kV_law_pen dc_law_pen pm_law_pen cd_law_pen ct_law_pen : Value}
    (a_law_pen : PySem.W.nsIn K mainGlobals "_law_pen" = some (some (.ref f_law_pen)))
    (l_law_pen : K.lookup f_law_pen = some ⟨oc_law_pen, od_law_pen, .func (PySem.W.fnOf "_law_pen" "_law_pen" (defArgs st_law_pen) (defBody st_law_pen) (defScope st_law_pen) .none kV_law_pen dc_law_pen pm_law_pen an_law_pen cd_law_pen ct_law_pen), sl_law_pen⟩)
    (c_law_pen : PySem.W.codeIn K cd_law_pen "_law_pen" = true)
    (k_law_pen : PySem.W.keepIn K (.ref f_law_pen) = true)
    {f_law_pick : Addr} {od_law_pick an_law_pick : Option Addr} {sl_law_pick : Array (Option Value)} {oc_law_pick kV_law_pick dc_law_pick pm_law_pick cd_law_pick ct_law_pick : Value}
    (a_law_pick : PySem.W.nsIn K mainGlobals "_law_pick" = some (some (.ref f_law_pick)))
    (l_law_pick : K.lookup f_law_pick = some ⟨oc_law_pick, od_law_pick, .func (PySem.W.fnOf "_law_pick" "_law_pick" (defArgs st_law_pick) (defBody st_law_pick) (defScope st_law_pick) .none kV_law_pick dc_law_pick pm_law_pick an_law_pick cd_law_pick ct_law_pick), sl_law_pick⟩)
    (c_law_pick : PySem.W.codeIn K cd_law_pick "_law_pick" = true)
    (k_law_pick : PySem.W.keepIn K (.ref f_law_pick) = true)
    {f_law_shuffled : Addr} {od_law_shuffled an_law_shuffled : Option Addr} {sl_law_shuffled : Array (Option Value)} {oc_law_shuffled kV_law_shuffled dc_law_shuffled pm_law_shuffled cd_law_shuffled ct_law_shuffled : Value}
    (a_law_shuffled : PySem.W.nsIn K mainGlobals "_law_shuffled" = some (some (.ref f_law_shuffled)))
    (l_law_shuffled : K.lookup f_law_shuffled = some ⟨oc_law_shuffled, od_law_shuffled, .func (PySem.W.fnOf "_law_shuffled" "_law_shuffled" (defArgs st_law_shuffled) (defBody st_law_shuffled) (defScope st_law_shuffled) .none kV_law_shuffled dc_law_shuffled pm_law_shuffled an_law_shuffled cd_law_shuffled ct_law_shuffled), sl_law_shuffled⟩)
    (c_law_shuffled : PySem.W.codeIn K cd_law_shuffled "_law_shuffled" = true)
    (k_law_shuffled : PySem.W.keepIn K (.ref f_law_shuffled) = true)
    {f_law_some_list : Addr} {od_law_some_list an_law_some_list : Option Addr} {sl_law_some_list : Array (Option Value)} {oc_law_some_list kV_law_some_list dc_law_some_list pm_law_some_list cd_law_some_list ct_law_some_list : Value}
    (a_law_some_list : PySem.W.nsIn K mainGlobals "_law_some_list" = some (some (.ref f_law_some_list)))
    (l_law_some_list : K.lookup f_law_some_list = some ⟨oc_law_some_list, od_law_some_list, .func (PySem.W.fnOf "_law_some_list" "_law_some_list" (defArgs st_law_some_list) (defBody st_law_some_list) (defScope st_law_some_list) .none kV_law_some_list dc_law_some_list pm_law_some_list an_law_some_list cd_law_some_list ct_law_some_list), sl_law_some_list⟩)
    (c_law_some_list : PySem.W.codeIn K cd_law_some_list "_law_some_list" = true)
    (k_law_some_list : PySem.W.keepIn K (.ref f_law_some_list) = true)
    {f_law_single_rows : Addr} {od_law_single_rows an_law_single_rows : Option Addr} {sl_law_single_rows : Array (Option Value)} {oc_law_single_rows kV_law_single_rows dc_law_single_rows pm_law_single_rows cd_law_single_rows ct_law_single_rows : Value}
    (a_law_single_rows : PySem.W.nsIn K mainGlobals "_law_single_rows" = some (some (.ref f_law_single_rows)))
    (l_law_single_rows : K.lookup f_law_single_rows = some ⟨oc_law_single_rows, od_law_single_rows, .func (PySem.W.fnOf "_law_single_rows" "_law_single_rows" (defArgs st_law_single_rows) (defBody st_law_single_rows) (defScope st_law_single_rows) .none kV_law_single_rows dc_law_single_rows pm_law_single_rows an_law_single_rows cd_law_single_rows ct_law_single_rows), sl_law_single_rows⟩)
    (c_law_single_rows : PySem.W.codeIn K cd_law_single_rows "_law_single_rows" = true)
    (k_law_single_rows : PySem.W.keepIn K (.ref f_law_single_rows) = true)
    {f_law_some_rows : Addr} {od_law_some_rows an_law_some_rows : Option Addr} {sl_law_some_rows : Array (Option Value)} {oc_law_some_rows kV_law_some_rows dc_law_some_rows pm_law_some_rows cd_law_some_rows ct_law_some_rows : Value}
    (a_law_some_rows : PySem.W.nsIn K mainGlobals "_law_some_rows" = some (some (.ref f_law_some_rows)))
    (l_law_some_rows : K.lookup f_law_some_rows = some ⟨oc_law_some_rows, od_law_some_rows, .func (PySem.W.fnOf "_law_some_rows" "_law_some_rows" (defArgs st_law_some_rows) (defBody st_law_some_rows) (defScope st_law_some_rows) .none kV_law_some_rows dc_law_some_rows pm_law_some_rows an_law_some_rows cd_law_some_rows ct_law_some_rows), sl_law_some_rows⟩)
    (c_law_some_rows : PySem.W.codeIn K cd_law_some_rows "_law_some_rows" = true)
    (k_law_some_rows : PySem.W.keepIn K (.ref f_law_some_rows) = true)
    {f_law_things : Addr} {od_law_things an_law_things : Option Addr} {sl_law_things : Array (Option Value)} {oc_law_things kV_law_things dc_law_things pm_law_things cd_law_things ct_law_things : Value}
    (a_law_things : PySem.W.nsIn K mainGlobals "_law_things" = some (some (.ref f_law_things)))
    (l_law_things : K.lookup f_law_things = some ⟨oc_law_things, od_law_things, .func (PySem.W.fnOf "_law_things" "_law_things" (defArgs st_law_things) (defBody st_law_things) (defScope st_law_things) .none kV_law_things dc_law_things pm_law_things an_law_things cd_law_things ct_law_things), sl_law_things⟩)
    (c_law_things : PySem.W.codeIn K cd_law_things "_law_things" = true)
    (k_law_things : PySem.W.keepIn K (.ref f_law_things) = true)
    {f_law_up_right : Addr} {od_law_up_right an_law_up_right : Option Addr} {sl_law_up_right : Array (Option Value)} {oc_law_up_right kV_law_up_right dc_law_up_right pm_law_up_right cd_law_up_right ct_law_up_right : Value}
    (a_law_up_right : PySem.W.nsIn K mainGlobals "_law_up_right" = some (some (.ref f_law_up_right)))
    (l_law_up_right : K.lookup f_law_up_right = some ⟨oc_law_up_right, od_law_up_right, .func (PySem.W.fnOf "_law_up_right" "_law_up_right" (defArgs st_law_up_right) (defBody st_law_up_right) (defScope st_law_up_right) .none kV_law_up_right dc_law_up_right pm_law_up_right an_law_up_right cd_law_up_right ct_law_up_right), sl_law_up_right⟩)
    (c_law_up_right : PySem.W.codeIn K cd_law_up_right "_law_up_right" = true)
    (k_law_up_right : PySem.W.keepIn K (.ref f_law_up_right) = true)
    {f_first_of : Addr} {od_first_of an_first_of : Option Addr} {sl_first_of : Array (Option Value)} {oc_first_of kV_first_of dc_first_of pm_first_of cd_first_of ct_first_of : Value}
    (a_first_of : PySem.W.nsIn K mainGlobals "first_of" = some (some (.ref f_first_of)))
    (l_first_of : K.lookup f_first_of = some ⟨oc_first_of, od_first_of, .func (PySem.W.fnOf "first_of" "first_of" (defArgs st_first_of) (defBody st_first_of) (defScope st_first_of) .none kV_first_of dc_first_of pm_first_of an_first_of cd_first_of ct_first_of), sl_first_of⟩)
    (c_first_of : PySem.W.codeIn K cd_first_of "first_of" = true)
    (k_first_of : PySem.W.keepIn K (.ref f_first_of) = true)
    {f_agrees_with : Addr} {od_agrees_with an_agrees_with : Option Addr} {sl_agrees_with : Array (Option Value)} {oc_agrees_with kV_agrees_with dc_agrees_with pm_agrees_with cd_agrees_with ct_agrees_with : Value}
    (a_agrees_with : PySem.W.nsIn K mainGlobals "agrees_with" = some (some (.ref f_agrees_with)))
    (l_agrees_with : K.lookup f_agrees_with = some ⟨oc_agrees_with, od_agrees_with, .func (PySem.W.fnOf "agrees_with" "agrees_with" (defArgs st_agrees_with) (defBody st_agrees_with) (defScope st_agrees_with) .none kV_agrees_with dc_agrees_with pm_agrees_with an_agrees_with cd_agrees_with ct_agrees_with), sl_agrees_with⟩)
    (c_agrees_with : PySem.W.codeIn K cd_agrees_with "agrees_with" = true)
    (k_agrees_with : PySem.W.keepIn K (.ref f_agrees_with) = true)
    {f_is_order_of : Addr} {od_is_order_of an_is_order_of : Option Addr} {sl_is_order_of : Array (Option Value)} {oc_is_order_of kV_is_order_of dc_is_order_of pm_is_order_of cd_is_order_of ct_is_order_of : Value}
    (a_is_order_of : PySem.W.nsIn K mainGlobals "is_order_of" = some (some (.ref f_is_order_of)))
    (l_is_order_of : K.lookup f_is_order_of = some ⟨oc_is_order_of, od_is_order_of, .func (PySem.W.fnOf "is_order_of" "is_order_of" (defArgs st_is_order_of) (defBody st_is_order_of) (defScope st_is_order_of) .none kV_is_order_of dc_is_order_of pm_is_order_of an_is_order_of cd_is_order_of ct_is_order_of), sl_is_order_of⟩)
    (c_is_order_of : PySem.W.codeIn K cd_is_order_of "is_order_of" = true)
    (k_is_order_of : PySem.W.keepIn K (.ref f_is_order_of) = true)
    {f_told_pairs : Addr} {od_told_pairs an_told_pairs : Option Addr} {sl_told_pairs : Array (Option Value)} {oc_told_pairs kV_told_pairs dc_told_pairs pm_told_pairs cd_told_pairs ct_told_pairs : Value}
    (a_told_pairs : PySem.W.nsIn K mainGlobals "told_pairs" = some (some (.ref f_told_pairs)))
    (l_told_pairs : K.lookup f_told_pairs = some ⟨oc_told_pairs, od_told_pairs, .func (PySem.W.fnOf "told_pairs" "told_pairs" (defArgs st_told_pairs) (defBody st_told_pairs) (defScope st_told_pairs) .none kV_told_pairs dc_told_pairs pm_told_pairs an_told_pairs cd_told_pairs ct_told_pairs), sl_told_pairs⟩)
    (c_told_pairs : PySem.W.codeIn K cd_told_pairs "told_pairs" = true)
    (k_told_pairs : PySem.W.keepIn K (.ref f_told_pairs) = true)
    {f_least_order : Addr} {od_least_order an_least_order : Option Addr} {sl_least_order : Array (Option Value)} {oc_least_order kV_least_order dc_least_order pm_least_order cd_least_order ct_least_order : Value}
    (a_least_order : PySem.W.nsIn K mainGlobals "least_order" = some (some (.ref f_least_order)))
    (l_least_order : K.lookup f_least_order = some ⟨oc_least_order, od_least_order, .func (PySem.W.fnOf "least_order" "least_order" (defArgs st_least_order) (defBody st_least_order) (defScope st_least_order) .none kV_least_order dc_least_order pm_least_order an_least_order cd_least_order ct_least_order), sl_least_order⟩)
    (c_least_order : PySem.W.codeIn K cd_least_order "least_order" = true)
    (k_least_order : PySem.W.keepIn K (.ref f_least_order) = true)
    {f_is_single : Addr} {od_is_single an_is_single : Option Addr} {sl_is_single : Array (Option Value)} {oc_is_single kV_is_single dc_is_single pm_is_single cd_is_single ct_is_single : Value}
    (a_is_single : PySem.W.nsIn K mainGlobals "is_single" = some (some (.ref f_is_single)))
    (l_is_single : K.lookup f_is_single = some ⟨oc_is_single, od_is_single, .func (PySem.W.fnOf "is_single" "is_single" (defArgs st_is_single) (defBody st_is_single) (defScope st_is_single) .none kV_is_single dc_is_single pm_is_single an_is_single cd_is_single ct_is_single), sl_is_single⟩)
    (c_is_single : PySem.W.codeIn K cd_is_single "is_single" = true)
    (k_is_single : PySem.W.keepIn K (.ref f_is_single) = true)
    {f_single_looked : Addr} {od_single_looked an_single_looked : Option Addr} {sl_single_looked : Array (Option Value)} {oc_single_looked kV_single_looked dc_single_looked pm_single_looked cd_single_looked ct_single_looked : Value}
    (a_single_looked : PySem.W.nsIn K mainGlobals "single_looked" = some (some (.ref f_single_looked)))
    (l_single_looked : K.lookup f_single_looked = some ⟨oc_single_looked, od_single_looked, .func (PySem.W.fnOf "single_looked" "single_looked" (defArgs st_single_looked) (defBody st_single_looked) (defScope st_single_looked) .none kV_single_looked dc_single_looked pm_single_looked an_single_looked cd_single_looked ct_single_looked), sl_single_looked⟩)
    (c_single_looked : PySem.W.codeIn K cd_single_looked "single_looked" = true)
    (k_single_looked : PySem.W.keepIn K (.ref f_single_looked) = true)
    {f_agreeing_looked : Addr} {od_agreeing_looked an_agreeing_looked : Option Addr} {sl_agreeing_looked : Array (Option Value)} {oc_agreeing_looked kV_agreeing_looked dc_agreeing_looked pm_agreeing_looked cd_agreeing_looked ct_agreeing_looked : Value}
    (a_agreeing_looked : PySem.W.nsIn K mainGlobals "agreeing_looked" = some (some (.ref f_agreeing_looked)))
    (l_agreeing_looked : K.lookup f_agreeing_looked = some ⟨oc_agreeing_looked, od_agreeing_looked, .func (PySem.W.fnOf "agreeing_looked" "agreeing_looked" (defArgs st_agreeing_looked) (defBody st_agreeing_looked) (defScope st_agreeing_looked) .none kV_agreeing_looked dc_agreeing_looked pm_agreeing_looked an_agreeing_looked cd_agreeing_looked ct_agreeing_looked), sl_agreeing_looked⟩)
    (c_agreeing_looked : PySem.W.codeIn K cd_agreeing_looked "agreeing_looked" = true)
    (k_agreeing_looked : PySem.W.keepIn K (.ref f_agreeing_looked) = true)
    {f_thing_told : Addr} {od_thing_told an_thing_told : Option Addr} {sl_thing_told : Array (Option Value)} {oc_thing_told kV_thing_told dc_thing_told pm_thing_told cd_thing_told ct_thing_told : Value}
    (a_thing_told : PySem.W.nsIn K mainGlobals "thing_told" = some (some (.ref f_thing_told)))
    (l_thing_told : K.lookup f_thing_told = some ⟨oc_thing_told, od_thing_told, .func (PySem.W.fnOf "thing_told" "thing_told" (defArgs st_thing_told) (defBody st_thing_told) (defScope st_thing_told) .none kV_thing_told dc_thing_told pm_thing_told an_thing_told cd_thing_told ct_thing_told), sl_thing_told⟩)
    (c_thing_told : PySem.W.codeIn K cd_thing_told "thing_told" = true)
    (k_thing_told : PySem.W.keepIn K (.ref f_thing_told) = true)
    {f_two_things : Addr} {od_two_things an_two_things : Option Addr} {sl_two_things : Array (Option Value)} {oc_two_things kV_two_things dc_two_things pm_two_things cd_two_things ct_two_things : Value}
    (a_two_things : PySem.W.nsIn K mainGlobals "two_things" = some (some (.ref f_two_things)))
    (l_two_things : K.lookup f_two_things = some ⟨oc_two_things, od_two_things, .func (PySem.W.fnOf "two_things" "two_things" (defArgs st_two_things) (defBody st_two_things) (defScope st_two_things) .none kV_two_things dc_two_things pm_two_things an_two_things cd_two_things ct_two_things), sl_two_things⟩)
    (c_two_things : PySem.W.codeIn K cd_two_things "two_things" = true)
    (k_two_things : PySem.W.keepIn K (.ref f_two_things) = true)
    {f_against_holds : Addr} {od_against_holds an_against_holds : Option Addr} {sl_against_holds : Array (Option Value)} {oc_against_holds kV_against_holds dc_against_holds pm_against_holds cd_against_holds ct_against_holds : Value}
    (a_against_holds : PySem.W.nsIn K mainGlobals "against_holds" = some (some (.ref f_against_holds)))
    (l_against_holds : K.lookup f_against_holds = some ⟨oc_against_holds, od_against_holds, .func (PySem.W.fnOf "against_holds" "against_holds" (defArgs st_against_holds) (defBody st_against_holds) (defScope st_against_holds) .none kV_against_holds dc_against_holds pm_against_holds an_against_holds cd_against_holds ct_against_holds), sl_against_holds⟩)
    (c_against_holds : PySem.W.codeIn K cd_against_holds "against_holds" = true)
    (k_against_holds : PySem.W.keepIn K (.ref f_against_holds) = true)
    {f_upward_holds : Addr} {od_upward_holds an_upward_holds : Option Addr} {sl_upward_holds : Array (Option Value)} {oc_upward_holds kV_upward_holds dc_upward_holds pm_upward_holds cd_upward_holds ct_upward_holds : Value}
    (a_upward_holds : PySem.W.nsIn K mainGlobals "upward_holds" = some (some (.ref f_upward_holds)))
    (l_upward_holds : K.lookup f_upward_holds = some ⟨oc_upward_holds, od_upward_holds, .func (PySem.W.fnOf "upward_holds" "upward_holds" (defArgs st_upward_holds) (defBody st_upward_holds) (defScope st_upward_holds) .none kV_upward_holds dc_upward_holds pm_upward_holds an_upward_holds cd_upward_holds ct_upward_holds), sl_upward_holds⟩)
    (c_upward_holds : PySem.W.codeIn K cd_upward_holds "upward_holds" = true)
    (k_upward_holds : PySem.W.keepIn K (.ref f_upward_holds) = true)
    {f_law : Addr} {od_law an_law : Option Addr} {sl_law : Array (Option Value)} {oc_law kV_law dc_law pm_law cd_law ct_law : Value}
    (a_law : PySem.W.nsIn K mainGlobals "law" = some (some (.ref f_law)))
    (l_law : K.lookup f_law = some ⟨oc_law, od_law, .func (PySem.W.fnOf "law" "law" (defArgs st_law) (defBody st_law) (defScope st_law) .none kV_law dc_law pm_law an_law cd_law ct_law), sl_law⟩)
    (c_law : PySem.W.codeIn K cd_law "law" = true)
    (k_law : PySem.W.keepIn K (.ref f_law) = true) :
    ∃ fd : FuncData, (∀ (s : Shared) (v : Value), BindsTo s fd ⟨[v], []⟩ [("script", v)]) ∧ ∀ base : Heap, K.In base → base.Ns mainGlobals mg → FnOk l.prog w K mg base (L2.CX l.prog w) 10 fa fd ["script"] (spLaw K) := by
  have e := hfa.symm.trans (PySem.W.mg_of X G a_law)
  cases e
  have I : ∀ k, k < 4 → IsC K ⟨pk [C0, C1, C2, C3], 4⟩ k := fun k hk => by
    match k, hk with
    | 0, _ => exact ⟨ty0, Option.isSome_iff_exists.mp ic0, (fun j hj => by
      match j, hj with
      | 0, _ => exact su0_0
      | 1, _ => exact su0_1
      | 2, _ => exact su0_2
      | 3, _ => exact su0_3
      | j + 4, h => exact absurd (show j + 4 < 4 from h) (by omega)), (fun t ht => by
      simp only [List.mem_cons, List.mem_nil_iff, or_false] at ht
      rcases ht with rfl | rfl | rfl | rfl | rfl | rfl
      · exact bt0_int
      · exact bt0_bool
      · exact bt0_str
      · exact bt0_list
      · exact bt0_tuple
      · exact bt0_dict)⟩
    | 1, _ => exact ⟨ty1, Option.isSome_iff_exists.mp ic1, (fun j hj => by
      match j, hj with
      | 0, _ => exact su1_0
      | 1, _ => exact su1_1
      | 2, _ => exact su1_2
      | 3, _ => exact su1_3
      | j + 4, h => exact absurd (show j + 4 < 4 from h) (by omega)), (fun t ht => by
      simp only [List.mem_cons, List.mem_nil_iff, or_false] at ht
      rcases ht with rfl | rfl | rfl | rfl | rfl | rfl
      · exact bt1_int
      · exact bt1_bool
      · exact bt1_str
      · exact bt1_list
      · exact bt1_tuple
      · exact bt1_dict)⟩
    | 2, _ => exact ⟨ty2, Option.isSome_iff_exists.mp ic2, (fun j hj => by
      match j, hj with
      | 0, _ => exact su2_0
      | 1, _ => exact su2_1
      | 2, _ => exact su2_2
      | 3, _ => exact su2_3
      | j + 4, h => exact absurd (show j + 4 < 4 from h) (by omega)), (fun t ht => by
      simp only [List.mem_cons, List.mem_nil_iff, or_false] at ht
      rcases ht with rfl | rfl | rfl | rfl | rfl | rfl
      · exact bt2_int
      · exact bt2_bool
      · exact bt2_str
      · exact bt2_list
      · exact bt2_tuple
      · exact bt2_dict)⟩
    | 3, _ => exact ⟨ty3, Option.isSome_iff_exists.mp ic3, (fun j hj => by
      match j, hj with
      | 0, _ => exact su3_0
      | 1, _ => exact su3_1
      | 2, _ => exact su3_2
      | 3, _ => exact su3_3
      | j + 4, h => exact absurd (show j + 4 < 4 from h) (by omega)), (fun t ht => by
      simp only [List.mem_cons, List.mem_nil_iff, or_false] at ht
      rcases ht with rfl | rfl | rfl | rfl | rfl | rfl
      · exact bt3_int
      · exact bt3_bool
      · exact bt3_str
      · exact bt3_list
      · exact bt3_tuple
      · exact bt3_dict)⟩
    | k + 4, h => exact absurd h (by omega)
  have gd : ∀ k, k < 4 → GoodC K ⟨pk [C0, C1, C2, C3], 4⟩ k := fun k hk => by
    match k, hk with
    | 0, _ => exact ⟨(show 0 < 4 by decide), ⟨pg0, hd0, po0, sa0⟩, ha0, hn, htk, hm0⟩
    | 1, _ => exact ⟨(show 1 < 4 by decide), ⟨pg1, hd1, po1, sa1⟩, ha1, hn, htk, hm1⟩
    | 2, _ => exact ⟨(show 2 < 4 by decide), ⟨pg2, hd2, po2, sa2⟩, ha2, hn, htk, hm2⟩
    | 3, _ => exact ⟨(show 3 < 4 by decide), ⟨pg3, hd3, po3, sa3⟩, ha3, hn, htk, hm3⟩
    | k + 4, h => exact absurd h (by omega)
  have na_many : ∀ k, k < 4 → NoAttr K (pk [C0, C1, C2, C3] k) "many" := fun k hk => by
    match k, hk with
    | 0, _ => exact n0_many
    | 1, _ => exact n1_many
    | 2, _ => exact n2_many
    | 3, _ => exact n3_many
    | k + 4, h => exact absurd h (by omega)
  have na_order : ∀ k, k < 4 → NoAttr K (pk [C0, C1, C2, C3] k) "order" := fun k hk => by
    match k, hk with
    | 0, _ => exact n0_order
    | 1, _ => exact n1_order
    | 2, _ => exact n2_order
    | 3, _ => exact n3_order
    | k + 4, h => exact absurd h (by omega)
  have na_rows : ∀ k, k < 4 → NoAttr K (pk [C0, C1, C2, C3] k) "rows" := fun k hk => by
    match k, hk with
    | 0, _ => exact n0_rows
    | 1, _ => exact n1_rows
    | 2, _ => exact n2_rows
    | 3, _ => exact n3_rows
    | k + 4, h => exact absurd h (by omega)
  have na_size : ∀ k, k < 4 → NoAttr K (pk [C0, C1, C2, C3] k) "size" := fun k hk => by
    match k, hk with
    | 0, _ => exact n0_size
    | 1, _ => exact n1_size
    | 2, _ => exact n2_size
    | 3, _ => exact n3_size
    | k + 4, h => exact absurd h (by omega)
  have na_things : ∀ k, k < 4 → NoAttr K (pk [C0, C1, C2, C3] k) "things" := fun k hk => by
    match k, hk with
    | 0, _ => exact n0_things
    | 1, _ => exact n1_things
    | 2, _ => exact n2_things
    | 3, _ => exact n3_things
    | k + 4, h => exact absurd h (by omega)
  have F_Against_eq := fun_mk (st := st_Against_eq) l_Against_eq c_Against_eq k_Against_eq
  have b_Against_eq := F_Against_eq.binds (ps := ["self", "other"]) fun _ _ _ _ _ _ us hl => match us, hl with | [_, _], _ => rfl
  have F_frozen := fun_mk (st := st_frozen) l_frozen c_frozen k_frozen
  have b_frozen := F_frozen.binds (ps := ["value"]) fun _ _ _ _ _ _ us hl => match us, hl with | [_], _ => rfl
  have F_Against_init := fun_mk (st := st_Against_init) l_Against_init c_Against_init k_Against_init
  have b_Against_init := F_Against_init.binds (ps := ["self", "order"]) fun _ _ _ _ _ _ us hl => match us, hl with | [_, _], _ => rfl
  have F_Choices_eq := fun_mk (st := st_Choices_eq) l_Choices_eq c_Choices_eq k_Choices_eq
  have b_Choices_eq := F_Choices_eq.binds (ps := ["self", "other"]) fun _ _ _ _ _ _ us hl => match us, hl with | [_, _], _ => rfl
  have F_is_list := fun_mk (st := st_is_list) l_is_list c_is_list k_is_list
  have b_is_list := F_is_list.binds (ps := ["value"]) fun _ _ _ _ _ _ us hl => match us, hl with | [_], _ => rfl
  have F_is_whole := fun_mk (st := st_is_whole) l_is_whole c_is_whole k_is_whole
  have b_is_whole := F_is_whole.binds (ps := ["value"]) fun _ _ _ _ _ _ us hl => match us, hl with | [_], _ => rfl
  have F_is_index := fun_mk (st := st_is_index) l_is_index c_is_index k_is_index
  have b_is_index := F_is_index.binds (ps := ["many", "value"]) fun _ _ _ _ _ _ us hl => match us, hl with | [_, _], _ => rfl
  have F_is_lot_of := fun_mk (st := st_is_lot_of) l_is_lot_of c_is_lot_of k_is_lot_of
  have b_is_lot_of := F_is_lot_of.binds (ps := ["many", "value"]) fun _ _ _ _ _ _ us hl => match us, hl with | [_, _], _ => rfl
  have F_is_choice := fun_mk (st := st_is_choice) l_is_choice c_is_choice k_is_choice
  have b_is_choice := F_is_choice.binds (ps := ["many", "value"]) fun _ _ _ _ _ _ us hl => match us, hl with | [_, _], _ => rfl
  have F_is_name := fun_mk (st := st_is_name) l_is_name c_is_name k_is_name
  have b_is_name := F_is_name.binds (ps := ["value"]) fun _ _ _ _ _ _ us hl => match us, hl with | [_], _ => rfl
  have F_names_looked := fun_mk (st := st_names_looked) l_names_looked c_names_looked k_names_looked
  have b_names_looked := F_names_looked.binds (ps := ["names"]) fun _ _ _ _ _ _ us hl => match us, hl with | [_], _ => rfl
  have F_Choices_init := fun_mk (st := st_Choices_init) l_Choices_init c_Choices_init k_Choices_init
  have b_Choices_init := F_Choices_init.binds (ps := ["self", "things", "rows"]) fun _ _ _ _ _ _ us hl => match us, hl with | [_, _, _], _ => rfl
  have F_Order_eq := fun_mk (st := st_Order_eq) l_Order_eq c_Order_eq k_Order_eq
  have b_Order_eq := F_Order_eq.binds (ps := ["self", "other"]) fun _ _ _ _ _ _ us hl => match us, hl with | [_, _], _ => rfl
  have F_Order_init := fun_mk (st := st_Order_init) l_Order_init c_Order_init k_Order_init
  have b_Order_init := F_Order_init.binds (ps := ["self", "things"]) fun _ _ _ _ _ _ us hl => match us, hl with | [_, _], _ => rfl
  have F_Upward_eq := fun_mk (st := st_Upward_eq) l_Upward_eq c_Upward_eq k_Upward_eq
  have b_Upward_eq := F_Upward_eq.binds (ps := ["self", "other"]) fun _ _ _ _ _ _ us hl => match us, hl with | [_, _], _ => rfl
  have F_Upward_init := fun_mk (st := st_Upward_init) l_Upward_init c_Upward_init k_Upward_init
  have b_Upward_init := F_Upward_init.binds (ps := ["self", "rows"]) fun _ _ _ _ _ _ us hl => match us, hl with | [_, _], _ => rfl
  have F_law_first := fun_mk (st := st_law_first) l_law_first c_law_first k_law_first
  have b_law_first := F_law_first.binds (ps := ["order", "seen"]) fun _ _ _ _ _ _ us hl => match us, hl with | [_, _], _ => rfl
  have F_law_is_int := fun_mk (st := st_law_is_int) l_law_is_int c_law_is_int k_law_is_int
  have b_law_is_int := F_law_is_int.binds (ps := ["thing"]) fun _ _ _ _ _ _ us hl => match us, hl with | [_], _ => rfl
  have F_law_against_right := fun_mk (st := st_law_against_right) l_law_against_right c_law_against_right k_law_against_right
  have b_law_against_right := F_law_against_right.binds (ps := ["many", "rows", "i", "j", "order"]) fun _ _ _ _ _ _ us hl => match us, hl with | [_, _, _, _, _], _ => rfl
  have F_law_orders := fun_mk (st := st_law_orders) l_law_orders c_law_orders k_law_orders
  have b_law_orders := F_law_orders.binds (ps := ["many"]) fun _ _ _ _ _ _ us hl => match us, hl with | [_], _ => rfl
  have F_law_agreeing := fun_mk (st := st_law_agreeing) l_law_agreeing c_law_agreeing k_law_agreeing
  have b_law_agreeing := F_law_agreeing.binds (ps := ["many", "rows"]) fun _ _ _ _ _ _ us hl => match us, hl with | [_, _], _ => rfl
  have F_law_draw := fun_mk (st := st_law_draw) l_law_draw c_law_draw k_law_draw
  have b_law_draw := F_law_draw.binds (ps := ["pen", "many"]) fun _ _ _ _ _ _ us hl => match us, hl with | [_, _], _ => rfl
  have F_law_pen := fun_mk (st := st_law_pen) l_law_pen c_law_pen k_law_pen
  have b_law_pen := F_law_pen.binds (ps := ["script"]) fun _ _ _ _ _ _ us hl => match us, hl with | [_], _ => rfl
  have F_law_pick := fun_mk (st := st_law_pick) l_law_pick c_law_pick k_law_pick
  have b_law_pick := F_law_pick.binds (ps := ["pen", "some"]) fun _ _ _ _ _ _ us hl => match us, hl with | [_, _], _ => rfl
  have F_law_shuffled := fun_mk (st := st_law_shuffled) l_law_shuffled c_law_shuffled k_law_shuffled
  have b_law_shuffled := F_law_shuffled.binds (ps := ["pen", "some"]) fun _ _ _ _ _ _ us hl => match us, hl with | [_, _], _ => rfl
  have F_law_some_list := fun_mk (st := st_law_some_list) l_law_some_list c_law_some_list k_law_some_list
  have b_law_some_list := F_law_some_list.binds (ps := ["pen", "many"]) fun _ _ _ _ _ _ us hl => match us, hl with | [_, _], _ => rfl
  have F_law_single_rows := fun_mk (st := st_law_single_rows) l_law_single_rows c_law_single_rows k_law_single_rows
  have b_law_single_rows := F_law_single_rows.binds (ps := ["pen", "many", "size"]) fun _ _ _ _ _ _ us hl => match us, hl with | [_, _, _], _ => rfl
  have F_law_some_rows := fun_mk (st := st_law_some_rows) l_law_some_rows c_law_some_rows k_law_some_rows
  have b_law_some_rows := F_law_some_rows.binds (ps := ["pen", "rows"]) fun _ _ _ _ _ _ us hl => match us, hl with | [_, _], _ => rfl
  have F_law_things := fun_mk (st := st_law_things) l_law_things c_law_things k_law_things
  have b_law_things := F_law_things.binds (ps := ["many"]) fun _ _ _ _ _ _ us hl => match us, hl with | [_], _ => rfl
  have F_law_up_right := fun_mk (st := st_law_up_right) l_law_up_right c_law_up_right k_law_up_right
  have b_law_up_right := F_law_up_right.binds (ps := ["rows", "i", "j", "steps"]) fun _ _ _ _ _ _ us hl => match us, hl with | [_, _, _, _], _ => rfl
  have F_first_of := fun_mk (st := st_first_of) l_first_of c_first_of k_first_of
  have b_first_of := F_first_of.binds (ps := ["order", "seen"]) fun _ _ _ _ _ _ us hl => match us, hl with | [_, _], _ => rfl
  have F_agrees_with := fun_mk (st := st_agrees_with) l_agrees_with c_agrees_with k_agrees_with
  have b_agrees_with := F_agrees_with.binds (ps := ["choices", "order"]) fun _ _ _ _ _ _ us hl => match us, hl with | [_, _], _ => rfl
  have F_is_order_of := fun_mk (st := st_is_order_of) l_is_order_of c_is_order_of k_is_order_of
  have b_is_order_of := F_is_order_of.binds (ps := ["many", "value"]) fun _ _ _ _ _ _ us hl => match us, hl with | [_, _], _ => rfl
  have F_told_pairs := fun_mk (st := st_told_pairs) l_told_pairs c_told_pairs k_told_pairs
  have b_told_pairs := F_told_pairs.binds (ps := ["choices"]) fun _ _ _ _ _ _ us hl => match us, hl with | [_], _ => rfl
  have F_least_order := fun_mk (st := st_least_order) l_least_order c_least_order k_least_order
  have b_least_order := F_least_order.binds (ps := ["choices"]) fun _ _ _ _ _ _ us hl => match us, hl with | [_], _ => rfl
  have F_is_single := fun_mk (st := st_is_single) l_is_single c_is_single k_is_single
  have b_is_single := F_is_single.binds (ps := ["choices"]) fun _ _ _ _ _ _ us hl => match us, hl with | [_], _ => rfl
  have F_single_looked := fun_mk (st := st_single_looked) l_single_looked c_single_looked k_single_looked
  have b_single_looked := F_single_looked.binds (ps := ["choices"]) fun _ _ _ _ _ _ us hl => match us, hl with | [_], _ => rfl
  have F_agreeing_looked := fun_mk (st := st_agreeing_looked) l_agreeing_looked c_agreeing_looked k_agreeing_looked
  have b_agreeing_looked := F_agreeing_looked.binds (ps := ["choices"]) fun _ _ _ _ _ _ us hl => match us, hl with | [_], _ => rfl
  have F_thing_told := fun_mk (st := st_thing_told) l_thing_told c_thing_told k_thing_told
  have b_thing_told := F_thing_told.binds (ps := ["choices", "thing"]) fun _ _ _ _ _ _ us hl => match us, hl with | [_, _], _ => rfl
  have F_two_things := fun_mk (st := st_two_things) l_two_things c_two_things k_two_things
  have b_two_things := F_two_things.binds (ps := ["choices", "thing", "other"]) fun _ _ _ _ _ _ us hl => match us, hl with | [_, _, _], _ => rfl
  have F_against_holds := fun_mk (st := st_against_holds) l_against_holds c_against_holds k_against_holds
  have b_against_holds := F_against_holds.binds (ps := ["choices", "thing", "other", "value"]) fun _ _ _ _ _ _ us hl => match us, hl with | [_, _, _, _], _ => rfl
  have F_upward_holds := fun_mk (st := st_upward_holds) l_upward_holds c_upward_holds k_upward_holds
  have b_upward_holds := F_upward_holds.binds (ps := ["choices", "thing", "other", "value"]) fun _ _ _ _ _ _ us hl => match us, hl with | [_, _, _, _], _ => rfl
  have F_law := fun_mk (st := st_law) l_law c_law k_law
  have b_law := F_law.binds (ps := ["script"]) fun _ _ _ _ _ _ us hl => match us, hl with | [_], _ => rfl
  have T : Txt K mg (pk [C0, C1, C2, C3]) := { I := I, gd := gd, n_many := na_many, n_order := na_order, n_rows := na_rows, n_size := na_size, n_things := na_things, m_all := PySem.W.mg_none_of X G z_all, m_any := PySem.W.mg_none_of X G z_any, m_bool := PySem.W.mg_none_of X G z_bool, m_int := PySem.W.mg_none_of X G z_int, m_isinstance := PySem.W.mg_none_of X G z_isinstance, m_len := PySem.W.mg_none_of X G z_len, m_list := PySem.W.mg_none_of X G z_list, m_range := PySem.W.mg_none_of X G z_range, m_sorted := PySem.W.mg_none_of X G z_sorted, m_str := PySem.W.mg_none_of X G z_str, m_tuple := PySem.W.mg_none_of X G z_tuple, g_LETTERS := y_LETTERS.imp fun _ h => PySem.W.mg_of X G h, g_SIGNS := y_SIGNS.imp fun _ h => PySem.W.mg_of X G h, c_Choices := PySem.W.mg_of X G aC0, c_Order := PySem.W.mg_of X G aC1, c_Upward := PySem.W.mg_of X G aC2, c_Against := PySem.W.mg_of X G aC3, d_Against_eq := ⟨⟨_, _, F_Against_eq, b_Against_eq, a_Against_eq, i_Against_eq⟩, ne_Against_eq⟩, d_frozen := ⟨⟨_, _, F_frozen, PySem.W.mg_of X G a_frozen, b_frozen⟩⟩, d_Against_init := ⟨⟨_, _, F_Against_init, ⟨mk3, a_Against_init, i_Against_init, kc3⟩, b_Against_init⟩⟩, d_Choices_eq := ⟨⟨_, _, F_Choices_eq, b_Choices_eq, a_Choices_eq, i_Choices_eq⟩, ne_Choices_eq⟩, d_is_list := ⟨⟨_, _, F_is_list, PySem.W.mg_of X G a_is_list, b_is_list⟩⟩, d_is_whole := ⟨⟨_, _, F_is_whole, PySem.W.mg_of X G a_is_whole, b_is_whole⟩⟩, d_is_index := ⟨⟨_, _, F_is_index, PySem.W.mg_of X G a_is_index, b_is_index⟩⟩, d_is_lot_of := ⟨⟨_, _, F_is_lot_of, PySem.W.mg_of X G a_is_lot_of, b_is_lot_of⟩⟩, d_is_choice := ⟨⟨_, _, F_is_choice, PySem.W.mg_of X G a_is_choice, b_is_choice⟩⟩, d_is_name := ⟨⟨_, _, F_is_name, PySem.W.mg_of X G a_is_name, b_is_name⟩⟩, d_names_looked := ⟨⟨_, _, F_names_looked, PySem.W.mg_of X G a_names_looked, b_names_looked⟩⟩, d_Choices_init := ⟨⟨_, _, F_Choices_init, ⟨mk0, a_Choices_init, i_Choices_init, kc0⟩, b_Choices_init⟩⟩, d_Order_eq := ⟨⟨_, _, F_Order_eq, b_Order_eq, a_Order_eq, i_Order_eq⟩, ne_Order_eq⟩, d_Order_init := ⟨⟨_, _, F_Order_init, ⟨mk1, a_Order_init, i_Order_init, kc1⟩, b_Order_init⟩⟩, d_Upward_eq := ⟨⟨_, _, F_Upward_eq, b_Upward_eq, a_Upward_eq, i_Upward_eq⟩, ne_Upward_eq⟩, d_Upward_init := ⟨⟨_, _, F_Upward_init, ⟨mk2, a_Upward_init, i_Upward_init, kc2⟩, b_Upward_init⟩⟩, d_law_first := ⟨⟨_, _, F_law_first, PySem.W.mg_of X G a_law_first, b_law_first⟩⟩, d_law_is_int := ⟨⟨_, _, F_law_is_int, PySem.W.mg_of X G a_law_is_int, b_law_is_int⟩⟩, d_law_against_right := ⟨⟨_, _, F_law_against_right, PySem.W.mg_of X G a_law_against_right, b_law_against_right⟩⟩, d_law_orders := ⟨⟨_, _, F_law_orders, PySem.W.mg_of X G a_law_orders, b_law_orders⟩⟩, d_law_agreeing := ⟨⟨_, _, F_law_agreeing, PySem.W.mg_of X G a_law_agreeing, b_law_agreeing⟩⟩, d_law_draw := ⟨⟨_, _, F_law_draw, PySem.W.mg_of X G a_law_draw, b_law_draw⟩⟩, d_law_pen := ⟨⟨_, _, F_law_pen, PySem.W.mg_of X G a_law_pen, b_law_pen⟩⟩, d_law_pick := ⟨⟨_, _, F_law_pick, PySem.W.mg_of X G a_law_pick, b_law_pick⟩⟩, d_law_shuffled := ⟨⟨_, _, F_law_shuffled, PySem.W.mg_of X G a_law_shuffled, b_law_shuffled⟩⟩, d_law_some_list := ⟨⟨_, _, F_law_some_list, PySem.W.mg_of X G a_law_some_list, b_law_some_list⟩⟩, d_law_single_rows := ⟨⟨_, _, F_law_single_rows, PySem.W.mg_of X G a_law_single_rows, b_law_single_rows⟩⟩, d_law_some_rows := ⟨⟨_, _, F_law_some_rows, PySem.W.mg_of X G a_law_some_rows, b_law_some_rows⟩⟩, d_law_things := ⟨⟨_, _, F_law_things, PySem.W.mg_of X G a_law_things, b_law_things⟩⟩, d_law_up_right := ⟨⟨_, _, F_law_up_right, PySem.W.mg_of X G a_law_up_right, b_law_up_right⟩⟩, d_first_of := ⟨⟨_, _, F_first_of, PySem.W.mg_of X G a_first_of, b_first_of⟩⟩, d_agrees_with := ⟨⟨_, _, F_agrees_with, PySem.W.mg_of X G a_agrees_with, b_agrees_with⟩⟩, d_is_order_of := ⟨⟨_, _, F_is_order_of, PySem.W.mg_of X G a_is_order_of, b_is_order_of⟩⟩, d_told_pairs := ⟨⟨_, _, F_told_pairs, PySem.W.mg_of X G a_told_pairs, b_told_pairs⟩⟩, d_least_order := ⟨⟨_, _, F_least_order, PySem.W.mg_of X G a_least_order, b_least_order⟩⟩, d_is_single := ⟨⟨_, _, F_is_single, PySem.W.mg_of X G a_is_single, b_is_single⟩⟩, d_single_looked := ⟨⟨_, _, F_single_looked, PySem.W.mg_of X G a_single_looked, b_single_looked⟩⟩, d_agreeing_looked := ⟨⟨_, _, F_agreeing_looked, PySem.W.mg_of X G a_agreeing_looked, b_agreeing_looked⟩⟩, d_thing_told := ⟨⟨_, _, F_thing_told, PySem.W.mg_of X G a_thing_told, b_thing_told⟩⟩, d_two_things := ⟨⟨_, _, F_two_things, PySem.W.mg_of X G a_two_things, b_two_things⟩⟩, d_against_holds := ⟨⟨_, _, F_against_holds, PySem.W.mg_of X G a_against_holds, b_against_holds⟩⟩, d_upward_holds := ⟨⟨_, _, F_upward_holds, PySem.W.mg_of X G a_upward_holds, b_upward_holds⟩⟩, d_law := ⟨⟨_, _, F_law, PySem.W.mg_of X G a_law, b_law⟩⟩ }
  exact ⟨PySem.W.fnOf "law" "law" (defArgs st_law) (defBody st_law) (defScope st_law) .none kV_law dc_law pm_law an_law cd_law ct_law, fun s v => .of_eq rfl, fun base _ _ => law_ok (okl T F_law) law_true⟩

end Law
open PySem PySem.W PyProof.Rows in
set_option maxRecDepth 100000 in
set_option maxHeartbeats 0 in
theorem PySem.Challenge.cw_anytaste_k60_papers_of_orders_judged_holds : PySem.Challenge.rw_anytaste_k60_papers_of_orders_judged.Holds := by
  w_on; o_law; k_head; (case hw => w_witness2)
  k_fill
  refine Law.walk (l := PySem.Challenge.rw_anytaste_k60_papers_of_orders_judged) rfl rfl (fun w h Y => PySem.W.kIn_of Y) ?F
  case F =>
    intro w mg fa h KX G hmg
    refine' Law.all_mk KX G hmg ?z_all ?z_any ?z_bool ?z_int ?z_isinstance ?z_len ?z_list ?z_range ?z_sorted ?z_str ?z_tuple ?y_LETTERS ?y_SIGNS ?aC0 ?aC1 ?aC2 ?aC3 ?hn ?htk ?ic0 ?ty0 ?su0_0 ?su0_1 ?su0_2 ?su0_3 ?bt0_int ?bt0_bool ?bt0_str ?bt0_list ?bt0_tuple ?bt0_dict ?pg0 ?hd0 ?po0 ?sa0 ?ha0 ?hm0 ?mk0 ?kc0 ?n0_many ?n0_order ?n0_rows ?n0_size ?n0_things ?ic1 ?ty1 ?su1_0 ?su1_1 ?su1_2 ?su1_3 ?bt1_int ?bt1_bool ?bt1_str ?bt1_list ?bt1_tuple ?bt1_dict ?pg1 ?hd1 ?po1 ?sa1 ?ha1 ?hm1 ?mk1 ?kc1 ?n1_many ?n1_order ?n1_rows ?n1_size ?n1_things ?ic2 ?ty2 ?su2_0 ?su2_1 ?su2_2 ?su2_3 ?bt2_int ?bt2_bool ?bt2_str ?bt2_list ?bt2_tuple ?bt2_dict ?pg2 ?hd2 ?po2 ?sa2 ?ha2 ?hm2 ?mk2 ?kc2 ?n2_many ?n2_order ?n2_rows ?n2_size ?n2_things ?ic3 ?ty3 ?su3_0 ?su3_1 ?su3_2 ?su3_3 ?bt3_int ?bt3_bool ?bt3_str ?bt3_list ?bt3_tuple ?bt3_dict ?pg3 ?hd3 ?po3 ?sa3 ?ha3 ?hm3 ?mk3 ?kc3 ?n3_many ?n3_order ?n3_rows ?n3_size ?n3_things ?a_Against_eq ?l_Against_eq ?c_Against_eq ?k_Against_eq ?i_Against_eq ?ne_Against_eq ?a_frozen ?l_frozen ?c_frozen ?k_frozen ?a_Against_init ?l_Against_init ?c_Against_init ?k_Against_init ?i_Against_init ?a_Choices_eq ?l_Choices_eq ?c_Choices_eq ?k_Choices_eq ?i_Choices_eq ?ne_Choices_eq ?a_is_list ?l_is_list ?c_is_list ?k_is_list ?a_is_whole ?l_is_whole ?c_is_whole ?k_is_whole ?a_is_index ?l_is_index ?c_is_index ?k_is_index ?a_is_lot_of ?l_is_lot_of ?c_is_lot_of ?k_is_lot_of ?a_is_choice ?l_is_choice ?c_is_choice ?k_is_choice ?a_is_name ?l_is_name ?c_is_name ?k_is_name ?a_names_looked ?l_names_looked ?c_names_looked ?k_names_looked ?a_Choices_init ?l_Choices_init ?c_Choices_init ?k_Choices_init ?i_Choices_init ?a_Order_eq ?l_Order_eq ?c_Order_eq ?k_Order_eq ?i_Order_eq ?ne_Order_eq ?a_Order_init ?l_Order_init ?c_Order_init ?k_Order_init ?i_Order_init ?a_Upward_eq ?l_Upward_eq ?c_Upward_eq ?k_Upward_eq ?i_Upward_eq ?ne_Upward_eq ?a_Upward_init ?l_Upward_init ?c_Upward_init ?k_Upward_init ?i_Upward_init ?a_law_first ?l_law_first ?c_law_first ?k_law_first ?a_law_is_int ?l_law_is_int ?c_law_is_int ?k_law_is_int ?a_law_against_right ?l_law_against_right ?c_law_against_right ?k_law_against_right ?a_law_orders ?l_law_orders ?c_law_orders ?k_law_orders ?a_law_agreeing ?l_law_agreeing ?c_law_agreeing ?k_law_agreeing ?a_law_draw ?l_law_draw ?c_law_draw ?k_law_draw ?a_law_pen ?l_law_pen ?c_law_pen ?k_law_pen ?a_law_pick ?l_law_pick ?c_law_pick ?k_law_pick ?a_law_shuffled ?l_law_shuffled ?c_law_shuffled ?k_law_shuffled ?a_law_some_list ?l_law_some_list ?c_law_some_list ?k_law_some_list ?a_law_single_rows ?l_law_single_rows ?c_law_single_rows ?k_law_single_rows ?a_law_some_rows ?l_law_some_rows ?c_law_some_rows ?k_law_some_rows ?a_law_things ?l_law_things ?c_law_things ?k_law_things ?a_law_up_right ?l_law_up_right ?c_law_up_right ?k_law_up_right ?a_first_of ?l_first_of ?c_first_of ?k_first_of ?a_agrees_with ?l_agrees_with ?c_agrees_with ?k_agrees_with ?a_is_order_of ?l_is_order_of ?c_is_order_of ?k_is_order_of ?a_told_pairs ?l_told_pairs ?c_told_pairs ?k_told_pairs ?a_least_order ?l_least_order ?c_least_order ?k_least_order ?a_is_single ?l_is_single ?c_is_single ?k_is_single ?a_single_looked ?l_single_looked ?c_single_looked ?k_single_looked ?a_agreeing_looked ?l_agreeing_looked ?c_agreeing_looked ?k_agreeing_looked ?a_thing_told ?l_thing_told ?c_thing_told ?k_thing_told ?a_two_things ?l_two_things ?c_two_things ?k_two_things ?a_against_holds ?l_against_holds ?c_against_holds ?k_against_holds ?a_upward_holds ?l_upward_holds ?c_upward_holds ?k_upward_holds ?a_law ?l_law ?c_law ?k_law
    (case z_all => k_is)
    (case z_any => k_is)
    (case z_bool => k_is)
    (case z_int => k_is)
    (case z_isinstance => k_is)
    (case z_len => k_is)
    (case z_list => k_is)
    (case z_range => k_is)
    (case z_sorted => k_is)
    (case z_str => k_is)
    (case z_tuple => k_is)
    (case y_LETTERS => exact ⟨_, by k_is⟩)
    (case y_SIGNS => exact ⟨_, by k_is⟩)
    (case aC0 => k_is)
    (case aC1 => k_is)
    (case aC2 => k_is)
    (case aC3 => k_is)
    (case hn => k_is)
    (case htk => k_is)
    (case ic0 => k_is)
    (case ty0 => k_is)
    (case su0_0 => k_is)
    (case su0_1 => k_is)
    (case su0_2 => k_is)
    (case su0_3 => k_is)
    (case bt0_int => k_is)
    (case bt0_bool => k_is)
    (case bt0_str => k_is)
    (case bt0_list => k_is)
    (case bt0_tuple => k_is)
    (case bt0_dict => k_is)
    (case pg0 => k_is)
    (case hd0 => k_is)
    (case po0 => k_is)
    (case sa0 => k_is)
    (case ha0 => k_is)
    (case hm0 => k_is)
    (case mk0 => k_is)
    (case kc0 => k_is)
    (case n0_many => k_is)
    (case n0_order => k_is)
    (case n0_rows => k_is)
    (case n0_size => k_is)
    (case n0_things => k_is)
    (case ic1 => k_is)
    (case ty1 => k_is)
    (case su1_0 => k_is)
    (case su1_1 => k_is)
    (case su1_2 => k_is)
    (case su1_3 => k_is)
    (case bt1_int => k_is)
    (case bt1_bool => k_is)
    (case bt1_str => k_is)
    (case bt1_list => k_is)
    (case bt1_tuple => k_is)
    (case bt1_dict => k_is)
    (case pg1 => k_is)
    (case hd1 => k_is)
    (case po1 => k_is)
    (case sa1 => k_is)
    (case ha1 => k_is)
    (case hm1 => k_is)
    (case mk1 => k_is)
    (case kc1 => k_is)
    (case n1_many => k_is)
    (case n1_order => k_is)
    (case n1_rows => k_is)
    (case n1_size => k_is)
    (case n1_things => k_is)
    (case ic2 => k_is)
    (case ty2 => k_is)
    (case su2_0 => k_is)
    (case su2_1 => k_is)
    (case su2_2 => k_is)
    (case su2_3 => k_is)
    (case bt2_int => k_is)
    (case bt2_bool => k_is)
    (case bt2_str => k_is)
    (case bt2_list => k_is)
    (case bt2_tuple => k_is)
    (case bt2_dict => k_is)
    (case pg2 => k_is)
    (case hd2 => k_is)
    (case po2 => k_is)
    (case sa2 => k_is)
    (case ha2 => k_is)
    (case hm2 => k_is)
    (case mk2 => k_is)
    (case kc2 => k_is)
    (case n2_many => k_is)
    (case n2_order => k_is)
    (case n2_rows => k_is)
    (case n2_size => k_is)
    (case n2_things => k_is)
    (case ic3 => k_is)
    (case ty3 => k_is)
    (case su3_0 => k_is)
    (case su3_1 => k_is)
    (case su3_2 => k_is)
    (case su3_3 => k_is)
    (case bt3_int => k_is)
    (case bt3_bool => k_is)
    (case bt3_str => k_is)
    (case bt3_list => k_is)
    (case bt3_tuple => k_is)
    (case bt3_dict => k_is)
    (case pg3 => k_is)
    (case hd3 => k_is)
    (case po3 => k_is)
    (case sa3 => k_is)
    (case ha3 => k_is)
    (case hm3 => k_is)
    (case mk3 => k_is)
    (case kc3 => k_is)
    (case n3_many => k_is)
    (case n3_order => k_is)
    (case n3_rows => k_is)
    (case n3_size => k_is)
    (case n3_things => k_is)
    (case a_Against_eq => k_is)
    (case l_Against_eq => k_is)
    (case c_Against_eq => k_is)
    (case k_Against_eq => k_is)
    (case i_Against_eq => k_is)
    (case ne_Against_eq => k_is)
    (case a_frozen => k_is)
    (case l_frozen => k_is)
    (case c_frozen => k_is)
    (case k_frozen => k_is)
    (case a_Against_init => k_is)
    (case l_Against_init => k_is)
    (case c_Against_init => k_is)
    (case k_Against_init => k_is)
    (case i_Against_init => k_is)
    (case a_Choices_eq => k_is)
    (case l_Choices_eq => k_is)
    (case c_Choices_eq => k_is)
    (case k_Choices_eq => k_is)
    (case i_Choices_eq => k_is)
    (case ne_Choices_eq => k_is)
    (case a_is_list => k_is)
    (case l_is_list => k_is)
    (case c_is_list => k_is)
    (case k_is_list => k_is)
    (case a_is_whole => k_is)
    (case l_is_whole => k_is)
    (case c_is_whole => k_is)
    (case k_is_whole => k_is)
    (case a_is_index => k_is)
    (case l_is_index => k_is)
    (case c_is_index => k_is)
    (case k_is_index => k_is)
    (case a_is_lot_of => k_is)
    (case l_is_lot_of => k_is)
    (case c_is_lot_of => k_is)
    (case k_is_lot_of => k_is)
    (case a_is_choice => k_is)
    (case l_is_choice => k_is)
    (case c_is_choice => k_is)
    (case k_is_choice => k_is)
    (case a_is_name => k_is)
    (case l_is_name => k_is)
    (case c_is_name => k_is)
    (case k_is_name => k_is)
    (case a_names_looked => k_is)
    (case l_names_looked => k_is)
    (case c_names_looked => k_is)
    (case k_names_looked => k_is)
    (case a_Choices_init => k_is)
    (case l_Choices_init => k_is)
    (case c_Choices_init => k_is)
    (case k_Choices_init => k_is)
    (case i_Choices_init => k_is)
    (case a_Order_eq => k_is)
    (case l_Order_eq => k_is)
    (case c_Order_eq => k_is)
    (case k_Order_eq => k_is)
    (case i_Order_eq => k_is)
    (case ne_Order_eq => k_is)
    (case a_Order_init => k_is)
    (case l_Order_init => k_is)
    (case c_Order_init => k_is)
    (case k_Order_init => k_is)
    (case i_Order_init => k_is)
    (case a_Upward_eq => k_is)
    (case l_Upward_eq => k_is)
    (case c_Upward_eq => k_is)
    (case k_Upward_eq => k_is)
    (case i_Upward_eq => k_is)
    (case ne_Upward_eq => k_is)
    (case a_Upward_init => k_is)
    (case l_Upward_init => k_is)
    (case c_Upward_init => k_is)
    (case k_Upward_init => k_is)
    (case i_Upward_init => k_is)
    (case a_law_first => k_is)
    (case l_law_first => k_is)
    (case c_law_first => k_is)
    (case k_law_first => k_is)
    (case a_law_is_int => k_is)
    (case l_law_is_int => k_is)
    (case c_law_is_int => k_is)
    (case k_law_is_int => k_is)
    (case a_law_against_right => k_is)
    (case l_law_against_right => k_is)
    (case c_law_against_right => k_is)
    (case k_law_against_right => k_is)
    (case a_law_orders => k_is)
    (case l_law_orders => k_is)
    (case c_law_orders => k_is)
    (case k_law_orders => k_is)
    (case a_law_agreeing => k_is)
    (case l_law_agreeing => k_is)
    (case c_law_agreeing => k_is)
    (case k_law_agreeing => k_is)
    (case a_law_draw => k_is)
    (case l_law_draw => k_is)
    (case c_law_draw => k_is)
    (case k_law_draw => k_is)
    (case a_law_pen => k_is)
    (case l_law_pen => k_is)
    (case c_law_pen => k_is)
    (case k_law_pen => k_is)
    (case a_law_pick => k_is)
    (case l_law_pick => k_is)
    (case c_law_pick => k_is)
    (case k_law_pick => k_is)
    (case a_law_shuffled => k_is)
    (case l_law_shuffled => k_is)
    (case c_law_shuffled => k_is)
    (case k_law_shuffled => k_is)
    (case a_law_some_list => k_is)
    (case l_law_some_list => k_is)
    (case c_law_some_list => k_is)
    (case k_law_some_list => k_is)
    (case a_law_single_rows => k_is)
    (case l_law_single_rows => k_is)
    (case c_law_single_rows => k_is)
    (case k_law_single_rows => k_is)
    (case a_law_some_rows => k_is)
    (case l_law_some_rows => k_is)
    (case c_law_some_rows => k_is)
    (case k_law_some_rows => k_is)
    (case a_law_things => k_is)
    (case l_law_things => k_is)
    (case c_law_things => k_is)
    (case k_law_things => k_is)
    (case a_law_up_right => k_is)
    (case l_law_up_right => k_is)
    (case c_law_up_right => k_is)
    (case k_law_up_right => k_is)
    (case a_first_of => k_is)
    (case l_first_of => k_is)
    (case c_first_of => k_is)
    (case k_first_of => k_is)
    (case a_agrees_with => k_is)
    (case l_agrees_with => k_is)
    (case c_agrees_with => k_is)
    (case k_agrees_with => k_is)
    (case a_is_order_of => k_is)
    (case l_is_order_of => k_is)
    (case c_is_order_of => k_is)
    (case k_is_order_of => k_is)
    (case a_told_pairs => k_is)
    (case l_told_pairs => k_is)
    (case c_told_pairs => k_is)
    (case k_told_pairs => k_is)
    (case a_least_order => k_is)
    (case l_least_order => k_is)
    (case c_least_order => k_is)
    (case k_least_order => k_is)
    (case a_is_single => k_is)
    (case l_is_single => k_is)
    (case c_is_single => k_is)
    (case k_is_single => k_is)
    (case a_single_looked => k_is)
    (case l_single_looked => k_is)
    (case c_single_looked => k_is)
    (case k_single_looked => k_is)
    (case a_agreeing_looked => k_is)
    (case l_agreeing_looked => k_is)
    (case c_agreeing_looked => k_is)
    (case k_agreeing_looked => k_is)
    (case a_thing_told => k_is)
    (case l_thing_told => k_is)
    (case c_thing_told => k_is)
    (case k_thing_told => k_is)
    (case a_two_things => k_is)
    (case l_two_things => k_is)
    (case c_two_things => k_is)
    (case k_two_things => k_is)
    (case a_against_holds => k_is)
    (case l_against_holds => k_is)
    (case c_against_holds => k_is)
    (case k_against_holds => k_is)
    (case a_upward_holds => k_is)
    (case l_upward_holds => k_is)
    (case c_upward_holds => k_is)
    (case k_upward_holds => k_is)
    (case a_law => k_is)
    (case l_law => k_is)
    (case c_law => k_is)
    (case k_law => k_is)
