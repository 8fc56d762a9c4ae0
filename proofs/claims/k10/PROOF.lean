import PyProof.Rows.All
import Wide.All
import OpenK.AllK
import Wide.FinOn
import HandS.ForMost
import HandS.Lambda
import HandS.Wide
import HandS.HeadHook4
import HandS.ExcOwn
import HandS.ExcCtx
import HandS.Style
import HandS.Deep
import HandS.TupMul
import HandS.IsInst
import HandS.SortInts
import HandS.Defaults
import HandS.Hot
import HandS.HotCalls
import HandS.ExcIs
import KE.KIntText
import PySem.Challenge.RW_noughtsums_k10_whole_numbers
import HandS.Head0
import HandS.Head1
import HandS.Head2
import HandS.HeadHook1
import HandS.HeadHook2
import HandS.HeadHook3
import HandS.HeadWalk
import PyProof.ExcBaseAll.ValueError
set_option Elab.async false
set_option linter.all false
set_option maxRecDepth 100000
/-! NzCore: trees, a small language, its evaluator. Plain Lean: no program, no heap. -/
namespace Nz
open PySem
abbrev D := PyData
/-- what an evaluation gives: a value, an exception by its class's name, or nothing that is told -/
inductive R (α : Type) where
  | ok (a : α) | exc (c : String) | err
namespace R
@[simp] def bind {α β : Type} : R α → (α → R β) → R β
  | .ok a, f => f a
  | .exc c, _ => .exc c
  | .err, _ => .err
def bool : D → R Bool
  | .bool b => .ok b
  | _ => .err
def list : D → R (List D)
  | .list l => .ok l
  | _ => .err
end R
/-- a slot: a value, or a list or dict of the def's own that is still changed -/
inductive Sl where
  | val (d : D) | own (d : D)
abbrev Env := List (Option Sl)
inductive Bop where
  | add | sub | mul | fdiv | mod | pow
inductive Cop where
  | eq | ne | lt | le | gt | ge | is | isnt | isin | notin
inductive Ty where
  | int | bool | list | tuple | str
inductive Blt where
  | abs | sum | max | min | all | any | int | str | list | tuple
inductive Ik where
  | lst | rng1 | rng2 | zip | enum
inductive Pat where
  | nm (i : Nat) | p2 (a b : Pat)
inductive E where
  | con (d : D) | var (i : Nat) | rd (i : Nat)
  | bin (o : Bop) (a b : E) | neg (a : E)
  | cmp (o : Cop) (a b : E) | cmp2 (o p : Cop) (a b c : E)
  | not (a : E) | and (a b : E) | or (a b : E) | ife (t a b : E)
  | nil | cons (a as : E) | tup (as : E) | lst (as : E) | dic
  | idx (a i : E) | sli (a lo hi : E) | rev (a : E)
  | call (f : String) (as : E) | blt (f : Blt) (as : E) | met (m : Str) (a as : E)
  | isi (a : E) (ty : Ty) | len (a : E) | srt (a : E)
  | ssort (a : E) | slen (a : E)
  | comp (own : List Nat) (pat : Pat) (k : Ik) (src tst elt : E)
  | told (a : E)
inductive S where
  | skip | seq (a b : S)
  | asg (i : Nat) (e : E) | asgO (i : Nat) (e : E) | asgP (p : Pat) (e : E) | par (i j : Nat) (a b : E)
  | app (i : Nat) (e : E) | ext (i : Nat) (e : E) | ins (i : Nat) (a e : E) | put (i : Nat) (k e : E)
  | exp (e : E) | ite (c : E) (a b : S) | whl (c : E) (b : S)
  | for (p : Pat) (k : Ik) (src : E) (b : S)
  | ret (e : E) | rse (c : String) | frz (is : List Nat)
/-! ### operations on trees -/
def LINE : Nat := 16777216
def okMul (i j : Int) : Bool := decide (i.natAbs < 2 ^ 64) || decide (j.natAbs < 2 ^ 64) || decide (i.natAbs.log2 + j.natAbs.log2 < 1000000)
def okDiv (j : Int) : Bool := decide (j ≠ 0) && decide (j.natAbs.log2 < 9000)
def okPow (i j : Int) : Bool := decide (0 ≤ j) && decide (j.natAbs ≤ 1000000) && decide (i.natAbs < 2 ^ 64)
def okRep (l : Nat) (k : Int) : Bool := decide (k.natAbs < 2 ^ 62) && decide (l * k.toNat ≤ LINE)
def addD : D → D → R D
  | .int i, .int j => .ok (.int (i + j))
  | .str a, .str b => if a.length + b.length ≤ LINE then .ok (.str (a ++ b)) else .err
  | .list a, .list b => if a.length + b.length ≤ LINE then .ok (.list (a ++ b)) else .err
  | _, _ => .err
def subD : D → D → R D
  | .int i, .int j => .ok (.int (i - j))
  | _, _ => .err
def mulD : D → D → R D
  | .int i, .int j => if okMul i j then .ok (.int (i * j)) else .err
  | .list a, .int j => if okRep a.length j then .ok (.list (List.replicate j.toNat a).flatten) else .err
  | .tuple a, .int j => if a.length ≤ 1000 ∧ a.isEmpty = false ∧ 1 ≤ j ∧ j.natAbs ≤ 1000 then .ok (.tuple (List.replicate j.toNat a).flatten) else .err
  | .str a, .int j => if okRep a.length j then .ok (.str (Txt.mul a j)) else .err
  | _, _ => .err
def fdivD : D → D → R D
  | .int i, .int j => if okDiv j then .ok (.int (i.fdiv j)) else .err
  | _, _ => .err
def modD : D → D → R D
  | .int i, .int j => if j = 0 then .err else .ok (.int (i.fmod j))
  | _, _ => .err
def powD : D → D → R D
  | .int i, .int j => if okPow i j then .ok (.int (i ^ j.toNat)) else .err
  | _, _ => .err
def binD : Bop → D → D → R D
  | .add => addD
  | .sub => subD
  | .mul => mulD
  | .fdiv => fdivD
  | .mod => modD
  | .pow => powD
def intsD : List D → Option (List Int)
  | [] => some []
  | .int i :: l => (intsD l).map (i :: ·)
  | _ :: _ => none
def shp (d : D) : Bool := SeqAt.shaped d
/-- the script, as a tree that no other thing is -/
abbrev scrD (ns : List Int) : D := .dict [(.none, .list (ns.map .int))]
def eqD (a b : D) : R Bool := match a, b with
  | .dict [(.none, .list l)], .list [] => .ok l.isEmpty
  | .dict _, _ => .err
  | _, .dict _ => .err
  | a, b => if shp a && shp b then .ok (PyData.eqv a b) else .err
def relD (f : Int → Int → Bool) : D → D → R Bool
  | .int i, .int j => .ok (f i j)
  | _, _ => .err
def isD : D → D → R Bool
  | a, .none => .ok (match a with | .none => true | _ => false)
  | .bool a, .bool b => .ok (a == b)
  | _, _ => .err
def inD : D → D → R Bool
  | a, .list l => if shp a && shp (.list l) then .ok (l.any fun z => PyData.eqv z a) else .err
  | _, _ => .err
def neg (r : R Bool) : R Bool := r.bind fun c => .ok (!c)
def cmpD : Cop → D → D → R Bool
  | .eq, a, b => eqD a b
  | .ne, a, b => neg (eqD a b)
  | .lt, a, b => relD (fun i j => decide (i < j)) a b
  | .le, a, b => relD (fun i j => decide (i ≤ j)) a b
  | .gt, a, b => relD (fun i j => decide (j < i)) a b
  | .ge, a, b => relD (fun i j => decide (j ≤ i)) a b
  | .is, a, b => isD a b
  | .isnt, a, b => neg (isD a b)
  | .isin, a, b => inD a b
  | .notin, a, b => neg (inD a b)
/-- isinstance with a built-in type -/
def isiD : D → Ty → R Bool
  | .none, _ => .ok false
  | .bool _, .bool => .ok true
  | .bool _, .int => .ok true
  | .bool _, _ => .ok false
  | .int _, .int => .ok true
  | .int _, _ => .ok false
  | .str _, .str => .ok true
  | .str _, _ => .ok false
  | .list _, .list => .ok true
  | .list _, _ => .ok false
  | .tuple _, .tuple => .ok true
  | .tuple _, _ => .ok false
  | .dict _, _ => .err
def idxD : D → D → R D
  | .list l, .int i => match L2.atI l i with | some d => .ok d | none => .err
  | .tuple l, .int i => match L2.atI l i with | some d => .ok d | none => .err
  | .dict [(.none, .list l)], .int i => match L2.atI l i with | some d => .ok d | none => .err
  | _, _ => .err
def isNone : E → Bool
  | .con .none => true
  | _ => false
/-- a slice's part, left out where it is the constant None -/
def partE (e : E) (r : R D) : R (Option Int) := if isNone e then .ok none else r.bind fun d => match d with
  | .int i => .ok (some i)
  | _ => .err
def cutD (xs : List D) (lo hi : Option Int) : List D := (xs.drop (HT.sIx xs.length 0 lo)).take (HT.sIx xs.length xs.length hi - HT.sIx xs.length 0 lo)
def sliD : D → Option Int → Option Int → R D
  | .list l, lo, hi => .ok (.list (cutD l lo hi))
  | .str x, lo, hi => if x.length ≤ LINE then .ok (.str (L2.cutS x lo hi)) else .err
  | _, _, _ => .err
/-- ints sorted, by putting in -/
def putI (x : Int) : List Int → List Int
  | [] => [x]
  | y :: l => if x ≤ y then x :: y :: l else y :: putI x l
def srtI : List Int → List Int
  | [] => []
  | x :: l => putI x (srtI l)
def boolsD : List D → Option (List Bool)
  | [] => some []
  | .bool i :: l => (boolsD l).map (i :: ·)
  | _ :: _ => none
/-- built-in functions -/
def bltD : Blt → List D → R D
  | .abs, [.int i] => .ok (.int (if i < 0 then -i else i))
  | .sum, [.list l] => (match intsD l with | some is => .ok (.int is.sum) | none => .err)
  | .max, [.int i, .int j] => .ok (.int (if j > i then j else i))
  | .min, [.int i, .int j] => .ok (.int (if j < i then j else i))
  | .all, [.list l] => (match boolsD l with | some is => .ok (.bool (is.all id)) | none => .err)
  | .any, [.list l] => (match boolsD l with | some is => .ok (.bool (is.any id)) | none => .err)
  | .int, [.int i] => .ok (.int i)
  | .int, [.bool b] => .ok (.int (if b then 1 else 0))
  | .int, [.str x] => if x.length ≤ 640 then (match PySem.intText? x with | some n => .ok (.int n) | none => .err) else .err
  | .str, [.int i] => if i.natAbs.log2 < 1920 then .ok (.str (toString i)) else .err
  | .list, [.list l] => .ok (.list l)
  | .list, [.tuple l] => .ok (.list l)
  | .tuple, [.list l] => .ok (.tuple l)
  | .tuple, [.tuple l] => .ok (.tuple l)
  | _, _ => .err
def lenD : D → R D
  | .list l => .ok (.int l.length)
  | .tuple l => .ok (.int l.length)
  | .str x => if x.length ≤ LINE then .ok (.int x.length) else .err
  | .dict [(.none, .list l)] => .ok (.int l.length)
  | _ => .err
def srtD : D → R D
  | .list l => (match intsD l with | some is => .ok (.list ((srtI is).map .int)) | none => .err)
  | _ => .err
def metD (m : Str) (a : D) (as : List D) : R D := .err
/-- what is walked, as a list -/
def itD : Ik → D → R (List D)
  | .lst, .list l => .ok l
  | .lst, .tuple l => .ok l
  | .rng1, .list [.int n] => if n.natAbs < 2 ^ 62 then .ok ((List.range n.toNat).map fun (i : Nat) => .int (0 + (i : Int))) else .err
  | .rng2, .list [.int a, .int b] => if a.natAbs < 2 ^ 62 ∧ b.natAbs < 2 ^ 62 then .ok ((List.range (b - a).toNat).map fun (i : Nat) => .int (a + (i : Int))) else .err
  | .zip, .list [.list a, .list b] => .ok (List.zipWith (fun x y => .tuple [x, y]) a b)
  | .enum, .list [.list a] => .ok (a.mapIdx fun (i : Nat) x => .tuple [.int (i : Int), x])
  | _, _ => .err
/-- a target takes a value -/
def bindP : Pat → D → Env → R Env
  | .nm i, d, ρ => .ok (ρ.set i (some (.val d)))
  | .p2 a b, d, ρ => match d with
    | .tuple [x, y] => (bindP a x ρ).bind fun ρ1 => bindP b y ρ1
    | _ => .err
def wipeE (ρ : Env) : List Nat → Env
  | [] => ρ
  | i :: r => (wipeE ρ r).set i none
def getV (ρ : Env) (i : Nat) : R D := match ρ[i]? with
  | some (some (.val d)) => .ok d
  | _ => .err
def getR (ρ : Env) (i : Nat) : R D := match ρ[i]? with
  | some (some (.val d)) => .ok d
  | some (some (.own d)) => .ok d
  | _ => .err
def compL (b : D → R Env) (t e : Env → R D) : List D → R (List D)
  | [] => .ok []
  | x :: xs => (b x).bind fun ρ => (t ρ).bind fun c => match c with
    | .bool true => (e ρ).bind fun y => (compL b t e xs).bind fun ys => .ok (y :: ys)
    | .bool false => compL b t e xs
    | _ => .err
/-- no exception out of a comprehension is told -/
def shut {α : Type} : R α → R α
  | .exc _ => .err
  | r => r
/-- the words for the refusals, in the order of the law's list -/
def evE (Φ : String → List D → R D) : E → Env → R D
  | .con d, _ => .ok d
  | .var i, ρ => getV ρ i
  | .rd i, ρ => getR ρ i
  | .bin o a b, ρ => (evE Φ a ρ).bind fun x => (evE Φ b ρ).bind fun y => binD o x y
  | .neg a, ρ => (evE Φ a ρ).bind fun x => match x with | .int i => .ok (.int (-i)) | _ => .err
  | .cmp o a b, ρ => (evE Φ a ρ).bind fun x => (evE Φ b ρ).bind fun y => (cmpD o x y).bind fun c => .ok (.bool c)
  | .cmp2 o p a b c, ρ => (evE Φ a ρ).bind fun x => (evE Φ b ρ).bind fun y => (cmpD o x y).bind fun k =>
      if k then (evE Φ c ρ).bind fun z => (cmpD p y z).bind fun c => .ok (.bool c) else .ok (.bool false)
  | .not a, ρ => (evE Φ a ρ).bind fun x => (R.bool x).bind fun c => .ok (.bool (!c))
  | .and a b, ρ => (evE Φ a ρ).bind fun x => (R.bool x).bind fun c => if c then evE Φ b ρ else .ok (.bool false)
  | .or a b, ρ => (evE Φ a ρ).bind fun x => (R.bool x).bind fun c => if c then .ok (.bool true) else evE Φ b ρ
  | .ife t a b, ρ => (evE Φ t ρ).bind fun x => (R.bool x).bind fun c => if c then evE Φ a ρ else evE Φ b ρ
  | .nil, _ => .ok (.list [])
  | .cons a as, ρ => (evE Φ a ρ).bind fun x => (evE Φ as ρ).bind fun y => (R.list y).bind fun l => .ok (.list (x :: l))
  | .tup as, ρ => (evE Φ as ρ).bind fun y => (R.list y).bind fun l => if l.length ≤ LINE then .ok (.tuple l) else .err
  | .lst as, ρ => (evE Φ as ρ).bind fun y => (R.list y).bind fun l => if l.length ≤ LINE then .ok (.list l) else .err
  | .dic, _ => .ok (.dict [])
  | .idx a i, ρ => (evE Φ a ρ).bind fun x => (evE Φ i ρ).bind fun y => idxD x y
  | .sli a lo hi, ρ => (evE Φ a ρ).bind fun x => (partE lo (evE Φ lo ρ)).bind fun l => (partE hi (evE Φ hi ρ)).bind fun h => sliD x l h
  | .rev a, ρ => (evE Φ a ρ).bind fun x => (R.list x).bind fun l => .ok (.list l.reverse)
  | .call f as, ρ => (evE Φ as ρ).bind fun y => (R.list y).bind fun l => Φ f l
  | .blt f as, ρ => (evE Φ as ρ).bind fun y => (R.list y).bind fun l => bltD f l
  | .met m a as, ρ => (evE Φ a ρ).bind fun x => (evE Φ as ρ).bind fun y => (R.list y).bind fun l => metD m x l
  | .isi a ty, ρ => (evE Φ a ρ).bind fun x => (isiD x ty).bind fun c => .ok (.bool c)
  | .len a, ρ => (evE Φ a ρ).bind lenD
  | .srt a, ρ => (evE Φ a ρ).bind srtD
  | .ssort a, ρ => .err
  | .slen a, ρ => .err
  | .comp own pat k src tst elt, ρ => (evE Φ src ρ).bind fun s => (itD k s).bind fun items =>
      (shut (compL (fun x => bindP pat x (wipeE ρ own)) (fun ρ1 => evE Φ tst ρ1) (fun ρ1 => evE Φ elt ρ1) items)).bind fun l => if l.length ≤ LINE then .ok (.list l) else .err
  | .told a, ρ => match evE Φ a ρ with
    | .ok d => .ok d
    | .exc c => Φ "_law_word" [.str (c : Str)]
    | .err => .err
/-! ### statements -/
inductive Out where
  | nx (ρ : Env) | rt (d : D) | xc (c : String) | er
def FUEL : Nat := 1099511627776
def Rout {α : Type} (r : R α) (f : α → Out) : Out := match r with
  | .ok a => f a
  | .exc c => .xc c
  | .err => .er
def whileF (c : Env → R D) (b : Env → Out) : Nat → Env → Out
  | 0, _ => .er
  | n + 1, ρ => Rout (c ρ) fun x => match x with
    | .bool true => (match b ρ with
      | .nx ρ' => whileF c b n ρ'
      | r => r)
    | .bool false => .nx ρ
    | _ => .er
def forF (bd : D → Env → R Env) (b : Env → Out) : List D → Env → Out
  | [], ρ => .nx ρ
  | x :: xs, ρ => match bd x ρ with
    | .ok ρ1 => (match b ρ1 with
      | .nx ρ' => forF bd b xs ρ'
      | r => r)
    | _ => .er
def frzE (ρ : Env) (i : Nat) : Env := match ρ[i]? with
  | some (some (.own d)) => ρ.set i (some (.val d))
  | _ => ρ
def getO (ρ : Env) (i : Nat) : R D := match ρ[i]? with
  | some (some (.own d)) => .ok d
  | _ => .err
def exS (Φ : String → List D → R D) : S → Env → Out
  | .skip, ρ => .nx ρ
  | .seq a b, ρ => (match exS Φ a ρ with
    | .nx ρ' => exS Φ b ρ'
    | r => r)
  | .asg i e, ρ => Rout (evE Φ e ρ) fun d => .nx (ρ.set i (some (.val d)))
  | .asgO i e, ρ => Rout (evE Φ e ρ) fun d => .nx (ρ.set i (some (.own d)))
  | .asgP p e, ρ => Rout (evE Φ e ρ) fun d => match bindP p d ρ with | .ok ρ' => .nx ρ' | _ => .er
  | .par i j a b, ρ => Rout (evE Φ a ρ) fun x => Rout (evE Φ b ρ) fun y => .nx ((ρ.set i (some (.val x))).set j (some (.val y)))
  | .app i e, ρ => (match getO ρ i with
    | .ok (.list l) => Rout (evE Φ e ρ) fun d => if l.length < LINE then .nx (ρ.set i (some (.own (.list (l ++ [d]))))) else .er
    | _ => .er)
  | .ext i e, ρ => (match getO ρ i with
    | .ok (.list l) => Rout (evE Φ e ρ) fun d => match d with
      | .list m => if l.length + m.length ≤ LINE then .nx (ρ.set i (some (.own (.list (l ++ m))))) else .er
      | _ => .er
    | _ => .er)
  | .ins _ _ _, _ => .er
  | .put i k e, ρ => Rout (evE Φ e ρ) fun d => (match getO ρ i with
    | .ok (.list l) => Rout (evE Φ k ρ) fun k => match k with
      | .int j => (match L2.ixN l.length j with | some m => .nx (ρ.set i (some (.own (.list (l.set m d))))) | none => .er)
      | _ => .er
    | _ => .er)
  | .exp e, ρ => Rout (evE Φ e ρ) fun _ => .nx ρ
  | .ite c a b, ρ => Rout (evE Φ c ρ) fun x => match x with
    | .bool true => exS Φ a ρ
    | .bool false => exS Φ b ρ
    | _ => .er
  | .whl c b, ρ => whileF (fun ρ => evE Φ c ρ) (fun ρ => exS Φ b ρ) FUEL ρ
  | .for p k src b, ρ => Rout ((evE Φ src ρ).bind fun s => itD k s) fun items => forF (fun x ρ => bindP p x ρ) (fun ρ => exS Φ b ρ) items ρ
  | .ret e, ρ => Rout (evE Φ e ρ) fun d => .rt d
  | .rse c, _ => .xc c
  | .frz is, ρ => .nx (is.foldl frzE ρ)
/-- a def's body at its arguments; n: how many names it has -/
def run (Φ : String → List D → R D) (n : Nat) (b : S) (as : List D) : R D := match exS Φ b (as.map (fun d => some (.val d)) ++ List.replicate (n - as.length) none) with
  | .nx _ => .ok .none
  | .rt d => .ok d
  | .xc c => .exc c
  | .er => .err
end Nz

set_option maxHeartbeats 2000000
/-! NzRel: how a tree lies in the heap; steps of the heap; readings by the evaluator. -/
namespace Nz
open PySem PySem.Spec PyProof.Rows L2 LamX
def kD : Key → D
  | .inl i => .int i
  | .inr x => .str x
mutual
/-- the value v is the tree d, in the part G of the heap -/
inductive Dr (K : PySem.W.Frag) (G : Hp) : V → D → Prop
  | non : Dr K G .non .none
  | bl (b : Bool) : Dr K G (.bl b) (.bool b)
  | int (i : Int) : Dr K G (.int i) (.int i)
  | str (x : Str) : Dr K G (.str x) (.str x)
  | lst {a : Addr} {xs : List V} {ds : List D} : G a = some (.lst xs) → DrA K G xs ds → Dr K G (.ref a) (.list ds)
  | tup {a : Addr} {xs : List V} {ds : List D} : G a = some (.tup xs) → DrA K G xs ds → Dr K G (.ref a) (.tuple ds)
  | dic {a : Addr} {kvs : List (Key × V)} {ds : List (D × D)} : Rd G a (.dK kvs) → ds.map Prod.fst = kvs.map (fun p => kD p.1) → DrA K G (kvs.map Prod.snd) (ds.map Prod.snd) → Dr K G (.ref a) (.dict ds)
  | scr {a : Addr} {ns : List Int} : SqL K G a (ns.map V.int) → Dr K G (.ref a) (scrD ns)
inductive DrA (K : PySem.W.Frag) (G : Hp) : List V → List D → Prop
  | nil : DrA K G [] []
  | cons {v : V} {vs : List V} {d : D} {ds : List D} : Dr K G v d → DrA K G vs ds → DrA K G (v :: vs) (d :: ds)
end
/-- the part G lies in H -/
def Sub (G H : Hp) : Prop := ∀ b o, G b = some o → H b = some o
theorem Rd.sub {G H : Hp} (s : Sub G H) {a : Addr} {u : HO} (r : Rd G a u) : Rd H a u := by
  rcases r with r | ⟨o, r⟩
  · exact .inl (s _ _ r)
  · exact .inr ⟨o, s _ _ r⟩
theorem SqL.sub {K : PySem.W.Frag} {G H : Hp} (s : Sub G H) {a : Addr} {xs : List V} (h : SqL K G a xs) : SqL K H a xs := by
  rcases h with h | h
  · exact .inl (Rd.sub s h)
  · exact .inr h
mutual
theorem Dr.sub {K : PySem.W.Frag} {G H : Hp} (s : Sub G H) : ∀ {v : V} {d : D}, Dr K G v d → Dr K H v d
  | _, _, .non => .non
  | _, _, .bl b => .bl b
  | _, _, .int i => .int i
  | _, _, .str x => .str x
  | _, _, .lst h a => .lst (s _ _ h) (DrA.sub s a)
  | _, _, .tup h a => .tup (s _ _ h) (DrA.sub s a)
  | _, _, .dic h e a => .dic (Rd.sub s h) e (DrA.sub s a)
  | _, _, .scr h => .scr (SqL.sub s h)
theorem DrA.sub {K : PySem.W.Frag} {G H : Hp} (s : Sub G H) : ∀ {vs : List V} {ds : List D}, DrA K G vs ds → DrA K H vs ds
  | _, _, .nil => .nil
  | _, _, .cons h a => .cons (Dr.sub s h) (DrA.sub s a)
end
theorem DrA.length {K : PySem.W.Frag} {G : Hp} : ∀ {vs : List V} {ds : List D}, DrA K G vs ds → vs.length = ds.length
  | _, _, .nil => rfl
  | _, _, .cons _ a => by rw [List.length_cons, List.length_cons, DrA.length a]
theorem DrA.get {K : PySem.W.Frag} {G : Hp} : ∀ {vs : List V} {ds : List D} (i : Nat) {d : D}, DrA K G vs ds → ds[i]? = some d → ∃ v, vs[i]? = some v ∧ Dr K G v d
  | _, _, i, _, .nil, e => by simp at e
  | _, _, 0, _, .cons h a, e => by simp at e; subst e; exact ⟨_, rfl, h⟩
  | _, _, i + 1, _, .cons h a, e => by
    obtain ⟨v, h1, h2⟩ := DrA.get i a (by simpa using e)
    exact ⟨v, by simpa using h1, h2⟩
theorem DrA.append {K : PySem.W.Frag} {G : Hp} : ∀ {vs ws : List V} {ds es : List D}, DrA K G vs ds → DrA K G ws es → DrA K G (vs ++ ws) (ds ++ es)
  | _, _, _, _, .nil, b => b
  | _, _, _, _, .cons h a, b => .cons h (DrA.append a b)
theorem DrA.take {K : PySem.W.Frag} {G : Hp} : ∀ {vs : List V} {ds : List D} (n : Nat), DrA K G vs ds → DrA K G (vs.take n) (ds.take n)
  | _, _, 0, _ => by simpa using DrA.nil
  | _, _, n + 1, .nil => .nil
  | _, _, n + 1, .cons h a => .cons h (DrA.take n a)
theorem DrA.drop {K : PySem.W.Frag} {G : Hp} : ∀ {vs : List V} {ds : List D} (n : Nat), DrA K G vs ds → DrA K G (vs.drop n) (ds.drop n)
  | _, _, 0, a => a
  | _, _, n + 1, .nil => .nil
  | _, _, n + 1, .cons h a => DrA.drop n a
theorem DrA.set {K : PySem.W.Frag} {G : Hp} {v : V} {d : D} (h : Dr K G v d) : ∀ {vs : List V} {ds : List D} (i : Nat), DrA K G vs ds → DrA K G (vs.set i v) (ds.set i d)
  | _, _, _, .nil => .nil
  | _, _, 0, .cons _ a => .cons h a
  | _, _, i + 1, .cons q a => .cons q (DrA.set h i a)
theorem DrA.ints {K : PySem.W.Frag} {G : Hp} : ∀ (ns : List Int), DrA K G (ns.map V.int) (ns.map .int)
  | [] => .nil
  | n :: ns => .cons (.int n) (DrA.ints ns)
theorem DrA.ints_inv {K : PySem.W.Frag} {G : Hp} : ∀ {ds : List D} {ns : List Int} {vs : List V}, intsD ds = some ns → DrA K G vs ds → vs = ns.map V.int
  | [], ns, vs, e, a => by cases a; simp [intsD] at e; subst e; rfl
  | d :: ds, ns, vs, e, a => by
    obtain _ | ⟨h, a⟩ := a
    cases h with
    | int i =>
      simp only [intsD, Option.map_eq_some_iff] at e
      obtain ⟨ms, e1, e2⟩ := e
      subst e2
      rw [DrA.ints_inv e1 a]; rfl
    | _ => simp [intsD, scrD] at e
theorem DrA.bools_inv {K : PySem.W.Frag} {G : Hp} : ∀ {ds : List D} {ns : List Bool} {vs : List V}, boolsD ds = some ns → DrA K G vs ds → vs = ns.map V.bl
  | [], ns, vs, e, a => by cases a; simp [boolsD] at e; subst e; rfl
  | d :: ds, ns, vs, e, a => by
    obtain _ | ⟨h, a⟩ := a
    cases h with
    | bl i =>
      simp only [boolsD, Option.map_eq_some_iff] at e
      obtain ⟨ms, e1, e2⟩ := e
      subst e2
      rw [DrA.bools_inv e1 a]; rfl
    | _ => simp [boolsD, scrD] at e
mutual
theorem Dr.dp {K : PySem.W.Frag} {G : Hp} : ∀ {v : V} {d : D}, d.canLay0 = true → Dr K G v d → Dp K G v d
  | _, _, _, .non => .non
  | _, _, _, .bl b => .bl b
  | _, _, _, .int i => .int i
  | _, _, _, .str x => .str x
  | _, _, c, .lst h a => .lst (SqL.of h) (DrA.dp (by simpa [PyData.canLay0] using c) a)
  | _, _, c, .tup h a => .tup (SqT.of h) (DrA.dp (by simpa [PyData.canLay0] using c) a)
  | _, _, c, .dic _ _ _ => by simp [PyData.canLay0] at c
  | _, _, c, .scr _ => by simp [PyData.canLay0, scrD] at c
theorem DrA.dp {K : PySem.W.Frag} {G : Hp} : ∀ {vs : List V} {ds : List D}, PyData.canLayAll0 ds = true → DrA K G vs ds → DpAll K G vs ds
  | _, _, _, .nil => .nil
  | _, d :: ds, c, .cons h a => by
    have c' : d.canLay0 = true ∧ PyData.canLayAll0 ds = true := by simpa [PyData.canLayAll0] using c
    exact .cons (Dr.dp c'.1 h) (DrA.dp c'.2 a)
end
theorem shp_lay {d : D} (h : shp d = true) : d.canLay0 = true := SeqAt.canLay_of_shaped h
/-! ### steps of the heap -/
/-- no table is in the part -/
def NoT (G : Hp) : Prop := ∀ b ps, G b ≠ some (.tbl ps)
theorem NoT.upd {G : Hp} (h : NoT G) {p : Addr} {o : HO} (ho : ∀ ps, o ≠ HO.tbl ps) : NoT (upd G p o) := fun b ps e => by
  by_cases hb : b = p
  · subst hb; rw [upd_same] at e; exact ho ps (Option.some.inj e)
  · rw [upd_ne hb] at e; exact h b ps e
/-- from the part G of H to the part G' of H': what stood stands (tables may grow), what was not in the part is not -/
structure Stp (T : List (Addr × Str)) (G H G' H' : Hp) : Prop where
  sub : Sub G' H'
  gg : Sub G G'
  hh : ExtN H H'
  nn : ∀ b o, G b = none → H b = some o → (∀ ps, o ≠ .tbl ps) → G' b = none
  tb : Tabs T H'
  ntt : NoT G → NoT G'
section
variable {T : List (Addr × Str)} {K : PySem.W.Frag} {G H G' H' G2 H2 : Hp}
theorem Stp.refl (s : Sub G H) (t : Tabs T H) : Stp T G H G H := ⟨s, fun _ _ h => h, ExtN.refl H, fun _ _ h _ _ => h, t, id⟩
theorem Stp.trans (a : Stp T G H G' H') (b : Stp T G' H' G2 H2) : Stp T G H G2 H2 where
  sub := b.sub
  gg := fun c o h => b.gg c o (a.gg c o h)
  hh := a.hh.trans b.hh
  nn := fun c o h n q => b.nn c o (a.nn c o h n q) (a.hh c o n q) q
  tb := b.tb
  ntt := fun h => b.ntt (a.ntt h)
theorem sub_upd (s : Sub G H) {p : Addr} {o : HO} : Sub (upd G p o) (upd H p o) := fun b u e => by
  by_cases hb : b = p
  · subst hb; rw [upd_same] at e ⊢; exact e
  · rw [upd_ne hb] at e ⊢; exact s _ _ e
theorem sub_new {p : Addr} (n : G p = none) {o : HO} : Sub G (upd G p o) := fun b u e => by rw [upd_ne (ne_of_none e n)]; exact e
theorem none_sub (s : Sub G H) {p : Addr} (n : H p = none) : G p = none := by
  cases e : G p with
  | none => rfl
  | some o => rw [s _ _ e] at n; cases n
/-- a new object -/
theorem Stp.new (s : Sub G H) (t : Tabs T H) {p : Addr} (n : H p = none) (o : HO) (ho : ∀ ps, o ≠ HO.tbl ps := by intro _ z; cases z) : Stp T G H (upd G p o) (upd H p o) where
  sub := sub_upd s
  gg := sub_new (none_sub s n)
  hh := ExtN.of fun b u e => by rw [upd_ne (ne_of_none e n)]; exact e
  nn := fun b u h1 h2 _ => by rw [upd_ne (ne_of_none h2 n)]; exact h1
  tb := t.ext fun b u e => by rw [upd_ne (ne_of_none e n)]; exact e
  ntt := fun h b ps e => by
    by_cases hb : b = p
    · subst hb; rw [upd_same] at e; exact ho ps (Option.some.inj e)
    · rw [upd_ne hb] at e; exact h b ps e
theorem Dr.stp (st : Stp T G H G' H') {v : V} {d : D} (h : Dr K G v d) : Dr K G' v d := h.sub st.gg
/-! ### what is wanted behind an evaluation -/
/-- W: what is wanted of an exception by its class's name -/
def Wp (K : PySem.W.Frag) (T : List (Addr × Str)) (W : XK) (r : R D) (G H : Hp) (Q : VK) : Prop := match r with
  | .ok d => ∀ G' H' v, Stp T G H G' H' → Dr K G' v d → Q v H'
  | .exc c => ∀ G' H', Stp T G H G' H' → W (.ref (He.ga K (c : Str))) none H'
  | .err => False
def WpA (K : PySem.W.Frag) (T : List (Addr × Str)) (W : XK) (r : R D) (G H : Hp) (Q : List V → Hp → Prop) : Prop := match r with
  | .ok (.list ds) => ∀ G' H' vs, Stp T G H G' H' → DrA K G' vs ds → Q vs H'
  | .ok _ => False
  | .exc c => ∀ G' H', Stp T G H G' H' → W (.ref (He.ga K (c : Str))) none H'
  | .err => False
def WpB (K : PySem.W.Frag) (T : List (Addr × Str)) (W : XK) (r : R D) (G H : Hp) (Q : Bool → Hp → Prop) : Prop := match r with
  | .ok (.bool b) => ∀ G' H', Stp T G H G' H' → Q b H'
  | .ok _ => False
  | .exc c => ∀ G' H', Stp T G H G' H' → W (.ref (He.ga K (c : Str))) none H'
  | .err => False
variable {W : XK} {Q Q' : VK}
theorem Wp.imp {r : R D} (h : Wp K T W r G H Q) (f : ∀ v H', Q v H' → Q' v H') : Wp K T W r G H Q' := by
  cases r with
  | ok d => exact fun G' H' v st dr => f _ _ (h G' H' v st dr)
  | exc c => exact h
  | err => exact h
theorem Wp.stp {r : R D} (h : Wp K T W r G H Q) (st : Stp T G H G' H') : Wp K T W r G' H' Q := by
  cases r with
  | ok d => exact fun G2 H2 v s2 dr => h G2 H2 v (st.trans s2) dr
  | exc c => exact fun G2 H2 s2 => h G2 H2 (st.trans s2)
  | err => exact h
theorem WpB.stp {r : R D} {Q : Bool → Hp → Prop} (h : WpB K T W r G H Q) (st : Stp T G H G' H') : WpB K T W r G' H' Q := by
  cases r with
  | ok d =>
    cases d with
    | bool b => exact fun G2 H2 s2 => h G2 H2 (st.trans s2)
    | _ => exact h
  | exc c => exact fun G2 H2 s2 => h G2 H2 (st.trans s2)
  | err => exact h
theorem WpA.stp {r : R D} {Q : List V → Hp → Prop} (h : WpA K T W r G H Q) (st : Stp T G H G' H') : WpA K T W r G' H' Q := by
  cases r with
  | ok d =>
    cases d with
    | list ds => exact fun G2 H2 v s2 dr => h G2 H2 v (st.trans s2) dr
    | _ => exact h
  | exc c => exact fun G2 H2 s2 => h G2 H2 (st.trans s2)
  | err => exact h
/-- first r, then k of what it gives -/
theorem Wp.bind {r : R D} {k : D → R D} (h : Wp K T W (r.bind k) G H Q) :
    Wp K T W r G H fun v H1 => ∃ G1 d, r = .ok d ∧ Stp T G H G1 H1 ∧ Dr K G1 v d ∧ Wp K T W (k d) G1 H1 Q := by
  cases r with
  | ok d => exact fun G1 H1 v st dr => ⟨G1, d, rfl, st, dr, Wp.stp (show Wp K T W (k d) G H Q from h) st⟩
  | exc c => exact h
  | err => exact h
theorem Wp.bindA {r : R D} {k : D → R D} {Q : List V → Hp → Prop} (h : WpA K T W (r.bind k) G H Q) :
    Wp K T W r G H fun v H1 => ∃ G1 d, r = .ok d ∧ Stp T G H G1 H1 ∧ Dr K G1 v d ∧ WpA K T W (k d) G1 H1 Q := by
  cases r with
  | ok d => exact fun G1 H1 v st dr => ⟨G1, d, rfl, st, dr, WpA.stp (show WpA K T W (k d) G H Q from h) st⟩
  | exc c => exact h
  | err => exact h
/-- an argument list, then k of it -/
theorem WpA.bindL {r : R D} {k : List D → R D} (h : Wp K T W (r.bind fun y => (R.list y).bind k) G H Q) :
    WpA K T W r G H fun vs H1 => ∃ G1 ds, r = .ok (.list ds) ∧ Stp T G H G1 H1 ∧ DrA K G1 vs ds ∧ Wp K T W (k ds) G1 H1 Q := by
  cases r with
  | ok d =>
    cases d with
    | list ds => exact fun G1 H1 v st dr => ⟨G1, ds, rfl, st, dr, Wp.stp (show Wp K T W (k ds) G H Q from h) st⟩
    | _ => exact h
  | exc c => exact h
  | err => exact h
theorem WpA.bindLA {r : R D} {k : List D → R D} {Q : List V → Hp → Prop} (h : WpA K T W (r.bind fun y => (R.list y).bind k) G H Q) :
    WpA K T W r G H fun vs H1 => ∃ G1 ds, r = .ok (.list ds) ∧ Stp T G H G1 H1 ∧ DrA K G1 vs ds ∧ WpA K T W (k ds) G1 H1 Q := by
  cases r with
  | ok d =>
    cases d with
    | list ds => exact fun G1 H1 v st dr => ⟨G1, ds, rfl, st, dr, WpA.stp (show WpA K T W (k ds) G H Q from h) st⟩
    | _ => exact h
  | exc c => exact h
  | err => exact h
theorem WpB.bind {r : R D} {k : Bool → R D} (h : Wp K T W (r.bind fun y => (R.bool y).bind k) G H Q) :
    WpB K T W r G H fun b H1 => ∃ G1, r = .ok (.bool b) ∧ Stp T G H G1 H1 ∧ Wp K T W (k b) G1 H1 Q := by
  cases r with
  | ok d =>
    cases d with
    | bool b => exact fun G1 H1 st => ⟨G1, rfl, st, Wp.stp (show Wp K T W (k b) G H Q from h) st⟩
    | _ => exact h
  | exc c => exact h
  | err => exact h
theorem WpB.bindB {r : R D} {k : Bool → R D} {Q : Bool → Hp → Prop} (h : WpB K T W (r.bind fun y => (R.bool y).bind k) G H Q) :
    WpB K T W r G H fun b H1 => ∃ G1, r = .ok (.bool b) ∧ Stp T G H G1 H1 ∧ WpB K T W (k b) G1 H1 Q := by
  cases r with
  | ok d =>
    cases d with
    | bool b => exact fun G1 H1 st => ⟨G1, rfl, st, WpB.stp (show WpB K T W (k b) G H Q from h) st⟩
    | _ => exact h
  | exc c => exact h
  | err => exact h
/-- a wish of a bool, as one of a value -/
theorem WpB.val {r : R D} {Q : Bool → Hp → Prop} (h : WpB K T W r G H Q) : Wp K T W r G H fun x H1 => ∃ c, x = .bl c ∧ Q c H1 := by
  cases r with
  | ok d =>
    cases d with
    | bool b => exact fun G1 H1 v st dr => by cases dr; exact ⟨b, rfl, h G1 H1 st⟩
    | _ => exact (show False from h).elim
  | exc c => exact h
  | err => exact h
end
/-! ### the names' values -/
inductive OwnAt (K : PySem.W.Frag) (G H : Hp) (a : Addr) : D → Prop
  | lst {xs : List V} {ds : List D} : H a = some (.lst xs) → DrA K G xs ds → OwnAt K G H a (.list ds)
  | dic {kvs : List (Key × V)} {ds : List (D × D)} : H a = some (.dK kvs) → ds.map Prod.fst = kvs.map (fun p => kD p.1) → DrA K G (kvs.map Prod.snd) (ds.map Prod.snd) → OwnAt K G H a (.dict ds)
theorem OwnAt.stp {K : PySem.W.Frag} {T : List (Addr × Str)} {G H G' H' : Hp} (st : Stp T G H G' H') {a : Addr} {d : D} (h : OwnAt K G H a d) : OwnAt K G' H' a d := by
  cases h with
  | lst h1 h2 => exact .lst (st.hh _ _ h1 (fun _ z => by cases z)) (h2.sub st.gg)
  | dic h1 h2 h3 => exact .dic (st.hh _ _ h1 (fun _ z => by cases z)) h2 (h3.sub st.gg)
/-- nothing stands at a, or a table -/
def NT (H : Hp) (a : Addr) : Prop := ∀ o, H a = some o → ∃ ps, o = .tbl ps
/-- the names' values σ are the trees ρ, in the part G of H; H0: the heap at the def's entry -/
structure Ste (K : PySem.W.Frag) (T : List (Addr × Str)) (H0 : Hp) (ρ : Env) (σ : L2.St) (G H : Hp) : Prop where
  sub : Sub G H
  tb : Tabs T H
  len : ρ.length = σ.length
  val : ∀ (i : Nat) d, ρ[i]? = some (some (.val d)) → ∃ v, σ[i]? = some (some v) ∧ Dr K G v d
  own : ∀ (i : Nat) d, ρ[i]? = some (some (.own d)) → ∃ a, σ[i]? = some (some (.ref a)) ∧ G a = none ∧ NT H0 a ∧ OwnAt K G H a d
  dis : ∀ (i j : Nat) d e, ρ[i]? = some (some (.own d)) → ρ[j]? = some (some (.own e)) → σ[i]? = σ[j]? → i = j
  nt : NoT G
theorem Ste.stp {K : PySem.W.Frag} {T : List (Addr × Str)} {H0 : Hp} {ρ : Env} {σ : L2.St} {G H G' H' : Hp} (S : Ste K T H0 ρ σ G H) (st : Stp T G H G' H') : Ste K T H0 ρ σ G' H' where
  sub := st.sub
  tb := st.tb
  len := S.len
  val := fun i d e => by
    obtain ⟨v, h1, h2⟩ := S.val i d e
    exact ⟨v, h1, h2.stp st⟩
  own := fun i d e => by
    obtain ⟨a, h1, h2, h3, h4⟩ := S.own i d e
    refine ⟨a, h1, ?_, h3, h4.stp st⟩
    cases h4 with
    | lst q _ => exact st.nn _ _ h2 q (fun _ z => by cases z)
    | dic q _ _ => exact st.nn _ _ h2 q (fun _ z => by cases z)
  dis := S.dis
  nt := st.ntt S.nt
theorem Ste.rfl {K : PySem.W.Frag} {T : List (Addr × Str)} {H0 : Hp} {ρ : Env} {σ : L2.St} {G H : Hp} (S : Ste K T H0 ρ σ G H) : Stp T G H G H := .refl S.sub S.tb
/-! ### readings -/
/-- what a def is promised in: its callees' trees, the tables, the heap at its entry, the wish of exceptions -/
structure Cn where
  K : PySem.W.Frag
  T : List (Addr × Str)
  Φ : String → List D → R D
  H0 : Hp
  W : XK
def TEv (c : Cn) (e : E) : TE := fun σ H Q => ∃ ρ G, Ste c.K c.T c.H0 ρ σ G H ∧ Wp c.K c.T c.W (evE c.Φ e ρ) G H Q
def TTv (c : Cn) (e : E) : TT := fun σ H Q => ∃ ρ G, Ste c.K c.T c.H0 ρ σ G H ∧ WpB c.K c.T c.W (evE c.Φ e ρ) G H Q
def TAv (c : Cn) (e : E) : TA := fun σ H Q => ∃ ρ G, Ste c.K c.T c.H0 ρ σ G H ∧ WpA c.K c.T c.W (evE c.Φ e ρ) G H Q
theorem PE.imp {X : Cx} {x : Expr} {t t' : TE} (h : PE X x t) (f : ∀ σ H Q, t' σ H Q → t σ H Q) : PE X x t' := ⟨fun pins s σ H Q I q => h.run pins s σ H Q I (f _ _ _ q)⟩
theorem PT.imp {X : Cx} {x : Expr} {t t' : TT} (h : PT X x t) (f : ∀ σ H Q, t' σ H Q → t σ H Q) : PT X x t' := ⟨fun pins s σ H Q I q => h.run pins s σ H Q I (f _ _ _ q)⟩
theorem PW.imp {X : Cx} {x : Expr} {t t' : TT} (h : PW X x t) (f : ∀ σ H Q, t' σ H Q → t σ H Q) : PW X x t' := ⟨fun wh pins s σ H Q I q => h.run wh pins s σ H Q I (f _ _ _ q)⟩
theorem PA.imp {X : Cx} {x : List Expr} {t t' : TA} (h : PA X x t) (f : ∀ σ H Q, t' σ H Q → t σ H Q) : PA X x t' := ⟨fun p pins s σ H Q I q => h.run p pins s σ H Q I (f _ _ _ q)⟩
theorem PS.imp {X : Cx} {x : Stmt} {t t' : TS} (h : PS X x t) (f : ∀ D σ H, t' D σ H → t D σ H) : PS X x t' := ⟨fun pins s σ H D I q => h.run pins s σ H D I (f _ _ _ q)⟩
theorem PSs.imp {X : Cx} {x : List Stmt} {t t' : TS} (h : PSs X x t) (f : ∀ D σ H, t' D σ H → t D σ H) : PSs X x t' := ⟨fun pins s σ H D I q => h.run pins s σ H D I (f _ _ _ q)⟩
end Nz

set_option maxHeartbeats 2000000
/-! NzOps: the operators, on trees. -/
namespace Nz
open PySem PySem.Spec PyProof.Rows L2 LamX
theorem line_eq : LINE = sizeLine := sizeLine_eq.symm
theorem line_le {n : Nat} (h : n ≤ LINE) : n ≤ sizeLine := by rw [← line_eq]; exact h
section
variable {X : Cx} {K : PySem.W.Frag} {T : List (Addr × Str)} {W : XK}
/-- an operator's rule serves g on trees -/
def OpOk (X : Cx) (K : PySem.W.Frag) (T : List (Addr × Str)) (W : XK) (f : Value → Value → Sem Value) (g : D → D → R D) : Prop :=
  ∃ r : R2, OpR X f r ∧ ∀ G H d e v w Q, Sub G H → Tabs T H → Dr K G v d → Dr K G w e → Wp K T W (g d e) G H Q → r v w H Q
/-- a comparison's -/
def CmOk (X : Cx) (K : PySem.W.Frag) (f : Value → Value → Sem Value) (g : D → D → R Bool) : Prop :=
  ∃ r : R2, OpR X f r ∧ ∀ G H d e v w b Q, Sub G H → Dr K G v d → Dr K G w e → g d e = .ok b → Q (.bl b) H → r v w H Q
/-! ### arithmetic -/
theorem add_ok : OpOk X K T W (binaryOp .Add) addD := by
  refine ⟨_, OpR.or op_add (OpR.or op_add_str op_cat), fun G H d e v w Q s t hv hw h => ?_⟩
  unfold addD at h
  split at h
  · cases hv; cases hw
    exact .inl ⟨_, _, rfl, rfl, h G H _ (.refl s t) (.int _)⟩
  · split at h
    · rename_i z
      cases hv; cases hw
      exact .inr (.inl ⟨_, _, rfl, rfl, line_le z, h G H _ (.refl s t) (.str _)⟩)
    · exact (show False from h).elim
  · split at h
    · rename_i z
      obtain _ | _ | _ | _ | ⟨ha, da⟩ := hv
      obtain _ | _ | _ | _ | ⟨hb, db⟩ := hw
      refine .inr (.inr ⟨_, _, _, _, rfl, rfl, s _ _ ha, s _ _ hb, line_le (by rw [da.length, db.length]; exact z), fun p np => ?_⟩)
      exact h _ _ _ (.new s t np _) (.lst upd_same ((da.append db).sub (sub_new (none_sub s np))))
    · exact (show False from h).elim
  · exact (show False from h).elim
theorem sub_ok : OpOk X K T W (binaryOp .Sub) subD := by
  refine ⟨_, op_sub, fun G H d e v w Q s t hv hw h => ?_⟩
  unfold subD at h
  split at h
  · cases hv; cases hw
    exact ⟨_, _, rfl, rfl, h G H _ (.refl s t) (.int _)⟩
  · exact (show False from h).elim
/-- tuple * 1 is the tuple -/
theorem op_repT1 : OpR X (binaryOp .Mult) (fun x y H Q => ∃ l xs, x = .ref l ∧ y = .int 1 ∧ SqT X.K H l xs ∧ xs ≠ [] ∧ Q (.ref l) H) := by
  intro pins s σ H x y v u Q I rx ry h
  obtain ⟨l, xs, rfl, rfl, hT, hne, q⟩ := h
  cases rx
  obtain ⟨t, rfl⟩ := ry
  obtain ⟨its, r, ⟨⟨cls, dd, data, sl⟩, ho, hc, n, hd⟩, hs⟩ := I.tuple hT
  simp only at hc hd
  subst hc hd
  have hmul : Meets (Builtin.«tuple.__mul__» ⟨[.ref l, .int 1 t], []⟩) (fun _ R s => s.heap.get? l = some { cls := .type "tuple", dict := dd, data := .seq its.toArray n, slots := sl } ∧ R (.ok (.ret (Value.ref l))) s) :=
    .of_wp fun prog w A R s h => by
      obtain ⟨hp, g, d, tk, os⟩ := s
      obtain ⟨hl, h⟩ := h
      have f1 := AutoSeq1.idx_int
      wp_walk using wpAny_loadPart' hl
      repeat (first
        | (refine wpAny_ite_false (decide_eq_false (by decide)) ?_; wp_walk using wpAny_loadPart' hl)
        | (refine wpAny_ite_true (decide_eq_true (by simp)) ?_; wp_walk using wpAny_loadPart' hl))
      exact ⟨_, rfl, h⟩
  refine wpAny_binaryOp_repeat_ref (T := "tuple") (U := "int") (by decide) ⟨_, ho, rfl⟩ (fun s' => typeIs_int s' 1 t) noFill_tuple_mul F.fills_int_mul F.slot_int_rmul repeat_tuple F.slot_int_index.lookup
    (call_meets F.slot_int_rmul (typeIs_int s 1 t) F.entry_int_rmul (F.args_int_rmul_2 _ _) (int_rmul_tuple 1 t l its.toArray n dd sl)
      ⟨ho, rfl, ⟨_, ho, rfl⟩, call_meets F.slot_tuple_mul ⟨_, ho, rfl⟩ F.entry_tuple_mul (F.args_tuple_mul_2 _ _) hmul ⟨ho, ?_⟩⟩)
  exact ⟨.ref l, H, I, rfl, q⟩
theorem op_mul_str : OpR X (binaryOp .Mult) (fun x y H Q => ∃ i k, x = .str i ∧ y = .int k ∧ MulOk i k ∧ Q (.str (Txt.mul i k)) H) := by
  intro pins s σ H x y v u Q I rx ry h
  obtain ⟨i, k, rfl, rfl, hz, q⟩ := h
  obtain ⟨t, rfl⟩ := rx
  obtain ⟨t', rfl⟩ := ry
  exact SB.mul hz fun t2 tk => ⟨.str _, H, I.tok _, ⟨_, rfl⟩, q⟩
theorem mulOk_of {x : Str} {k : Int} (h : okRep x.length k = true) : MulOk x k := by
  unfold okRep at h
  simp only [Bool.and_eq_true, decide_eq_true_eq] at h
  obtain ⟨h1, h3⟩ := h
  have hL : LINE = 16777216 := rfl
  refine ⟨?_, fun hk _ => ?_, fun hk _ => ?_⟩
  · rw [decide_eq_false (by omega), decide_eq_false (by omega)]; rfl
  · have hx : ((x.length : Nat) : Int) * k ≤ 16777216 := by
      have e : k = (k.toNat : Int) := by omega
      rw [e, ← Int.natCast_mul]
      exact Int.ofNat_le.mpr h3
    have h5 : (x.length : Int) ≤ (2 ^ 63 - 1) / k := (Int.le_ediv_iff_mul_le (by omega)).mpr (by omega)
    omega
  · unfold Builtin.Str.tooLong
    rw [← line_eq]
    exact decide_eq_false (by omega)
theorem cmul_of {i j : Int} (h : okMul i j = true) : CMul i j ∨ CMulW i j := by
  unfold okMul at h
  simp only [Bool.or_eq_true, decide_eq_true_eq] at h
  rcases h with (h | h) | h
  · exact .inl (.inl (by omega))
  · exact .inl (.inr (by omega))
  · exact .inr h
theorem mul_ok (hK : X.K = K) : OpOk X K T W (binaryOp .Mult) mulD := by
  subst hK
  refine ⟨_, OpR.or op_mul (OpR.or op_mulW (OpR.or op_rep (OpR.or op_repT (OpR.or op_repT1 op_mul_str)))), fun G H d e v w Q s t hv hw h => ?_⟩
  unfold mulD at h
  split at h
  · split at h
    · rename_i z
      cases hv; cases hw
      rcases cmul_of z with z | z
      · exact .inl ⟨_, _, rfl, rfl, z, h G H _ (.refl s t) (.int _)⟩
      · exact .inr (.inl ⟨_, _, rfl, rfl, z, h G H _ (.refl s t) (.int _)⟩)
    · exact (show False from h).elim
  · split at h
    · rename_i z
      obtain _ | _ | _ | _ | ⟨ha, da⟩ := hv
      cases hw
      unfold okRep at z
      simp only [Bool.and_eq_true, decide_eq_true_eq] at z
      refine .inr (.inr (.inl ⟨_, _, _, rfl, rfl, s _ _ ha, by omega, by omega, line_le (by rw [da.length]; exact z.2), fun p np => ?_⟩))
      refine h _ _ _ (.new s t np _) (.lst upd_same (DrA.sub (sub_new (none_sub s np)) ?_))
      generalize Int.toNat _ = m
      induction m with
      | zero => exact .nil
      | succ m ih => rw [List.replicate_succ, List.replicate_succ, List.flatten_cons, List.flatten_cons]; exact da.append ih
    · exact (show False from h).elim
  · split at h
    · rename_i a j z
      obtain ⟨z1, z2, z3, z4⟩ := z
      obtain _ | _ | _ | _ | _ | ⟨ha, da⟩ := hv
      cases hw
      rename_i l xs
      have hne : xs ≠ [] := fun e => by
        subst e
        have := da.length
        cases a with
        | nil => simp at z2
        | cons _ _ => simp at this
      by_cases hj : j = 1
      · subst hj
        refine .inr (.inr (.inr (.inr (.inl ⟨l, xs, rfl, rfl, SqT.of (s _ _ ha), hne, ?_⟩))))
        refine h G H _ (.refl s t) ?_
        have e : (List.replicate (1 : Int).toNat a).flatten = a := by simp
        rw [e]
        exact .tup ha da
      · refine .inr (.inr (.inr (.inl ⟨l, j, xs, rfl, rfl, SqT.of (s _ _ ha), hne, by omega, (by omega), by rw [da.length]; exact z1, fun p np => ?_⟩)))
        refine h _ _ _ (.new s t np _) (.tup upd_same (DrA.sub (sub_new (none_sub s np)) ?_))
        generalize j.toNat = m
        induction m with
        | zero => exact .nil
        | succ m ih => rw [List.replicate_succ, List.replicate_succ, List.flatten_cons, List.flatten_cons]; exact da.append ih
    · exact (show False from h).elim
  · split at h
    · rename_i z
      cases hv; cases hw
      exact .inr (.inr (.inr (.inr (.inr ⟨_, _, rfl, rfl, mulOk_of z, h G H _ (.refl s t) (.str _)⟩))))
    · exact (show False from h).elim
  · exact (show False from h).elim
theorem op_fdivZ : OpR X (binaryOp .FloorDiv) (rI (fun _ j => j ≠ 0 ∧ j.natAbs.log2 < 9000) fun i j => .int (i.fdiv j)) := opI fun _ _ _ _ _ _ _ hc q => floordiv_int hc.1 q (.inl (PyProof.noPylong_of_log2 hc.2))
theorem fdiv_ok : OpOk X K T W (binaryOp .FloorDiv) fdivD := by
  refine ⟨_, op_fdivZ, fun G H d e v w Q s t hv hw h => ?_⟩
  unfold fdivD at h
  split at h
  · split at h
    · rename_i z
      cases hv; cases hw
      unfold okDiv at z
      simp only [Bool.and_eq_true, decide_eq_true_eq] at z
      exact ⟨_, _, rfl, rfl, z, h G H _ (.refl s t) (.int _)⟩
    · exact (show False from h).elim
  · exact (show False from h).elim
theorem mod_ok : OpOk X K T W (binaryOp .Mod) modD := by
  refine ⟨_, op_modN, fun G H d e v w Q s t hv hw h => ?_⟩
  unfold modD at h
  split at h
  · split at h
    · exact (show False from h).elim
    · rename_i z
      cases hv; cases hw
      exact ⟨_, _, rfl, rfl, z, h G H _ (.refl s t) (.int _)⟩
  · exact (show False from h).elim
theorem pow_ok : OpOk X K T W (binaryOp .Pow) powD := by
  refine ⟨_, op_pow, fun G H d e v w Q s t hv hw h => ?_⟩
  unfold powD at h
  split at h
  · split at h
    · rename_i z
      cases hv; cases hw
      unfold okPow at z
      simp only [Bool.and_eq_true, decide_eq_true_eq] at z
      exact ⟨_, _, rfl, rfl, ⟨z.1.1, by have := z.1.2; omega, z.2⟩, h G H _ (.refl s t) (.int _)⟩
    · exact (show False from h).elim
  · exact (show False from h).elim
def opOf : Operator → Option Bop
  | .Add => some .add
  | .Sub => some .sub
  | .Mult => some .mul
  | .FloorDiv => some .fdiv
  | .Mod => some .mod
  | .Pow => some .pow
  | _ => none
theorem bin_ok (hK : X.K = K) {op : Operator} {o : Bop} (h : opOf op = some o) : OpOk X K T W (binaryOp op) (binD o) := by
  cases op <;> simp only [opOf] at h <;> try (cases h)
  · exact add_ok
  · exact sub_ok
  · exact mul_ok hK
  · exact mod_ok
  · exact pow_ok
  · exact fdiv_ok
/-! ### comparisons -/
theorem rel_ok {f : Value → Value → Sem Value} {g : Int → Int → Bool} (h : OpR X f (rI0 fun i j => .bl (g i j))) : CmOk X K f (relD g) := by
  refine ⟨_, h, fun G H d e v w b Q s hv hw z q => ?_⟩
  unfold relD at z
  split at z
  · cases hv; cases hw; cases z
    exact ⟨_, _, rfl, rfl, q⟩
  · cases z
theorem ints_lay : ∀ ns : List Int, PyData.canLayAll0 (ns.map PyData.int) = true
  | [] => by simp [PyData.canLayAll0]
  | n :: ns => by simp [PyData.canLayAll0, PyData.canLay0, ints_lay ns]
theorem ints_depth : ∀ ns : List Int, PyData.depthAll (ns.map PyData.int) = 0
  | [] => by simp [PyData.depthAll]
  | n :: ns => by simp [PyData.depthAll, PyData.depth, ints_depth ns]
theorem ints_shp (ns : List Int) : SeqAt.shaped (.list (ns.map PyData.int)) = true := by
  unfold SeqAt.shaped
  rw [show (PyData.list (ns.map PyData.int)).canLay0 = true from by simp only [PyData.canLay0]; exact ints_lay ns]
  rw [show (PyData.list (ns.map PyData.int)).depth = 1 from by simp only [PyData.depth, ints_depth]]
  rfl
theorem scr_inv {G : Hp} {v : V} {l : List D} (h : Dr K G v (.dict [(.none, .list l)])) : ∃ (a : Addr) (ns : List Int), v = .ref a ∧ l = ns.map PyData.int ∧ SqL K G a (ns.map V.int) := by
  cases h with
  | dic h1 h2 h3 =>
    rename_i a kvs
    cases kvs with
    | nil => simp at h2
    | cons p r =>
      obtain ⟨k, w⟩ := p
      cases k <;> simp [kD] at h2
  | scr h => exact ⟨_, _, rfl, rfl, h⟩
theorem DrA.ints_dp {G : Hp} : ∀ ns : List Int, DpAll K G (ns.map V.int) (ns.map PyData.int)
  | [] => .nil
  | n :: ns => .cons (.int n) (DrA.ints_dp ns)
theorem eqD_dp {G H : Hp} {d e : D} {v w : V} {b : Bool} (s : Sub G H) (hv : Dr K G v d) (hw : Dr K G w e) (z : eqD d e = .ok b) :
    ∃ d' e', Dp K H v d' ∧ Dp K H w e' ∧ SeqAt.shaped d' = true ∧ SeqAt.shaped e' = true ∧ PyData.eqv d' e' = b := by
  unfold eqD at z
  split at z
  · cases z
    obtain ⟨a, ns, rfl, rfl, h⟩ := scr_inv hv
    obtain _ | _ | _ | _ | ⟨ha, da⟩ := hw
    cases da
    refine ⟨.list (ns.map .int), .list [], .lst (SqL.sub s h) (DrA.ints_dp ns), .lst (SqL.of (s _ _ ha)) .nil, ints_shp ns, ints_shp [], ?_⟩
    cases ns <;> rfl
  · cases z
  · cases z
  · split at z
    · rename_i q
      cases z
      simp only [Bool.and_eq_true] at q
      exact ⟨d, e, Dr.dp (shp_lay q.1) (hv.sub s), Dr.dp (shp_lay q.2) (hw.sub s), q.1, q.2, rfl⟩
    · cases z
theorem eq_ok (hK : X.K = K) (hu : X.A.units + 64 < cLine) : CmOk X K (compareOp .Eq) eqD := by
  subst hK
  refine ⟨_, op_eqD hu, fun G H d e v w b Q s hv hw z q => ?_⟩
  obtain ⟨d', e', h1, h2, h3, h4, h5⟩ := eqD_dp s hv hw z
  exact ⟨d', e', h1, h2, h3, h4, by rw [h5]; exact q⟩
theorem neg_inv {r : R Bool} {b : Bool} (z : neg r = .ok b) : r = .ok (!b) := by
  unfold neg at z
  cases r with
  | ok c =>
    have e : (!c) = b := by simpa using z
    rw [← e, Bool.not_not]
  | _ => cases z
theorem ne_ok (hK : X.K = K) (hu : X.A.units + 64 < cLine) : CmOk X K (compareOp .NotEq) (fun a b => neg (eqD a b)) := by
  subst hK
  refine ⟨_, op_neD hu, fun G H d e v w b Q s hv hw z q => ?_⟩
  obtain ⟨d', e', h1, h2, h3, h4, h5⟩ := eqD_dp s hv hw (neg_inv z)
  exact ⟨d', e', h1, h2, h3, h4, by rw [h5, Bool.not_not]; exact q⟩
theorem is_inv {G : Hp} {d e : D} {v w : V} {b : Bool} (hv : Dr K G v d) (hw : Dr K G w e) (z : isD d e = .ok b) :
    (w = .non ∧ decide (v = .non) = b) ∨ ∃ x y, v = .bl x ∧ w = .bl y ∧ decide (x = y) = b := by
  unfold isD at z
  split at z
  · cases hw
    refine .inl ⟨rfl, ?_⟩
    cases hv <;> cases z <;> rfl
  · cases hv; cases hw; cases z
    exact .inr ⟨_, _, rfl, rfl, by rename_i a b; cases a <;> cases b <;> rfl⟩
  · cases z
theorem is_ok : CmOk X K (compareOp .Is) isD := by
  refine ⟨_, OpR.or op_isN op_isBl, fun G H d e v w b Q s hv hw z q => ?_⟩
  rcases is_inv hv hw z with ⟨h1, h2⟩ | ⟨x, y, h1, h2, h3⟩
  · exact .inl ⟨h1, by rw [h2]; exact q⟩
  · exact .inr ⟨x, y, h1, h2, by rw [h3]; exact q⟩
theorem isnt_ok : CmOk X K (compareOp .IsNot) (fun a b => neg (isD a b)) := by
  refine ⟨_, OpR.or op_notN op_notBl, fun G H d e v w b Q s hv hw z q => ?_⟩
  rcases is_inv hv hw (neg_inv z) with ⟨h1, h2⟩ | ⟨x, y, h1, h2, h3⟩
  · exact .inl ⟨h1, by rw [h2, Bool.not_not]; exact q⟩
  · exact .inr ⟨x, y, h1, h2, by rw [h3, Bool.not_not]; exact q⟩
theorem in_inv {G H : Hp} {d e : D} {v w : V} {b : Bool} (s : Sub G H) (hv : Dr K G v d) (hw : Dr K G w e) (z : inD d e = .ok b) :
    ∃ l, Dp K H v d ∧ Dp K H w (.list l) ∧ SeqAt.shaped d = true ∧ SeqAt.shaped (.list l) = true ∧ (l.any fun z => PyData.eqv z d) = b := by
  unfold inD at z
  split at z
  · split at z
    · rename_i q
      cases z
      simp only [Bool.and_eq_true] at q
      exact ⟨_, Dr.dp (shp_lay q.1) (hv.sub s), Dr.dp (shp_lay q.2) (hw.sub s), q.1, q.2, rfl⟩
    · cases z
  · cases z
theorem in_ok (hK : X.K = K) (hu : X.A.units + 65 < cLine) : CmOk X K (compareOp .In) inD := by
  subst hK
  refine ⟨_, op_inD hu, fun G H d e v w b Q s hv hw z q => ?_⟩
  obtain ⟨l, h1, h2, h3, h4, h5⟩ := in_inv s hv hw z
  exact ⟨d, l, h1, h2, h3, h4, by rw [h5]; exact q⟩
theorem notin_ok (hK : X.K = K) (hu : X.A.units + 65 < cLine) : CmOk X K (compareOp .NotIn) (fun a b => neg (inD a b)) := by
  subst hK
  refine ⟨_, op_notInD hu, fun G H d e v w b Q s hv hw z q => ?_⟩
  obtain ⟨l, h1, h2, h3, h4, h5⟩ := in_inv s hv hw (neg_inv z)
  exact ⟨d, l, h1, h2, h3, h4, by rw [h5, Bool.not_not]; exact q⟩
def copOf : CmpOp → Cop
  | .Eq => .eq
  | .NotEq => .ne
  | .Lt => .lt
  | .LtE => .le
  | .Gt => .gt
  | .GtE => .ge
  | .Is => .is
  | .IsNot => .isnt
  | .In => .isin
  | .NotIn => .notin
theorem cmp_ok (hK : X.K = K) (hu : X.A.units + 65 < cLine) (op : CmpOp) : CmOk X K (compareOp op) (cmpD (copOf op)) := by
  cases op
  · exact eq_ok hK (by omega)
  · exact ne_ok hK (by omega)
  · exact rel_ok op_lt
  · exact rel_ok op_le
  · exact rel_ok op_gt
  · exact rel_ok op_ge
  · exact is_ok
  · exact isnt_ok
  · exact in_ok hK hu
  · exact notin_ok hK hu
end
end Nz

set_option maxHeartbeats 2000000
/-! NzExp: each expression's reading by the evaluator. -/
namespace Nz
open PySem PySem.Spec PyProof.Rows L2 LamX
section
variable {T : List (Addr × Str)} {K : PySem.W.Frag} {G H G' H' : Hp} {W : XK} {Q : VK}
theorem Wp.one {d : D} {v : V} (h : Wp K T W (.ok d) G H Q) (s : Sub G H) (t : Tabs T H) (dr : Dr K G v d) : Q v H := h G H v (.refl s t) dr
/-- a value that may be a list or dict of the def's own -/
def Pk (K : PySem.W.Frag) (G H : Hp) (v : V) (d : D) : Prop := Dr K G v d ∨ ∃ a, v = .ref a ∧ G a = none ∧ OwnAt K G H a d
theorem Pk.stp {v : V} {d : D} (st : Stp T G H G' H') (h : Pk K G H v d) : Pk K G' H' v d := by
  rcases h with h | ⟨a, h1, h2, h3⟩
  · exact .inl (h.stp st)
  · refine .inr ⟨a, h1, ?_, h3.stp st⟩
    cases h3 with
    | lst q _ => exact st.nn _ _ h2 q (fun _ z => by cases z)
    | dic q _ _ => exact st.nn _ _ h2 q (fun _ z => by cases z)
theorem Pk.list {v : V} {l : List D} (s : Sub G H) (h : Pk K G H v (.list l)) : ∃ a xs, v = .ref a ∧ H a = some (.lst xs) ∧ DrA K G xs l := by
  rcases h with h | ⟨a, h1, _, h3⟩
  · obtain _ | _ | _ | _ | ⟨ha, da⟩ := h
    exact ⟨_, _, rfl, s _ _ ha, da⟩
  · obtain ⟨ha, da⟩ | _ := h3
    exact ⟨a, _, h1, ha, da⟩
theorem Pk.tup {v : V} {l : List D} (s : Sub G H) (h : Pk K G H v (.tuple l)) : ∃ a xs, v = .ref a ∧ H a = some (.tup xs) ∧ DrA K G xs l := by
  rcases h with h | ⟨a, h1, _, h3⟩
  · obtain _ | _ | _ | _ | _ | ⟨ha, da⟩ := h
    exact ⟨_, _, rfl, s _ _ ha, da⟩
  · cases h3
theorem Pk.scr {v : V} {l : List D} (s : Sub G H) (h : Pk K G H v (.dict [(.none, .list l)])) : ∃ (a : Addr) (ns : List Int), v = .ref a ∧ l = ns.map PyData.int ∧ SqL K H a (ns.map V.int) := by
  rcases h with h | ⟨a, h1, _, h3⟩
  · obtain ⟨a, ns, h1, h2, h3⟩ := scr_inv h
    exact ⟨a, ns, h1, h2, SqL.sub s h3⟩
  · obtain _ | ⟨q1, q2, q3⟩ := h3
    rename_i kvs
    cases kvs with
    | nil => simp at q2
    | cons p r =>
      obtain ⟨k, w⟩ := p
      cases k <;> simp [kD] at q2
theorem Pk.str {v : V} {x : Str} (h : Pk K G H v (.str x)) : v = .str x := by
  rcases h with h | ⟨a, h1, _, h3⟩
  · cases h; rfl
  · cases h3
def WpP (K : PySem.W.Frag) (T : List (Addr × Str)) (W : XK) (r : R D) (G H : Hp) (Q : VK) : Prop := match r with
  | .ok d => ∀ G' H' v, Stp T G H G' H' → Pk K G' H' v d → Q v H'
  | .exc c => ∀ G' H', Stp T G H G' H' → W (.ref (He.ga K (c : Str))) none H'
  | .err => False
theorem Wp.bindP {r : R D} {k : D → R D} (h : Wp K T W (r.bind k) G H Q) :
    WpP K T W r G H fun v H1 => ∃ G1 d, r = .ok d ∧ Stp T G H G1 H1 ∧ Pk K G1 H1 v d ∧ Wp K T W (k d) G1 H1 Q := by
  cases r with
  | ok d => exact fun G1 H1 v st dr => ⟨G1, d, rfl, st, dr, Wp.stp (show Wp K T W (k d) G H Q from h) st⟩
  | exc c => exact h
  | err => exact h
theorem WpP.val {r : R D} (h : WpP K T W r G H Q) : Wp K T W r G H Q := by
  cases r with
  | ok d => exact fun G1 H1 v st dr => h G1 H1 v st (.inl dr)
  | exc c => exact h
  | err => exact h
end
def TPv (c : Cn) (e : E) : TE := fun σ H Q => ∃ ρ G, Ste c.K c.T c.H0 ρ σ G H ∧ WpP c.K c.T c.W (evE c.Φ e ρ) G H Q
theorem sd_peek {X : Cx} {c : Cn} {x : Expr} {e : E} (h : PE X x (TEv c e)) : PE X x (TPv c e) := PE.imp h fun σ H Q ⟨ρ, G, S, w⟩ => ⟨ρ, G, S, w.val⟩
section
variable {X : Cx} {c : Cn} {a b d : Expr} {ea eb ed : E} {pos : Pos}
/-! ### constants, names -/
theorem sd_int {i : Int} {j} : PE X (.Constant (.int i) j pos) (TEv c (.con (.int i))) := PE.imp pe_int fun σ H Q ⟨ρ, G, S, h⟩ => Wp.one h S.sub S.tb (.int i)
theorem sd_bl {i : Bool} {j} : PE X (.Constant (.bool i) j pos) (TEv c (.con (.bool i))) := PE.imp pe_bl fun σ H Q ⟨ρ, G, S, h⟩ => Wp.one h S.sub S.tb (.bl i)
theorem sd_non {j} : PE X (.Constant .none j pos) (TEv c (.con .none)) := PE.imp pe_non fun σ H Q ⟨ρ, G, S, h⟩ => Wp.one h S.sub S.tb .non
theorem sd_str {x : Str} {j} : PE X (.Constant (.str x) j pos) (TEv c (.con (.str x))) := PE.imp pe_str fun σ H Q ⟨ρ, G, S, h⟩ => Wp.one h S.sub S.tb (.str x)
theorem sd_glob {x : Str} {v : V} {u : Value} {d : D} (hg : Gl X x) (hm : X.mg x = some u) (r : RelV v u) (hd : ∀ G, Dr c.K G v d) (hn : (x == ("__debug__" : Str)) = false) : PE X (.Name x pos) (TEv c (.con d)) :=
  PE.imp (pe_glob hg hm r hn) fun σ H Q ⟨ρ, G, S, h⟩ => Wp.one h S.sub S.tb (hd G)
theorem getV_ok {ρ : Env} {i : Nat} {d : D} (h : getV ρ i = .ok d) : ρ[i]? = some (some (.val d)) := by
  unfold getV at h
  split at h
  · rename_i e; cases h; exact e
  · cases h
theorem sd_var {i : Nat} {x : Str} (hN : X.N[i]? = some x) (hv : Vis X.env.scope x) (hd : (x == ("__debug__" : Str)) = false) (hcd : (x == ("__classdict__" : Str)) = false) : PE X (.Name x pos) (TEv c (.var i)) :=
  PE.imp (pe_var hN hv hd hcd) fun σ H Q ⟨ρ, G, S, h⟩ => by
    have h : Wp c.K c.T c.W (getV ρ i) G H Q := h
    cases e : getV ρ i with
    | ok d =>
      rw [e] at h
      obtain ⟨v, h1, h2⟩ := S.val i d (getV_ok e)
      exact ⟨v, h1, Wp.one h S.sub S.tb h2⟩
    | exc c =>
      unfold getV at e
      split at e <;> cases e
    | err => rw [e] at h; exact h.elim
theorem sd_rd {i : Nat} {x : Str} (hN : X.N[i]? = some x) (hv : Vis X.env.scope x) (hd : (x == ("__debug__" : Str)) = false) (hcd : (x == ("__classdict__" : Str)) = false) : PE X (.Name x pos) (TPv c (.rd i)) :=
  PE.imp (pe_var hN hv hd hcd) fun σ H Q ⟨ρ, G, S, h⟩ => by
    have h : WpP c.K c.T c.W (getR ρ i) G H Q := h
    unfold getR at h
    split at h
    · rename_i d e
      obtain ⟨v, h1, h2⟩ := S.val i d e
      exact ⟨v, h1, h G H v S.rfl (.inl h2)⟩
    · rename_i d e
      obtain ⟨a, h1, h2, _, h3⟩ := S.own i d e
      exact ⟨.ref a, h1, h G H _ S.rfl (.inr ⟨a, rfl, h2, h3⟩)⟩
    · exact (show False from h).elim
/-! ### operators -/
theorem sd_bin {op : Operator} {o : Bop} (ho : OpOk X c.K c.T c.W (binaryOp op) (binD o)) (ha : PE X a (TEv c ea)) (hb : PE X b (TEv c eb)) : PE X (.BinOp a op b pos) (TEv c (.bin o ea eb)) := by
  obtain ⟨r, h1, h2⟩ := ho
  refine PE.imp (pe_op h1 ha hb) fun σ H Q ⟨ρ, G, S, h⟩ => ⟨ρ, G, S, Wp.imp (Wp.bind h) fun v H1 ⟨G1, d, e1, st, dr, h⟩ => ⟨ρ, G1, S.stp st, Wp.imp (Wp.bind h) fun w H2 ⟨G2, d2, e2, st2, dr2, h⟩ => ?_⟩⟩
  exact h2 _ _ _ _ _ _ _ st2.sub st2.tb (dr.stp st2) dr2 h
theorem sd_neg (ha : PE X a (TEv c ea)) : PE X (.UnaryOp .USub a pos) (TEv c (.neg ea)) := by
  refine PE.imp (pe_un un_neg ha) fun σ H Q ⟨ρ, G, S, h⟩ => ⟨ρ, G, S, Wp.imp (Wp.bind h) fun v H1 ⟨G1, d, e1, st, dr, h⟩ => ?_⟩
  cases d with
  | int i => cases dr; exact ⟨i, rfl, Wp.one h st.sub st.tb (.int _)⟩
  | _ => exact (show False from h).elim
theorem Wp.cmp {K : PySem.W.Frag} {T : List (Addr × Str)} {W : XK} {G H : Hp} {Q : VK} {r : R Bool} (h : Wp K T W (r.bind fun c => .ok (.bool c)) G H Q) : (∃ b, r = .ok b ∧ ∀ G' H', Stp T G H G' H' → Q (.bl b) H') ∨ ∃ c, r = .exc c := by
  cases r with
  | ok b => exact .inl ⟨b, rfl, fun G' H' st => h G' H' _ st (.bl b)⟩
  | exc c => exact .inr ⟨c, rfl⟩
  | err => exact (show False from h).elim
theorem cmp_noexc {o : Cop} {d e : D} {x : String} (h : cmpD o d e = .exc x) : False := by
  have n : ∀ {r : R Bool}, (∀ y, r ≠ .exc y) → ∀ y, neg r ≠ .exc y := fun {r} hr y z => by
    unfold neg at z
    cases r with
    | ok c => cases z
    | exc c => exact hr c rfl
    | err => cases z
  have eqn : ∀ y, eqD d e ≠ .exc y := fun y z => by
    unfold eqD at z
    split at z <;> first | (cases z; done) | (split at z <;> cases z)
  have isn : ∀ y, isD d e ≠ .exc y := fun y z => by
    unfold isD at z
    split at z <;> cases z
  have inn : ∀ y, inD d e ≠ .exc y := fun y z => by
    unfold inD at z
    split at z <;> first | (cases z; done) | (split at z <;> cases z)
  have rln : ∀ f y, relD f d e ≠ .exc y := fun f y z => by
    unfold relD at z
    split at z <;> cases z
  cases o <;> simp only [cmpD] at h
  · exact eqn _ h
  · exact n eqn _ h
  · exact rln _ _ h
  · exact rln _ _ h
  · exact rln _ _ h
  · exact rln _ _ h
  · exact isn _ h
  · exact n isn _ h
  · exact inn _ h
  · exact n inn _ h
theorem sd_cmp {op : CmpOp} {o : Cop} (ho : CmOk X c.K (compareOp op) (cmpD o)) (hm : behindInMarks op b = false) (ha : PE X a (TEv c ea)) (hb : PE X b (TEv c eb)) : PE X (.Compare a [op] [b] pos) (TEv c (.cmp o ea eb)) := by
  obtain ⟨r, h1, h2⟩ := ho
  refine PE.imp (pe_cmpR h1 ha hb hm) fun σ H Q ⟨ρ, G, S, h⟩ => ⟨ρ, G, S, Wp.imp (Wp.bind h) fun v H1 ⟨G1, d, e1, st, dr, h⟩ => ⟨ρ, G1, S.stp st, Wp.imp (Wp.bind h) fun w H2 ⟨G2, d2, e2, st2, dr2, h⟩ => ?_⟩⟩
  rcases Wp.cmp h with ⟨k, e, q⟩ | ⟨x, e⟩
  · exact h2 _ _ _ _ _ _ _ _ st2.sub (dr.stp st2) dr2 e (q _ _ (.refl st2.sub st2.tb))
  · exact (cmp_noexc e).elim
theorem sd_cmpT {op : CmpOp} {o : Cop} (ho : CmOk X c.K (compareOp op) (cmpD o)) (hm : behindInMarks op b = false) (ha : PE X a (TEv c ea)) (hb : PE X b (TEv c eb)) : PT X (.Compare a [op] [b] pos) (TTv c (.cmp o ea eb)) := by
  obtain ⟨r, h1, h2⟩ := ho
  refine PT.imp (pt_cmpR h1 ha hb hm) fun σ H Q ⟨ρ, G, S, h⟩ => ⟨ρ, G, S, Wp.imp (Wp.bind (WpB.val h)) fun v H1 ⟨G1, d, e1, st, dr, h⟩ => ⟨ρ, G1, S.stp st, Wp.imp (Wp.bind h) fun w H2 ⟨G2, d2, e2, st2, dr2, h⟩ => ?_⟩⟩
  rcases Wp.cmp h with ⟨k, e, q⟩ | ⟨x, e⟩
  · exact h2 _ _ _ _ _ _ _ _ st2.sub (dr.stp st2) dr2 e (q _ _ (.refl st2.sub st2.tb))
  · exact (cmp_noexc e).elim
theorem chain_read {op op' : CmpOp} {o p : Cop} {r r' : R2} (h2 : ∀ G H d e v w b Q, Sub G H → Dr c.K G v d → Dr c.K G w e → cmpD o d e = .ok b → Q (.bl b) H → r v w H Q) (h2' : ∀ G H d e v w b Q, Sub G H → Dr c.K G v d → Dr c.K G w e → cmpD p d e = .ok b → Q (.bl b) H → r' v w H Q)
    {σ : L2.St} {H : Hp} {Q : VK} {ρ : Env} {G : Hp} (S : Ste c.K c.T c.H0 ρ σ G H) (h : Wp c.K c.T c.W (evE c.Φ (.cmp2 o p ea eb ed) ρ) G H Q) : tChain r r' (TEv c ea) (TEv c eb) (TEv c ed) σ H Q := by
  refine ⟨ρ, G, S, Wp.imp (Wp.bind h) fun v H1 ⟨G1, d, e1, st, dr, h⟩ => ⟨ρ, G1, S.stp st, Wp.imp (Wp.bind h) fun w H2 ⟨G2, d2, e2, st2, dr2, h⟩ => ?_⟩⟩
  cases e : cmpD o d d2 with
  | ok k =>
    rw [e] at h
    refine h2 _ _ _ _ _ _ _ _ st2.sub (dr.stp st2) dr2 e ⟨k, rfl, ?_⟩
    cases k with
    | true =>
      rw [if_pos rfl]
      refine ⟨ρ, G2, (S.stp st).stp st2, Wp.imp (Wp.bind (show Wp c.K c.T c.W ((evE c.Φ ed ρ).bind _) G2 H2 Q from h)) fun z H3 ⟨G3, d3, e3, st3, dr3, h⟩ => ?_⟩
      rcases Wp.cmp h with ⟨k, e, q⟩ | ⟨x, e⟩
      · exact h2' _ _ _ _ _ _ _ _ st3.sub (dr2.stp st3) dr3 e (q _ _ (.refl st3.sub st3.tb))
      · exact (cmp_noexc e).elim
    | false =>
      rw [if_neg Bool.false_ne_true]
      exact Wp.one (show Wp c.K c.T c.W (.ok (.bool false)) G2 H2 Q from h) st2.sub st2.tb (.bl false)
  | exc x => exact (cmp_noexc e).elim
  | err => rw [e] at h; exact (show False from h).elim
theorem sd_cmp2 {op op' : CmpOp} {o p : Cop} (ho : CmOk X c.K (compareOp op) (cmpD o)) (ho' : CmOk X c.K (compareOp op') (cmpD p)) (hm : lastMarks [op, op'] [b, d] = false) (ha : PE X a (TEv c ea)) (hb : PE X b (TEv c eb)) (hd : PE X d (TEv c ed)) :
    PE X (.Compare a [op, op'] [b, d] pos) (TEv c (.cmp2 o p ea eb ed)) := by
  obtain ⟨r, h1, h2⟩ := ho
  obtain ⟨r', h1', h2'⟩ := ho'
  exact PE.imp (pe_chain h1 h1' ha hb hd hm) fun σ H Q ⟨ρ, G, S, h⟩ => chain_read (op := op) (op' := op') h2 h2' S h
theorem sd_cmp2T {op op' : CmpOp} {o p : Cop} (ho : CmOk X c.K (compareOp op) (cmpD o)) (ho' : CmOk X c.K (compareOp op') (cmpD p)) (hm : lastMarks [op, op'] [b, d] = false) (ha : PE X a (TEv c ea)) (hb : PE X b (TEv c eb)) (hd : PE X d (TEv c ed)) :
    PT X (.Compare a [op, op'] [b, d] pos) (TTv c (.cmp2 o p ea eb ed)) := by
  obtain ⟨r, h1, h2⟩ := ho
  obtain ⟨r', h1', h2'⟩ := ho'
  exact PT.imp (pt_chain h1 h1' ha hb hd hm) fun σ H Q ⟨ρ, G, S, h⟩ => chain_read (op := op) (op' := op') h2 h2' S (WpB.val h)
/-! ### not, and, or, if -/
theorem sd_not (ha : PE X a (TEv c ea)) : PE X (.UnaryOp .Not a pos) (TEv c (.not ea)) :=
  PE.imp (pe_not ha) fun σ H Q ⟨ρ, G, S, h⟩ => ⟨ρ, G, S, Wp.imp (WpB.val (WpB.bind h)) fun v H1 ⟨b, e, G1, _, st, h⟩ => ⟨b, e, Wp.one h st.sub st.tb (.bl _)⟩⟩
theorem sd_and {rest : List Expr} {p : Pos} (ha : PE X a (TEv c ea)) (hb : PE X (.BoolOp .And (b :: rest) pos) (TEv c eb)) : PE X (.BoolOp .And (a :: b :: rest) pos) (TEv c (.and ea eb)) :=
  PE.imp (pe_and ha hb) fun σ H Q ⟨ρ, G, S, h⟩ => ⟨ρ, G, S, Wp.imp (WpB.val (WpB.bind h)) fun v H1 ⟨k, e, G1, _, st, h⟩ => ⟨k, e, by
    cases k with
    | true => rw [if_pos rfl]; exact ⟨ρ, G1, S.stp st, h⟩
    | false => rw [if_neg Bool.false_ne_true]; exact Wp.one h st.sub st.tb (.bl _)⟩⟩
theorem sd_or {rest : List Expr} {p : Pos} (ha : PE X a (TEv c ea)) (hb : PE X (.BoolOp .Or (b :: rest) pos) (TEv c eb)) : PE X (.BoolOp .Or (a :: b :: rest) pos) (TEv c (.or ea eb)) :=
  PE.imp (pe_or ha hb) fun σ H Q ⟨ρ, G, S, h⟩ => ⟨ρ, G, S, Wp.imp (WpB.val (WpB.bind h)) fun v H1 ⟨k, e, G1, _, st, h⟩ => ⟨k, e, by
    cases k with
    | true => rw [if_pos rfl]; exact Wp.one h st.sub st.tb (.bl _)
    | false => rw [if_neg Bool.false_ne_true]; exact ⟨ρ, G1, S.stp st, h⟩⟩⟩
theorem WpB.mono {K : PySem.W.Frag} {T : List (Addr × Str)} {W : XK} {G H : Hp} {r : R D} {Q Q' : Bool → Hp → Prop} (h : WpB K T W r G H Q) (f : ∀ b H', Q b H' → Q' b H') : WpB K T W r G H Q' := by
  cases r with
  | ok d =>
    cases d with
    | bool b => exact fun G1 H1 st => f _ _ (h G1 H1 st)
    | _ => exact h
  | exc x => exact h
  | err => exact h
theorem WpA.mono {K : PySem.W.Frag} {T : List (Addr × Str)} {W : XK} {G H : Hp} {r : R D} {Q Q' : List V → Hp → Prop} (h : WpA K T W r G H Q) (f : ∀ b H', Q b H' → Q' b H') : WpA K T W r G H Q' := by
  cases r with
  | ok d =>
    cases d with
    | list b => exact fun G1 H1 vs st da => f _ _ (h G1 H1 vs st da)
    | _ => exact h
  | exc x => exact h
  | err => exact h
theorem sd_notT (ha : PT X a (TTv c ea)) : PT X (.UnaryOp .Not a pos) (TTv c (.not ea)) :=
  PT.imp (pt_not ha) fun σ H Q ⟨ρ, G, S, h⟩ => ⟨ρ, G, S, WpB.mono (WpB.bindB h) fun k H1 ⟨G1, _, st, h⟩ => (show WpB c.K c.T c.W (.ok (.bool (!k))) G1 H1 Q from h) G1 H1 (.refl st.sub st.tb)⟩
theorem sd_andT {rest : List Expr} (ha : PT X a (TTv c ea)) (hb : PW X (.BoolOp .And (b :: rest) pos) (TTv c eb)) : PW X (.BoolOp .And (a :: b :: rest) pos) (TTv c (.and ea eb)) :=
  PW.imp (pw_and ha hb) fun σ H Q ⟨ρ, G, S, h⟩ => ⟨ρ, G, S, WpB.mono (WpB.bindB h) fun k H1 ⟨G1, _, st, h⟩ => by
    cases k with
    | true => rw [if_pos rfl]; exact ⟨ρ, G1, S.stp st, h⟩
    | false => rw [if_neg Bool.false_ne_true]; exact (show WpB c.K c.T c.W (.ok (.bool false)) G1 H1 Q from h) G1 H1 (.refl st.sub st.tb)⟩
theorem sd_orT {rest : List Expr} (ha : PT X a (TTv c ea)) (hb : PW X (.BoolOp .Or (b :: rest) pos) (TTv c eb)) : PW X (.BoolOp .Or (a :: b :: rest) pos) (TTv c (.or ea eb)) :=
  PW.imp (pw_or ha hb) fun σ H Q ⟨ρ, G, S, h⟩ => ⟨ρ, G, S, WpB.mono (WpB.bindB h) fun k H1 ⟨G1, _, st, h⟩ => by
    cases k with
    | true => rw [if_pos rfl]; exact (show WpB c.K c.T c.W (.ok (.bool true)) G1 H1 Q from h) G1 H1 (.refl st.sub st.tb)
    | false => rw [if_neg Bool.false_ne_true]; exact ⟨ρ, G1, S.stp st, h⟩⟩
theorem sd_ife (ha : PT X a (TTv c ea)) (hb : PE X b (TEv c eb)) (hd : PE X d (TEv c ed)) : PE X (.IfExp a b d pos) (TEv c (.ife ea eb ed)) :=
  PE.imp (pe_ifExp ha hb hd) fun σ H Q ⟨ρ, G, S, h⟩ => ⟨ρ, G, S, WpB.mono (WpB.bind h) fun k H1 ⟨G1, _, st, h⟩ => by
    cases k with
    | true => rw [if_pos rfl]; exact ⟨ρ, G1, S.stp st, h⟩
    | false => rw [if_neg Bool.false_ne_true]; exact ⟨ρ, G1, S.stp st, h⟩⟩
/-- a value's test -/
theorem sd_test (ha : PE X a (TEv c ea)) (he : ∀ whole, isTrue a X.env whole = (do let v ← whole; standAt a.pos; holding [v] (truthy v))) : PT X a (TTv c ea) :=
  PT.imp (pt_val ha he) fun σ H Q ⟨ρ, G, S, h⟩ => ⟨ρ, G, S, WpB.val h⟩
/-! ### argument lists, displays -/
theorem sd_nil : PA X [] (TAv c .nil) := PA.imp pa_nil fun σ H Q ⟨ρ, G, S, h⟩ => (show WpA c.K c.T c.W (.ok (.list [])) G H Q from h) G H [] S.rfl .nil
theorem sd_cons {es : List Expr} {eas : E} (ha : PE X a (TEv c ea)) (hr : PA X es (TAv c eas)) (hs : starEach (a :: es) X.env = (false, eval a X.env) :: starEach es X.env) : PA X (a :: es) (TAv c (.cons ea eas)) :=
  PA.imp (pa_cons ha hr hs) fun σ H Q ⟨ρ, G, S, h⟩ => ⟨ρ, G, S, Wp.imp (Wp.bindA h) fun v H1 ⟨G1, d, _, st, dr, h⟩ => ⟨ρ, G1, S.stp st, WpA.mono (WpA.bindLA h) fun vs H2 ⟨G3, ds, _, st3, da3, h3⟩ =>
    (show WpA c.K c.T c.W (.ok (.list (d :: ds))) G3 H2 Q from h3) G3 H2 (v :: vs) (.refl st3.sub st3.tb) (.cons (dr.stp st3) da3)⟩⟩
theorem sd_lst {es : List Expr} {eas : E} (h : PA X es (TAv c eas)) : PE X (.List es pos) (TEv c (.lst eas)) :=
  PE.imp (pe_lst h) fun σ H Q ⟨ρ, G, S, h⟩ => ⟨ρ, G, S, WpA.mono (WpA.bindL h) fun vs H1 ⟨G1, ds, _, st, da, h⟩ => by
    by_cases z : ds.length ≤ LINE
    · rw [if_pos z] at h
      exact ⟨line_le (by rw [da.length]; exact z), fun p np => h _ _ _ (.new st.sub st.tb np _) (.lst upd_same (da.sub (sub_new (none_sub st.sub np))))⟩
    · rw [if_neg z] at h
      exact (show False from h).elim⟩
theorem sd_tup {es : List Expr} {eas : E} {k} (h : PA X es (TAv c eas)) : PE X (.Tuple es k pos) (TEv c (.tup eas)) :=
  PE.imp (pe_tup h) fun σ H Q ⟨ρ, G, S, h⟩ => ⟨ρ, G, S, WpA.mono (WpA.bindL h) fun vs H1 ⟨G1, ds, _, st, da, h⟩ => by
    by_cases z : ds.length ≤ LINE
    · rw [if_pos z] at h
      exact ⟨line_le (by rw [da.length]; exact z), fun p np => h _ _ _ (.new st.sub st.tb np _) (.tup upd_same (da.sub (sub_new (none_sub st.sub np))))⟩
    · rw [if_neg z] at h
      exact (show False from h).elim⟩
/-! ### subscripts -/
theorem WpP.imp {K : PySem.W.Frag} {T : List (Addr × Str)} {W : XK} {G H : Hp} {Q Q' : VK} {r : R D} (h : WpP K T W r G H Q) (f : ∀ v H', Q v H' → Q' v H') : WpP K T W r G H Q' := by
  cases r with
  | ok d => exact fun G1 H1 v st dr => f _ _ (h G1 H1 v st dr)
  | exc x => exact h
  | err => exact h
theorem atI_dr {K : PySem.W.Frag} {G : Hp} {vs : List V} {ds : List D} {i : Int} {d : D} (a : DrA K G vs ds) (h : L2.atI ds i = some d) : ∃ v, L2.atI vs i = some v ∧ Dr K G v d := by
  unfold L2.atI at h ⊢
  rw [a.length]
  cases e : L2.ixN ds.length i with
  | none => rw [e] at h; cases h
  | some j =>
    rw [e] at h
    exact a.get j h
theorem atI_ints {ns : List Int} {i : Int} {d : D} (h : L2.atI (ns.map PyData.int) i = some d) : ∃ n, L2.atI (ns.map V.int) i = some (.int n) ∧ d = .int n := by
  unfold L2.atI at h ⊢
  rw [List.length_map] at h ⊢
  cases e : L2.ixN ns.length i with
  | none => rw [e] at h; cases h
  | some j =>
    rw [e] at h
    have h : (ns.map PyData.int)[j]? = some d := h
    rw [List.getElem?_map] at h
    obtain ⟨n, h1, h2⟩ := Option.map_eq_some_iff.mp h
    refine ⟨n, ?_, h2.symm⟩
    show (ns.map V.int)[j]? = _
    rw [List.getElem?_map, h1]; rfl
theorem sd_idx (hK : X.K = c.K) (hs : PlainIx b) (ha : PE X a (TPv c ea)) (hb : PE X b (TEv c eb)) : PE X (.Subscript a b pos) (TEv c (.idx ea eb)) := by
  refine PE.imp (pe_ix ix_seq ha hb hs) fun σ H Q ⟨ρ, G, S, h⟩ => ⟨ρ, G, S, WpP.imp (Wp.bindP h) fun v H1 ⟨G1, d, e1, st, dr, h⟩ => ⟨ρ, G1, S.stp st, Wp.imp (Wp.bind h) fun w H2 ⟨G2, d2, e2, st2, dr2, h⟩ => ?_⟩⟩
  have pk := dr.stp st2
  unfold idxD at h
  rw [hK]
  split at h
  · cases dr2
    obtain ⟨a, xs, rfl, h1, h2⟩ := pk.list st2.sub
    split at h
    · rename_i e
      obtain ⟨z, e3, e4⟩ := atI_dr h2 e
      exact .inl ⟨a, xs, _, z, rfl, rfl, SqL.of h1, e3, Wp.one h st2.sub st2.tb e4⟩
    · exact (show False from h).elim
  · cases dr2
    obtain ⟨a, xs, rfl, h1, h2⟩ := pk.tup st2.sub
    split at h
    · rename_i e
      obtain ⟨z, e3, e4⟩ := atI_dr h2 e
      exact .inr (.inl ⟨a, xs, _, z, rfl, rfl, SqT.of h1, e3, Wp.one h st2.sub st2.tb e4⟩)
    · exact (show False from h).elim
  · cases dr2
    obtain ⟨a, ns, rfl, rfl, h1⟩ := pk.scr st2.sub
    split at h
    · rename_i e
      obtain ⟨n, e3, rfl⟩ := atI_ints e
      exact .inl ⟨a, _, _, _, rfl, rfl, h1, e3, Wp.one h st2.sub st2.tb (.int n)⟩
    · exact (show False from h).elim
  · exact (show False from h).elim
theorem cut_dr {K : PySem.W.Frag} {G : Hp} {vs : List V} {ds : List D} {lo hi : Option Int} (a : DrA K G vs ds) : DrA K G (cutV vs lo hi) (cutD ds lo hi) := by
  unfold cutV cutD
  rw [a.length]
  exact (a.drop _).take _
/-- what is wanted of a slice's part -/
def WpO (K : PySem.W.Frag) (T : List (Addr × Str)) (W : XK) (r : R (Option Int)) (G H : Hp) (Q : Option Int → Hp → Prop) : Prop := match r with
  | .ok o => ∀ G' H', Stp T G H G' H' → Q o H'
  | .exc c => ∀ G' H', Stp T G H G' H' → W (.ref (He.ga K (c : Str))) none H'
  | .err => False
def TOv (c : Cn) (e : E) : TO := fun σ H Q => ∃ ρ G, Ste c.K c.T c.H0 ρ σ G H ∧ WpO c.K c.T c.W (partE e (evE c.Φ e ρ)) G H Q
theorem sd_noPart : PO X none (TOv c (.con .none)) := ⟨fun pins s σ H Q I ⟨ρ, G, S, h⟩ => po_none.run pins s σ H Q I ((show WpO c.K c.T c.W (.ok none) G H Q from h) G H S.rfl)⟩
theorem sd_part (hn : isNone eb = false) (hb : PE X b (TEv c eb)) : PO X (some b) (TOv c eb) := ⟨fun pins s σ H Q I ⟨ρ, G, S, h⟩ => (po_some hb).run pins s σ H Q I ⟨ρ, G, S, by
  unfold partE at h
  rw [hn, if_neg Bool.false_ne_true] at h
  cases e : evE c.Φ eb ρ with
  | ok d =>
    rw [e] at h
    cases d with
    | int i => exact fun G1 H1 v st dr => by cases dr; exact ⟨i, rfl, (show WpO c.K c.T c.W (.ok (some i)) G H Q from h) G1 H1 st⟩
    | _ => exact (show False from h).elim
  | exc x => rw [e] at h; exact h
  | err => rw [e] at h; exact (show False from h).elim⟩⟩
theorem WpO.stp {K : PySem.W.Frag} {T : List (Addr × Str)} {W : XK} {G H G' H' : Hp} {r : R (Option Int)} {Q : Option Int → Hp → Prop} (h : WpO K T W r G H Q) (st : Stp T G H G' H') : WpO K T W r G' H' Q := by
  cases r with
  | ok d => exact fun G2 H2 s2 => h G2 H2 (st.trans s2)
  | exc c => exact fun G2 H2 s2 => h G2 H2 (st.trans s2)
  | err => exact h
theorem WpO.bind {K : PySem.W.Frag} {T : List (Addr × Str)} {W : XK} {G H : Hp} {Q : VK} {r : R (Option Int)} {k : Option Int → R D} (h : Wp K T W (r.bind k) G H Q) :
    WpO K T W r G H fun o H1 => ∃ G1, Stp T G H G1 H1 ∧ Wp K T W (k o) G1 H1 Q := by
  cases r with
  | ok d => exact fun G1 H1 st => ⟨G1, st, Wp.stp (show Wp K T W (k d) G H Q from h) st⟩
  | exc c => exact h
  | err => exact h
theorem sd_sli {lo hi : Option Expr} {el eh : E} {p2 : Pos} (hK : X.K = c.K) (ha : PE X a (TPv c ea)) (hl : PO X lo (TOv c el)) (hh : PO X hi (TOv c eh)) : PE X (.Subscript a (.Slice lo hi none p2) pos) (TEv c (.sli ea el eh)) := by
  refine PE.imp (pe_slice (SlR.or sl_list sl_str) ha hl hh) fun σ H Q ⟨ρ, G, S, h⟩ => ⟨ρ, G, S, WpP.imp (Wp.bindP h) fun v H1 ⟨G1, d, e1, st, dr, h⟩ => ⟨ρ, G1, S.stp st, ?_⟩⟩
  have q := WpO.bind h
  have go : ∀ (r : R (Option Int)) (k : Option Int → R D) (Q1 : Option Int → Hp → Prop), (∀ o G2 H2, Stp c.T G1 H1 G2 H2 → Wp c.K c.T c.W (k o) G2 H2 Q → Q1 o H2) → Wp c.K c.T c.W (r.bind k) G1 H1 Q → WpO c.K c.T c.W r G1 H1 Q1 := fun r k Q1 f h => by
    cases r with
    | ok o => exact fun G2 H2 st => f o G2 H2 st (Wp.stp (show Wp c.K c.T c.W (k o) G1 H1 Q from h) st)
    | exc x => exact h
    | err => exact h
  refine go _ _ _ (fun l G2 H2 st2 h2 => ⟨ρ, G2, (S.stp st).stp st2, ?_⟩) h
  have go2 : ∀ (r : R (Option Int)) (k : Option Int → R D) (Q1 : Option Int → Hp → Prop), (∀ o G3 H3, Stp c.T G2 H2 G3 H3 → Wp c.K c.T c.W (k o) G3 H3 Q → Q1 o H3) → Wp c.K c.T c.W (r.bind k) G2 H2 Q → WpO c.K c.T c.W r G2 H2 Q1 := fun r k Q1 f h => by
    cases r with
    | ok o => exact fun G3 H3 st => f o G3 H3 st (Wp.stp (show Wp c.K c.T c.W (k o) G2 H2 Q from h) st)
    | exc x => exact h
    | err => exact h
  refine go2 _ _ _ (fun u G3 H3 st3 h3 => ?_) h2
  have pk := (dr.stp st2).stp st3
  rw [hK]
  unfold sliD at h3
  split at h3
  · obtain ⟨a, xs, rfl, q1, q2⟩ := pk.list st3.sub
    exact .inl ⟨a, xs, rfl, SqL.of q1, fun p np => h3 _ _ _ (.new st3.sub st3.tb np _) (.lst upd_same ((cut_dr q2).sub (sub_new (none_sub st3.sub np))))⟩
  · split at h3
    · rename_i z
      rw [pk.str]
      exact .inr ⟨_, rfl, line_le z, Wp.one h3 st3.sub st3.tb (.str _)⟩
    · exact (show False from h3).elim
  · exact (show False from h3).elim
theorem sd_rev {k : Nat} {p1 p2 p3 : Pos} (hK : X.K = c.K) (ha : PE X a (TPv c ea)) : PE X (.Subscript a (.Slice none none (some (.UnaryOp .USub (.Constant (.int 1) k p1) p2)) p3) pos) (TEv c (.rev ea)) := by
  refine PE.imp (pe_revL ha) fun σ H Q ⟨ρ, G, S, h⟩ => ⟨ρ, G, S, WpP.imp (Wp.bindP h) fun v H1 ⟨G1, d, e1, st, dr, h⟩ => ?_⟩
  cases d with
  | list l =>
    obtain ⟨a, xs, rfl, q1, q2⟩ := dr.list st.sub
    refine ⟨a, xs, rfl, SqL.of q1, fun p np => ?_⟩
    refine (show Wp c.K c.T c.W (.ok (.list l.reverse)) G1 H1 Q from h) _ _ _ (.new st.sub st.tb np _) (.lst upd_same (DrA.sub (sub_new (none_sub st.sub np)) ?_))
    have rv : ∀ (vs : List V) (ds : List D) (ws : List V) (es : List D), DrA c.K G1 vs ds → DrA c.K G1 ws es → DrA c.K G1 (List.reverseAux vs ws) (List.reverseAux ds es) := by
      intro vs
      induction vs with
      | nil => intro ds ws es x y; cases x; exact y
      | cons v vs ih => 
        intro ds ws es x y
        cases x with
        | cons x1 x2 =>
          rename_i d ds
          exact ih ds (v :: ws) (d :: es) x2 (.cons x1 y)
    exact rv _ _ _ _ q2 .nil
  | _ => exact (show False from h).elim
end
end Nz

set_option maxHeartbeats 2000000
/-! NzExp2: calls of the program's defs and of built-in functions. -/
namespace Nz
open PySem PySem.Spec PyProof.Rows L2 LamX
/-! ### built-in functions -/
def CallOk (X : Cx) (K : PySem.W.Frag) (T : List (Addr × Str)) (W : XK) (f : Value) (g : List D → R D) : Prop :=
  ∃ r : List V → Hp → VK → Prop, CallR X f r ∧ ∀ G H ds vs Q, Sub G H → Tabs T H → DrA K G vs ds → Wp K T W (g ds) G H Q → r vs H Q
section
variable {X : Cx} {K : PySem.W.Frag} {T : List (Addr × Str)} {W : XK} {G : Hp}
theorem dra1 {vs : List V} {d : D} (h : DrA K G vs [d]) : ∃ v, vs = [v] ∧ Dr K G v d := by
  obtain _ | ⟨h1, h2⟩ := h
  cases h2
  exact ⟨_, rfl, h1⟩
theorem dra2 {vs : List V} {d e : D} (h : DrA K G vs [d, e]) : ∃ v w, vs = [v, w] ∧ Dr K G v d ∧ Dr K G w e := by
  obtain _ | ⟨h1, h2⟩ := h
  obtain ⟨w, rfl, h3⟩ := dra1 h2
  exact ⟨_, _, rfl, h1, h3⟩
theorem lst_inv {v : V} {l : List D} (h : Dr K G v (.list l)) : ∃ a xs, v = .ref a ∧ G a = some (.lst xs) ∧ DrA K G xs l := by
  obtain _ | _ | _ | _ | ⟨ha, da⟩ := h
  exact ⟨_, _, rfl, ha, da⟩
theorem tup_inv {v : V} {l : List D} (h : Dr K G v (.tuple l)) : ∃ a xs, v = .ref a ∧ G a = some (.tup xs) ∧ DrA K G xs l := by
  obtain _ | _ | _ | _ | _ | ⟨ha, da⟩ := h
  exact ⟨_, _, rfl, ha, da⟩
def bltV : Blt → Value
  | .abs => .builtin "abs" | .sum => .builtin "sum" | .max => .builtin "max" | .min => .builtin "min" | .all => .builtin "all" | .any => .builtin "any"
  | .int => .type "int" | .str => .type "str" | .list => .type "list" | .tuple => .type "tuple"
def bltN : Blt → String
  | .abs => "abs" | .sum => "sum" | .max => "max" | .min => "min" | .all => "all" | .any => "any"
  | .int => "int" | .str => "str" | .list => "list" | .tuple => "tuple"
theorem blt_ok (hK : X.K = K) (hc : X.calm = true) (f : Blt) : CallOk X K T W (bltV f) (bltD f) := by
  subst hK
  cases f
  · refine ⟨_, call_abs, fun G H ds vs Q s t da h => ?_⟩
    unfold bltD at h; split at h <;> try (exact (show False from h).elim)
    all_goals try contradiction
    obtain ⟨v, rfl, h1⟩ := dra1 da
    cases h1
    exact ⟨_, rfl, Wp.one h s t (.int _)⟩
  · refine ⟨_, cr_sum hc, fun G H ds vs Q s t da h => ?_⟩
    unfold bltD at h; split at h <;> try (exact (show False from h).elim)
    all_goals try contradiction
    obtain ⟨v, rfl, h1⟩ := dra1 da
    obtain ⟨a, xs, rfl, h2, h3⟩ := lst_inv h1
    split at h
    · rename_i is e
      have e2 := DrA.ints_inv e h3
      subst e2
      exact ⟨a, is, rfl, SqL.of (s _ _ h2), Wp.one h s t (.int _)⟩
    · exact (show False from h).elim
  · refine ⟨_, call_max2 hc, fun G H ds vs Q s t da h => ?_⟩
    unfold bltD at h; split at h <;> try (exact (show False from h).elim)
    all_goals try contradiction
    obtain ⟨v, w, rfl, h1, h2⟩ := dra2 da
    cases h1; cases h2
    exact ⟨_, _, rfl, Wp.one h s t (.int _)⟩
  · refine ⟨_, call_min2 hc, fun G H ds vs Q s t da h => ?_⟩
    unfold bltD at h; split at h <;> try (exact (show False from h).elim)
    all_goals try contradiction
    obtain ⟨v, w, rfl, h1, h2⟩ := dra2 da
    cases h1; cases h2
    exact ⟨_, _, rfl, Wp.one h s t (.int _)⟩
  · refine ⟨_, cr_all hc, fun G H ds vs Q s t da h => ?_⟩
    unfold bltD at h; split at h <;> try (exact (show False from h).elim)
    all_goals try contradiction
    obtain ⟨v, rfl, h1⟩ := dra1 da
    obtain ⟨a, xs, rfl, h2, h3⟩ := lst_inv h1
    split at h
    · rename_i is e
      have e2 := DrA.bools_inv e h3
      subst e2
      exact ⟨a, is, rfl, SqL.of (s _ _ h2), Wp.one h s t (.bl _)⟩
    · exact (show False from h).elim
  · refine ⟨_, cr_any hc, fun G H ds vs Q s t da h => ?_⟩
    unfold bltD at h; split at h <;> try (exact (show False from h).elim)
    all_goals try contradiction
    obtain ⟨v, rfl, h1⟩ := dra1 da
    obtain ⟨a, xs, rfl, h2, h3⟩ := lst_inv h1
    split at h
    · rename_i is e
      have e2 := DrA.bools_inv e h3
      subst e2
      exact ⟨a, is, rfl, SqL.of (s _ _ h2), Wp.one h s t (.bl _)⟩
    · exact (show False from h).elim
  · refine ⟨_, CallR.or call_int1 call_int_str, fun G H ds vs Q s t da h => ?_⟩
    unfold bltD at h; split at h <;> try (exact (show False from h).elim)
    all_goals try contradiction
    · obtain ⟨v, rfl, h1⟩ := dra1 da
      cases h1
      exact .inl (.inl ⟨_, rfl, Wp.one h s t (.int _)⟩)
    · obtain ⟨v, rfl, h1⟩ := dra1 da
      cases h1
      exact .inl (.inr ⟨_, rfl, Wp.one h s t (.int _)⟩)
    · obtain ⟨v, rfl, h1⟩ := dra1 da
      cases h1
      split at h
      · rename_i z
        split at h
        · rename_i n e
          exact .inr ⟨_, n, rfl, e, z, Wp.one h s t (.int _)⟩
        · exact (show False from h).elim
      · exact (show False from h).elim
  · refine ⟨_, call_str_int, fun G H ds vs Q s t da h => ?_⟩
    unfold bltD at h; split at h <;> try (exact (show False from h).elim)
    all_goals try contradiction
    obtain ⟨v, rfl, h1⟩ := dra1 da
    cases h1
    split at h
    · rename_i z
      exact ⟨_, rfl, z, Wp.one h s t (.str _)⟩
    · exact (show False from h).elim
  · refine ⟨_, call_list_of, fun G H ds vs Q s t da h => ?_⟩
    unfold bltD at h; split at h <;> try (exact (show False from h).elim)
    all_goals try contradiction
    · obtain ⟨v, rfl, h1⟩ := dra1 da
      obtain ⟨a, xs, rfl, h2, h3⟩ := lst_inv h1
      exact ⟨a, xs, rfl, .inl (SqL.of (s _ _ h2)), fun p np => h _ _ _ (.new s t np _) (.lst upd_same (h3.sub (sub_new (none_sub s np))))⟩
    · obtain ⟨v, rfl, h1⟩ := dra1 da
      obtain ⟨a, xs, rfl, h2, h3⟩ := tup_inv h1
      exact ⟨a, xs, rfl, .inr (SqT.of (s _ _ h2)), fun p np => h _ _ _ (.new s t np _) (.lst upd_same (h3.sub (sub_new (none_sub s np))))⟩
  · refine ⟨_, call_tuple_of, fun G H ds vs Q s t da h => ?_⟩
    unfold bltD at h; split at h <;> try (exact (show False from h).elim)
    all_goals try contradiction
    · obtain ⟨v, rfl, h1⟩ := dra1 da
      obtain ⟨a, xs, rfl, h2, h3⟩ := lst_inv h1
      exact ⟨a, xs, rfl, .inl ⟨SqL.of (s _ _ h2), fun p np => h _ _ _ (.new s t np _) (.tup upd_same (h3.sub (sub_new (none_sub s np))))⟩⟩
    · obtain ⟨v, rfl, h1⟩ := dra1 da
      obtain ⟨a, xs, rfl, h2, h3⟩ := tup_inv h1
      exact ⟨a, xs, rfl, .inr ⟨SqT.of (s _ _ h2), Wp.one h s t (.tup h2 h3)⟩⟩
end
section
variable {X : Cx} {c : Cn} {a b : Expr} {ea eb : E} {pos p p2 : Pos} {es : List Expr} {eas : E}
theorem blt_read {f : Blt} {r : List V → Hp → VK → Prop} (h2 : ∀ G H ds vs Q, Sub G H → Tabs c.T H → DrA c.K G vs ds → Wp c.K c.T c.W (bltD f ds) G H Q → r vs H Q) {σ : L2.St} {H : Hp} {Q : VK} (h : TEv c (.blt f eas) σ H Q) : tCB r (TAv c eas) σ H Q := by
  obtain ⟨ρ, G, S, h⟩ := h
  exact ⟨ρ, G, S, WpA.mono (WpA.bindL h) fun vs H1 ⟨G1, ds, _, st, da, h⟩ => h2 _ _ _ _ _ st.sub st.tb da h⟩
theorem sd_blt {f : Blt} {x : Str} (hx : x = (bltN f : Str)) (hK : X.K = c.K) (hc : X.calm = true) (hg : Gl X x) (hm : X.mg x = none) (ha : PA X (a :: es) (TAv c eas))
    (he : starEach (a :: es) X.env = (false, eval a X.env) :: starEach es X.env) (hpl : (backTo pos (starEach es X.env)).any (·.1) = false) : PE X (.Call (.Name x p) (a :: es) [] pos) (TEv c (.blt f eas)) := by
  subst hx
  obtain ⟨r, h1, h2⟩ := blt_ok (K := c.K) (T := c.T) (W := c.W) hK hc f
  cases f
  · exact PE.imp (pe_callB h1 hg hm (by decide +kernel) ha (by decide +kernel) (by decide +kernel) he hpl) fun σ H Q h => blt_read h2 h
  · exact PE.imp (pe_callB h1 hg hm (by decide +kernel) ha (by decide +kernel) (by decide +kernel) he hpl) fun σ H Q h => blt_read h2 h
  · exact PE.imp (pe_callB h1 hg hm (by decide +kernel) ha (by decide +kernel) (by decide +kernel) he hpl) fun σ H Q h => blt_read h2 h
  · exact PE.imp (pe_callB h1 hg hm (by decide +kernel) ha (by decide +kernel) (by decide +kernel) he hpl) fun σ H Q h => blt_read h2 h
  · exact PE.imp (pe_callB h1 hg hm (by decide +kernel) ha (by decide +kernel) (by decide +kernel) he hpl) fun σ H Q h => blt_read h2 h
  · exact PE.imp (pe_callB h1 hg hm (by decide +kernel) ha (by decide +kernel) (by decide +kernel) he hpl) fun σ H Q h => blt_read h2 h
  · exact PE.imp (pe_callTy h1 hg hm (by decide +kernel) ha (by decide +kernel) (by decide +kernel) he hpl) fun σ H Q h => blt_read h2 h
  · exact PE.imp (pe_callTy h1 hg hm (by decide +kernel) ha (by decide +kernel) (by decide +kernel) he hpl) fun σ H Q h => blt_read h2 h
  · exact PE.imp (pe_callTy h1 hg hm (by decide +kernel) ha (by decide +kernel) (by decide +kernel) he hpl) fun σ H Q h => blt_read h2 h
  · exact PE.imp (pe_callTy h1 hg hm (by decide +kernel) ha (by decide +kernel) (by decide +kernel) he hpl) fun σ H Q h => blt_read h2 h
/-! ### isinstance, len, sorted -/
def tyN : Ty → String
  | .int => "int" | .bool => "bool" | .list => "list" | .tuple => "tuple" | .str => "str"
theorem isi_inv {K : PySem.W.Frag} {G H : Hp} {v : V} {d : D} {ty : Ty} {b : Bool} (s : Sub G H) (hv : Dr K G v d) (e : isiD d ty = .ok b) : ∃ t, TyX K H v t ∧ PySem.W.kitOne K t (.type (tyN ty)) = some b := by
  cases hv with
  | non => cases ty <;> (cases e; exact ⟨_, .base .non, kit_ty (by decide +kernel)⟩)
  | bl x => cases ty <;> (cases e; exact ⟨_, .base (.bl x), kit_ty (by decide +kernel)⟩)
  | int x => cases ty <;> (cases e; exact ⟨_, .base (.int x), kit_ty (by decide +kernel)⟩)
  | str x => cases ty <;> (cases e; exact ⟨_, .base (.str x), kit_ty (by decide +kernel)⟩)
  | lst h _ => cases ty <;> (cases e; exact ⟨_, .base (.lst (s _ _ h)), kit_ty (by decide +kernel)⟩)
  | tup h _ => cases ty <;> (cases e; exact ⟨_, .base (.tup (s _ _ h)), kit_ty (by decide +kernel)⟩)
  | dic h _ _ => cases ty <;> cases e
  | scr h => cases ty <;> cases e
theorem isiD_noexc {d : D} {ty : Ty} {x : String} (h : isiD d ty = .exc x) : False := by
  cases d <;> cases ty <;> cases h
theorem sd_isi {ty : Ty} {y : Str} (hy : y = (tyN ty : Str)) (hK : X.K = c.K) (hg : Gl X "isinstance") (hm : X.mg "isinstance" = none) (hg2 : Gl X y) (hm2 : X.mg y = none) (ha : PE X a (TEv c ea))
    (he : starEach [a, .Name y p2] X.env = (false, eval a X.env) :: starEach [.Name y p2] X.env) : PE X (.Call (.Name "isinstance" p) [a, .Name y p2] [] pos) (TEv c (.isi ea ty)) := by
  subst hy
  have hb : PE X (.Name (tyN ty : Str) p2) (tC (.ty (tyN ty))) := by
    cases ty
    · exact pe_bltn hg2 hm2 (by decide +kernel) rfl (by decide +kernel) (by decide +kernel)
    · exact pe_bltn hg2 hm2 (by decide +kernel) rfl (by decide +kernel) (by decide +kernel)
    · exact pe_bltn hg2 hm2 (by decide +kernel) rfl (by decide +kernel) (by decide +kernel)
    · exact pe_bltn hg2 hm2 (by decide +kernel) rfl (by decide +kernel) (by decide +kernel)
    · exact pe_bltn hg2 hm2 (by decide +kernel) rfl (by decide +kernel) (by decide +kernel)
  refine PE.imp (pe_callB call_isi hg hm (by decide +kernel) (pa_cons ha (pa_cons hb pa_nil) he) (by decide +kernel) (by decide +kernel) he) fun σ H Q ⟨ρ, G, S, h⟩ => ⟨ρ, G, S, Wp.imp (Wp.bind h) fun v H1 ⟨G1, d, e1, st, dr, h⟩ => ?_⟩
  rcases Wp.cmp h with ⟨k, e, q⟩ | ⟨x, e⟩
  · obtain ⟨t, h1, h2⟩ := isi_inv st.sub dr e
    rw [hK]
    exact ⟨v, _, t, _, k, rfl, .ty _, h1, h2, q _ _ (.refl st.sub st.tb)⟩
  · exact (isiD_noexc e).elim
theorem sd_len (hK : X.K = c.K) (hg : Gl X "len") (hm : X.mg "len" = none) (ha : PE X a (TPv c ea)) (he : starEach [a] X.env = (false, eval a X.env) :: starEach [] X.env) : PE X (.Call (.Name "len" p) [a] [] pos) (TEv c (.len ea)) := by
  refine PE.imp (pe_callB call_len hg hm (by decide +kernel) (pa_cons ha pa_nil he) (by decide +kernel) (by decide +kernel) he) fun σ H Q ⟨ρ, G, S, h⟩ => ⟨ρ, G, S, WpP.imp (Wp.bindP h) fun v H1 ⟨G1, d, e1, st, pk, h⟩ => ?_⟩
  rw [hK]
  unfold lenD at h
  split at h
  · obtain ⟨a, xs, rfl, h1, h2⟩ := pk.list st.sub
    exact ⟨_, xs.length, rfl, .inl ⟨xs, SqL.of h1, rfl⟩, by rw [h2.length]; exact Wp.one h st.sub st.tb (.int _)⟩
  · obtain ⟨a, xs, rfl, h1, h2⟩ := pk.tup st.sub
    exact ⟨_, xs.length, rfl, .inr ⟨xs, SqT.of h1, rfl⟩, by rw [h2.length]; exact Wp.one h st.sub st.tb (.int _)⟩
  · split at h
    · rename_i z
      rw [pk.str]
      exact ⟨_, _, rfl, ⟨line_le z, rfl⟩, Wp.one h st.sub st.tb (.int _)⟩
    · exact (show False from h).elim
  · obtain ⟨a, ns, rfl, rfl, h1⟩ := pk.scr st.sub
    exact ⟨_, ns.length, rfl, .inl ⟨_, h1, by simp⟩, by have q := Wp.one h st.sub st.tb (.int _); simpa using q⟩
  · exact (show False from h).elim
/-! ### sorted ints: one list is the sorted one -/
theorem putI_perm (x : Int) : ∀ l : List Int, (putI x l).Perm (x :: l)
  | [] => .refl _
  | y :: l => by
    unfold putI
    split
    · exact .refl _
    · exact (List.Perm.cons y (putI_perm x l)).trans (.swap x y l)
theorem srtI_perm : ∀ l : List Int, (srtI l).Perm l
  | [] => .refl _
  | x :: l => (putI_perm x _).trans ((srtI_perm l).cons x)
theorem putI_mem {x z : Int} {l : List Int} (h : z ∈ putI x l) : z = x ∨ z ∈ l := by
  have := (putI_perm x l).mem_iff.mp h
  simpa using this
theorem putI_sorted (x : Int) : ∀ l : List Int, l.Pairwise (· ≤ ·) → (putI x l).Pairwise (· ≤ ·)
  | [], _ => by simp [putI]
  | y :: l, h => by
    have h' := List.pairwise_cons.mp h
    unfold putI
    split
    · rename_i q
      refine List.pairwise_cons.mpr ⟨fun z hz => ?_, h⟩
      rcases List.mem_cons.mp hz with rfl | hz
      · exact q
      · exact Int.le_trans q (h'.1 z hz)
    · rename_i q
      refine List.pairwise_cons.mpr ⟨fun z hz => ?_, putI_sorted x l h'.2⟩
      rcases putI_mem hz with rfl | hz
      · omega
      · exact h'.1 z hz
theorem srtI_sorted : ∀ l : List Int, (srtI l).Pairwise (· ≤ ·)
  | [] => .nil
  | x :: l => putI_sorted x _ (srtI_sorted l)
theorem sorted_one : ∀ {l m : List Int}, l.Perm m → l.Pairwise (· ≤ ·) → m.Pairwise (· ≤ ·) → l = m
  | [], m, p, _, _ => by simpa using p.symm.eq_nil
  | x :: l, m, p, h, k => by
    cases m with
    | nil => exact absurd p.eq_nil (by simp)
    | cons y m =>
      have h' := List.pairwise_cons.mp h
      have k' := List.pairwise_cons.mp k
      have e : x = y := by
        have h1 : x ∈ y :: m := p.mem_iff.mp List.mem_cons_self
        have h2 : y ∈ x :: l := p.mem_iff.mpr List.mem_cons_self
        have q1 : y ≤ x := by
          rcases List.mem_cons.mp h1 with e | e
          · omega
          · exact k'.1 x e
        have q2 : x ≤ y := by
          rcases List.mem_cons.mp h2 with e | e
          · omega
          · exact h'.1 y e
        omega
      subst e
      rw [sorted_one (List.Perm.cons_inv p) h'.2 k'.2]
theorem sd_srt (hK : X.K = c.K) (hg : Gl X "sorted") (hm : X.mg "sorted" = none) (ha : PE X a (TPv c ea)) (he : starEach [a] X.env = (false, eval a X.env) :: starEach [] X.env) : PE X (.Call (.Name "sorted" p) [a] [] pos) (TEv c (.srt ea)) := by
  refine PE.imp (pe_callB cr_sortedI hg hm (by decide +kernel) (pa_cons ha pa_nil he) (by decide +kernel) (by decide +kernel) he) fun σ H Q ⟨ρ, G, S, h⟩ => ⟨ρ, G, S, WpP.imp (Wp.bindP h) fun v H1 ⟨G1, d, e1, st, pk, h⟩ => ?_⟩
  rw [hK]
  unfold srtD at h
  split at h
  · split at h
    · rename_i is e
      obtain ⟨a, xs, rfl, h1, h2⟩ := pk.list st.sub
      have e2 := DrA.ints_inv e h2
      subst e2
      refine ⟨a, is, rfl, SqL.of h1, fun ns p pm so np => ?_⟩
      rw [sorted_one (pm.trans (srtI_perm is).symm) so (srtI_sorted is)]
      exact h _ _ _ (.new st.sub st.tb np _) (.lst upd_same (DrA.ints _))
    · exact (show False from h).elim
  · exact (show False from h).elim
/-! ### calls of the program's defs -/
/-- a def's promise: its arguments are trees; it gives what Φ says of them, all that stood stands -/
def spP (K : PySem.W.Frag) (T : List (Addr × Str)) (Φ : String → List D → R D) (f : String) (n : Nat) : Sp := fun vs H Q W => vs.length = n ∧ ∃ G ds, Sub G H ∧ NoT G ∧ Tabs T H ∧ DrA K G vs ds ∧ Wp K T W (Φ f ds) G H Q
structure FnP (K : PySem.W.Frag) (T : List (Addr × Str)) (Φ : String → List D → R D) (P : Program) (w : World) (mg : Str → Option Value) (base : Heap) (k : Nat) (f : String) (n : Nat) : Prop where
  ok : ∃ fd ps, FnOk P w K mg base (L2N.CX P w) k (He.ga K (f : Str)) fd ps (spP K T Φ f n) ∧ Binds K fd ps []
  gl : mg (f : Str) = some (.ref (He.ga K (f : Str)))
  kp : PySem.W.keepIn K (.ref (He.ga K (f : Str))) = true
theorem FnP.mono {K : PySem.W.Frag} {T : List (Addr × Str)} {Φ : String → List D → R D} {P : Program} {w : World} {mg : Str → Option Value} {base : Heap} {j k : Nat} {f : String} {n : Nat} (h : FnP K T Φ P w mg base j f n) (hk : j ≤ k) : FnP K T Φ P w mg base k f n := by
  obtain ⟨fd, ps, h1, h2⟩ := h.ok
  exact ⟨⟨fd, ps, h1.mono hk, h2⟩, h.gl, h.kp⟩
/-- how many arguments -/
def alen : E → Option Nat
  | .nil => some 0
  | .cons _ as => (alen as).map (· + 1)
  | _ => none
theorem alen_ok {Φ : String → List D → R D} {ρ : Env} : ∀ {e : E} {n : Nat} {ds : List D}, alen e = some n → evE Φ e ρ = .ok (.list ds) → ds.length = n
  | .nil, n, ds, h, e => by
    simp only [alen, Option.some.injEq] at h
    have e : (R.ok (PyData.list []) : R D) = .ok (.list ds) := e
    cases e; exact h
  | .cons a as, n, ds, h, e => by
    simp only [alen, Option.map_eq_some_iff] at h
    obtain ⟨m, h1, h2⟩ := h
    have e : ((evE Φ a ρ).bind fun x => (evE Φ as ρ).bind fun y => (R.list y).bind fun l => (R.ok (PyData.list (x :: l)) : R D)) = .ok (.list ds) := e
    cases e1 : evE Φ a ρ with
    | ok x =>
      rw [e1] at e
      cases e2 : evE Φ as ρ with
      | ok y =>
        rw [e2] at e
        cases y with
        | list l =>
          have e : (R.ok (PyData.list (x :: l)) : R D) = .ok (.list ds) := e
          cases e
          rw [List.length_cons, alen_ok h1 e2, h2]
        | _ => cases e
      | exc c => rw [e2] at e; cases e
      | err => rw [e2] at e; cases e
    | exc c => rw [e1] at e; cases e
    | err => rw [e1] at e; cases e
theorem sd_call {f : String} {n k : Nat} {x : Str} (hx : x = (f : Str)) (F : FnP X.K c.T c.Φ X.prog X.w X.mg X.base k f n) (hK : X.K = c.K) (hr : Room k X.A) (tk : L2N.Takes X fun cls d _ H => c.W cls d H) (hn : alen eas = some n) (hg : Gl X x) (ha : PA X (a :: es) (TAv c eas)) (hd : (x == ("__debug__" : Str)) = false)
    (he : starEach (a :: es) X.env = (false, eval a X.env) :: starEach es X.env) (hpl : (backTo pos (starEach es X.env)).any (·.1) = false) : PE X (.Call (.Name x p) (a :: es) [] pos) (TEv c (.call f eas)) := by
  subst hx
  obtain ⟨⟨fd, ps, h1, h2⟩, gl, kp⟩ := F
  refine PE.imp (pe_call h1 hr hg gl kp h2 .nil (L2N.passes_call (E := c.W) tk fun _ _ _ _ z => z) ha hd he hpl) fun σ H Q ⟨ρ, G, S, h⟩ => ⟨ρ, G, S, WpA.mono (WpA.bindL h) fun vs H1 ⟨G1, ds, e, st, da, h⟩ => ?_⟩
  rw [List.append_nil]
  rw [hK]
  exact ⟨by rw [da.length]; exact alen_ok hn e, G1, ds, st.sub, st.ntt S.nt, st.tb, da, h⟩
end
end Nz

set_option maxHeartbeats 2000000
/-! NzComp: targets, what is walked, list comprehensions. -/
namespace Nz
open PySem PySem.Spec PyProof.Rows L2 LamX
/-! ### targets -/
def pslots : Pat → List Nat
  | .nm i => [i]
  | .p2 a b => pslots a ++ pslots b
def gOf (K : PySem.W.Frag) : Pat → TG
  | .nm i => gName i
  | .p2 a b => gTup K 2 (gCons (gOf K a) (gCons (gOf K b) gNil))
theorem wipe_get (σ : L2.St) : ∀ (vs : List Nat) (j : Nat), (wipe σ vs)[j]? = if j ∈ vs then (if j < σ.length then some none else none) else σ[j]?
  | [], j => by simp [wipe]
  | v :: vs, j => by
    have ih := wipe_get σ vs j
    unfold wipe
    by_cases hj : v = j
    · subst hj
      rw [List.getElem?_set_self']
      rw [if_pos List.mem_cons_self]
      have hl := wipe_length σ vs
      by_cases hs : v < σ.length
      · rw [if_pos hs, List.getElem?_eq_getElem (by omega)]; rfl
      · rw [if_neg hs, List.getElem?_eq_none (by omega)]; rfl
    · rw [List.getElem?_set_ne hj, ih]
      by_cases hm : j ∈ vs
      · rw [if_pos hm, if_pos (List.mem_cons_of_mem _ hm)]
      · rw [if_neg hm, if_neg (by simp only [List.mem_cons, not_or]; exact ⟨fun e => hj e.symm, hm⟩)]
theorem wipe_set {σ : L2.St} {i : Nat} {x : Option V} {vs : List Nat} (h : i ∈ vs) : wipe (σ.set i x) vs = wipe σ vs := by
  apply List.ext_getElem?
  intro j
  rw [wipe_get, wipe_get, List.length_set]
  by_cases hm : j ∈ vs
  · rw [if_pos hm, if_pos hm]
  · rw [if_neg hm, if_neg hm, List.getElem?_set_ne (fun e => hm (by rw [← e]; exact h))]
section
variable {K : PySem.W.Frag} {T : List (Addr × Str)} {H0 G H G' H' : Hp} {ρ ρ' : Env} {σ : L2.St} {W : XK}
theorem Ste.set (S : Ste K T H0 ρ σ G H) {i : Nat} {v : V} {d : D} (h : Dr K G v d) : Ste K T H0 (ρ.set i (some (.val d))) (σ.set i (some v)) G H where
  sub := S.sub
  nt := S.nt
  tb := S.tb
  len := by rw [List.length_set, List.length_set]; exact S.len
  val := fun j e hj => by
    by_cases q : i = j
    · subst q
      by_cases hl : i < ρ.length
      · rw [List.getElem?_set_self hl] at hj
        cases hj
        exact ⟨v, List.getElem?_set_self (by rw [← S.len]; exact hl), h⟩
      · rw [List.getElem?_eq_none (by rw [List.length_set]; omega)] at hj; cases hj
    · rw [List.getElem?_set_ne q] at hj ⊢
      exact S.val j e hj
  own := fun j e hj => by
    by_cases q : i = j
    · subst q
      by_cases hl : i < ρ.length
      · rw [List.getElem?_set_self hl] at hj; cases hj
      · rw [List.getElem?_eq_none (by rw [List.length_set]; omega)] at hj; cases hj
    · rw [List.getElem?_set_ne q] at hj ⊢
      exact S.own j e hj
  dis := fun j k d' e hj hk hq => by
    have n : ∀ {m : Nat} {x : D}, (ρ.set i (some (.val d)))[m]? = some (some (.own x)) → i ≠ m := fun {m x} hm z => by
      subst z
      by_cases hl : i < ρ.length
      · rw [List.getElem?_set_self hl] at hm; cases hm
      · rw [List.getElem?_eq_none (by rw [List.length_set]; omega)] at hm; cases hm
    have h1 := n hj
    have h2 := n hk
    rw [List.getElem?_set_ne h1] at hj hq
    rw [List.getElem?_set_ne h2] at hk hq
    exact S.dis j k d' e hj hk hq
theorem wipeE_get (ρ : Env) : ∀ (vs : List Nat) (j : Nat), (wipeE ρ vs)[j]? = if j ∈ vs then (if j < ρ.length then some none else none) else ρ[j]?
  | [], j => by simp [wipeE]
  | v :: vs, j => by
    have ih := wipeE_get ρ vs j
    have hl : ∀ vs, (wipeE ρ vs).length = ρ.length := fun vs => by
      induction vs with
      | nil => rfl
      | cons a r ih => unfold wipeE; rw [List.length_set, ih]
    unfold wipeE
    by_cases hj : v = j
    · subst hj
      rw [List.getElem?_set_self']
      rw [if_pos List.mem_cons_self]
      have hl := hl vs
      by_cases hs : v < ρ.length
      · rw [if_pos hs, List.getElem?_eq_getElem (by omega)]; rfl
      · rw [if_neg hs, List.getElem?_eq_none (by omega)]; rfl
    · rw [List.getElem?_set_ne hj, ih]
      by_cases hm : j ∈ vs
      · rw [if_pos hm, if_pos (List.mem_cons_of_mem _ hm)]
      · rw [if_neg hm, if_neg (by simp only [List.mem_cons, not_or]; exact ⟨fun e => hj e.symm, hm⟩)]
theorem wipeE_len (ρ : Env) : ∀ vs, (wipeE ρ vs).length = ρ.length := fun vs => by
  induction vs with
  | nil => rfl
  | cons a r ih => unfold wipeE; rw [List.length_set, ih]
theorem Ste.wipe (S : Ste K T H0 ρ σ G H) (vs : List Nat) : Ste K T H0 (wipeE ρ vs) (L2.wipe σ vs) G H := by
  have key : ∀ {j : Nat} {s : Sl}, (wipeE ρ vs)[j]? = some (some s) → ρ[j]? = some (some s) ∧ (L2.wipe σ vs)[j]? = σ[j]? := fun {j s} h => by
    rw [wipeE_get] at h
    by_cases hm : j ∈ vs
    · rw [if_pos hm] at h
      split at h <;> cases h
    · rw [if_neg hm] at h
      rw [wipe_get, if_neg hm]
      exact ⟨h, Eq.refl _⟩
  refine ⟨S.sub, S.tb, by rw [wipeE_len, wipe_length]; exact S.len, fun j d h => ?_, fun j d h => ?_, fun j k d e hj hk hq => ?_, S.nt⟩
  · obtain ⟨h1, h2⟩ := key h
    rw [h2]; exact S.val j d h1
  · obtain ⟨h1, h2⟩ := key h
    rw [h2]; exact S.own j d h1
  · obtain ⟨h1, h2⟩ := key hj
    obtain ⟨h3, h4⟩ := key hk
    rw [h2, h4] at hq
    exact S.dis j k d e h1 h3 hq
theorem pat_read : ∀ (p : Pat) {ρ ρ' : Env} {σ : L2.St} {d : D} {v : V} {Q : L2.St → Hp → Prop}, Ste K T H0 ρ σ G H → Dr K G v d → bindP p d ρ = .ok ρ' →
    (∀ σ', Ste K T H0 ρ' σ' G H → (∀ vs, (∀ i ∈ pslots p, i ∈ vs) → L2.wipe σ' vs = L2.wipe σ vs) → Q σ' H) → gOf K p v σ H Q
  | .nm i, ρ, ρ', σ, d, v, Q, S, hd, hb, h => by
    have hb : (R.ok (ρ.set i (some (.val d))) : R Env) = .ok ρ' := hb
    cases hb
    exact h _ (S.set hd) fun vs hv => wipe_set (hv i (by simp [pslots]))
  | .p2 a b, ρ, ρ', σ, d, v, Q, S, hd, hb, h => by
    have hb : (match d with
      | .tuple [x, y] => (bindP a x ρ).bind fun ρ1 => bindP b y ρ1
      | _ => (.err : R Env)) = .ok ρ' := hb
    split at hb
    · rename_i d1 d2 _
      obtain ⟨t, xs, rfl, h1, h2⟩ := tup_inv hd
      obtain ⟨x, y, rfl, hx, hy⟩ := dra2 h2
      refine ⟨t, [x, y], Eq.refl _, SqT.of (S.sub _ _ h1), Eq.refl _, ⟨x, [y], Eq.refl _, ?_⟩⟩
      cases e1 : bindP a d1 ρ with
      | ok ρ1 =>
        rw [e1] at hb
        refine pat_read a S hx e1 fun σ1 S1 w1 => ⟨y, [], Eq.refl _, ?_⟩
        refine pat_read b S1 hy hb fun σ2 S2 w2 => ⟨Eq.refl _, h σ2 S2 fun vs hv => ?_⟩
        rw [w2 vs fun i hi => hv i (by simp [pslots, hi]), w1 vs fun i hi => hv i (by simp [pslots, hi])]
      | exc c => rw [e1] at hb; cases hb
      | err => rw [e1] at hb; cases hb
    · cases hb
end
/-! ### what is walked -/
/-- the iterator J gives the trees ds, while the part G stands -/
def Yl (K : PySem.W.Frag) (T : List (Addr × Str)) (J : It) (ds : List D) (G : Hp) : Prop := ∀ i Gi Hi, Sub G Gi → Sub Gi Hi → Tabs T Hi →
  (∀ d, ds[i]? = some d → J.go i Hi ∧ ∀ x H2, J.yld i Hi x H2 → ∃ G2, Stp T Gi Hi G2 H2 ∧ Dr K G2 x d) ∧ (ds.length ≤ i → J.stop i Hi)
def WpI (K : PySem.W.Frag) (T : List (Addr × Str)) (W : XK) (r : R (List D)) (G H : Hp) (Q : It → Hp → Prop) : Prop := match r with
  | .ok ds => ∀ G' H' J, Stp T G H G' H' → Yl K T J ds G' → Q J H'
  | .exc c => ∀ G' H', Stp T G H G' H' → W (.ref (He.ga K (c : Str))) none H'
  | .err => False
def TIv (c : Cn) (k : Ik) (e : E) : TI := fun σ H Q => ∃ ρ G, Ste c.K c.T c.H0 ρ σ G H ∧ WpI c.K c.T c.W ((evE c.Φ e ρ).bind (itD k)) G H Q
theorem PI.imp {X : Cx} {tg x : Expr} {t t' : TI} (h : PI X tg x t) (f : ∀ σ H Q, t' σ H Q → t σ H Q) : PI X tg x t' := ⟨fun pins s σ H R I q => h.run pins s σ H R I (f _ _ _ q)⟩
theorem PI.or {X : Cx} {tg x : Expr} {t t' : TI} (h : PI X tg x t) (h' : PI X tg x t') : PI X tg x (fun σ H Q => t σ H Q ∨ t' σ H Q) := ⟨fun pins s σ H R I q => by
  rcases q with q | q
  · exact h.run pins s σ H R I q
  · exact h'.run pins s σ H R I q⟩
theorem yl_list {K : PySem.W.Frag} {T : List (Addr × Str)} {G : Hp} {a : Addr} {xs : List V} {ds : List D} (h : G a = some (.lst xs)) (da : DrA K G xs ds) : Yl K T (Itl K a) ds G := fun i Gi Hi s1 s2 tb => by
  have hs : SqL K Hi a xs := SqL.of (s2 _ _ (s1 _ _ h))
  refine ⟨fun d hd => ?_, fun hl => ⟨xs, hs, by rw [da.length]; exact hl⟩⟩
  obtain ⟨v, h1, h2⟩ := da.get i hd
  refine ⟨⟨xs, v, hs, h1⟩, fun x H2 hy => ?_⟩
  obtain ⟨rfl, hy⟩ := hy
  have e := hy xs hs
  rw [h1] at e; cases e
  exact ⟨Gi, .refl s2 tb, h2.sub s1⟩
theorem yl_tup {K : PySem.W.Frag} {T : List (Addr × Str)} {G : Hp} {a : Addr} {xs : List V} {ds : List D} (h : G a = some (.tup xs)) (da : DrA K G xs ds) : Yl K T (Itt K a) ds G := fun i Gi Hi s1 s2 tb => by
  have hs : SqT K Hi a xs := SqT.of (s2 _ _ (s1 _ _ h))
  refine ⟨fun d hd => ?_, fun hl => ⟨xs, hs, by rw [da.length]; exact hl⟩⟩
  obtain ⟨v, h1, h2⟩ := da.get i hd
  refine ⟨⟨xs, v, hs, h1⟩, fun x H2 hy => ?_⟩
  obtain ⟨rfl, hy⟩ := hy
  have e := hy xs hs
  rw [h1] at e; cases e
  exact ⟨Gi, .refl s2 tb, h2.sub s1⟩
theorem yl_rng {K : PySem.W.Frag} {T : List (Addr × Str)} {G : Hp} {lo : Int} {n : Nat} : Yl K T (Itr lo n) ((List.range n).map fun (i : Nat) => PyData.int (lo + (i : Int))) G := fun i Gi Hi s1 s2 tb => by
  refine ⟨fun d hd => ?_, fun hl => by rw [List.length_map, List.length_range] at hl; exact hl⟩
  rw [List.getElem?_map] at hd
  obtain ⟨m, h1, h2⟩ := Option.map_eq_some_iff.mp hd
  have hi : i < n := by
    have := (List.getElem?_eq_some_iff.mp h1).1
    simpa using this
  have em : m = i := by
    rw [List.getElem?_range hi] at h1
    exact (Option.some.inj h1).symm
  subst em
  refine ⟨hi, fun x H2 hy => ?_⟩
  obtain ⟨rfl, rfl⟩ := hy
  exact ⟨Gi, .refl s2 tb, by rw [← h2]; exact .int _⟩
theorem yl_zip {K : PySem.W.Frag} {T : List (Addr × Str)} {G : Hp} {a b : Addr} {xs ys : List V} {ds es : List D} (h : G a = some (.lst xs)) (da : DrA K G xs ds) (h' : G b = some (.lst ys)) (db : DrA K G ys es) :
    Yl K T (Itz K a b) (List.zipWith (fun x y => PyData.tuple [x, y]) ds es) G := fun i Gi Hi s1 s2 tb => by
  have hs : SqL K Hi a xs := SqL.of (s2 _ _ (s1 _ _ h))
  have hs' : SqL K Hi b ys := SqL.of (s2 _ _ (s1 _ _ h'))
  refine ⟨fun d hd => ?_, fun hl => ⟨xs, ys, hs, hs', by rw [List.length_zipWith] at hl; rw [da.length, db.length]; omega⟩⟩
  rw [List.getElem?_zipWith] at hd
  cases e1 : ds[i]? with
  | none => rw [e1] at hd; cases hd
  | some d1 =>
    cases e2 : es[i]? with
    | none => rw [e1, e2] at hd; cases hd
    | some d2 =>
      rw [e1, e2] at hd
      cases hd
      obtain ⟨v, h1, h2⟩ := da.get i e1
      obtain ⟨w, h3, h4⟩ := db.get i e2
      refine ⟨⟨xs, ys, v, w, hs, hs', h1, h3⟩, fun x H2 hy => ?_⟩
      obtain ⟨t, x', y', rfl, nt, rfl, q1, q2⟩ := hy
      have e := q1 xs hs
      rw [h1] at e; cases e
      have e := q2 ys hs'
      rw [h3] at e; cases e
      have nG : Gi t = none := none_sub s2 nt
      exact ⟨_, .new s2 tb nt _, .tup upd_same (.cons ((h2.sub s1).sub (sub_new nG)) (.cons ((h4.sub s1).sub (sub_new nG)) .nil))⟩
theorem yl_enum {K : PySem.W.Frag} {T : List (Addr × Str)} {G : Hp} {a : Addr} {xs : List V} {ds : List D} (h : G a = some (.lst xs)) (da : DrA K G xs ds) :
    Yl K T (Ite K a) (ds.mapIdx fun (i : Nat) x => PyData.tuple [.int (i : Int), x]) G := fun i Gi Hi s1 s2 tb => by
  have hs : SqL K Hi a xs := SqL.of (s2 _ _ (s1 _ _ h))
  refine ⟨fun d hd => ?_, fun hl => ⟨xs, hs, by rw [List.length_mapIdx] at hl; rw [da.length]; exact hl⟩⟩
  rw [List.getElem?_mapIdx] at hd
  obtain ⟨d1, e1, rfl⟩ := Option.map_eq_some_iff.mp hd
  obtain ⟨v, h1, h2⟩ := da.get i e1
  refine ⟨⟨xs, v, hs, h1⟩, fun x H2 hy => ?_⟩
  obtain ⟨t, x', rfl, nt, rfl, q1⟩ := hy
  have e := q1 xs hs
  rw [h1] at e; cases e
  have nG : Gi t = none := none_sub s2 nt
  exact ⟨_, .new s2 tb nt _, .tup upd_same (.cons (.int _) (.cons ((h2.sub s1).sub (sub_new nG)) .nil))⟩
section
variable {X : Cx} {c : Cn} {tg a b : Expr} {ea eb : E} {pos p : Pos} {es : List Expr} {eas : E}
theorem itD_noexc {k : Ik} {d : D} {x : String} (h : itD k d = .exc x) : False := by
  unfold itD at h
  split at h <;> first | (cases h; done) | (split at h <;> cases h)
theorem WpI.of {K : PySem.W.Frag} {T : List (Addr × Str)} {W : XK} {G H : Hp} {Q : It → Hp → Prop} {r : R D} {k : Ik} (h : WpI K T W (r.bind (itD k)) G H Q) :
    Wp K T W r G H fun v H1 => ∃ G1 d, r = .ok d ∧ Stp T G H G1 H1 ∧ Dr K G1 v d ∧ WpI K T W (itD k d) G1 H1 Q := by
  cases r with
  | ok d =>
    refine fun G1 H1 v st dr => ⟨G1, d, rfl, st, dr, ?_⟩
    have h : WpI K T W (itD k d) G H Q := h
    cases e : itD k d with
    | ok ds => rw [e] at h; exact fun G2 H2 J s2 y => h G2 H2 J (st.trans s2) y
    | exc x => exact (itD_noexc e).elim
    | err => rw [e] at h; exact h
  | exc c => exact h
  | err => exact h
theorem WpI.ofA {K : PySem.W.Frag} {T : List (Addr × Str)} {W : XK} {G H : Hp} {Q : It → Hp → Prop} {r : R D} {k : Ik} (h : WpI K T W (r.bind (itD k)) G H Q) (hk : ∀ d ds, itD k d = .ok ds → ∃ l, d = .list l) :
    WpA K T W r G H fun vs H1 => ∃ G1 l, r = .ok (.list l) ∧ Stp T G H G1 H1 ∧ DrA K G1 vs l ∧ WpI K T W (itD k (.list l)) G1 H1 Q := by
  cases r with
  | ok d =>
    have h : WpI K T W (itD k d) G H Q := h
    cases e : itD k d with
    | ok ds =>
      obtain ⟨l, rfl⟩ := hk d ds e
      rw [e] at h
      exact fun G1 H1 vs st da => ⟨G1, l, rfl, st, da, by rw [e]; exact fun G2 H2 J s2 y => h G2 H2 J (st.trans s2) y⟩
    | exc x => exact (itD_noexc e).elim
    | err => rw [e] at h; exact h.elim
  | exc c => exact h
  | err => exact h
theorem si_lst (hK : X.K = c.K) (ha : PE X a (TEv c ea)) : PI X tg a (TIv c .lst ea) := by
  refine PI.imp (PI.or (pi_list ha) (pi_tup ha)) fun σ H Q ⟨ρ, G, S, h⟩ => ?_
  rw [hK]
  cases e : evE c.Φ ea ρ with
  | ok d =>
    have q := WpI.of h
    rw [e] at q
    cases d with
    | list l =>
      refine .inl ⟨ρ, G, S, ?_⟩
      rw [e]
      intro G1 H1 v st dr
      obtain ⟨G2, d2, e2, st2, dr2, h2⟩ := q G1 H1 v st dr
      cases e2
      obtain ⟨a, xs, rfl, h3, h4⟩ := lst_inv dr2
      exact ⟨a, rfl, ⟨xs, SqL.of (st2.sub _ _ h3)⟩, h2 _ _ _ (.refl st2.sub st2.tb) (yl_list h3 h4)⟩
    | tuple l =>
      refine .inr ⟨ρ, G, S, ?_⟩
      rw [e]
      intro G1 H1 v st dr
      obtain ⟨G2, d2, e2, st2, dr2, h2⟩ := q G1 H1 v st dr
      cases e2
      obtain ⟨a, xs, rfl, h3, h4⟩ := tup_inv dr2
      exact ⟨a, rfl, ⟨xs, SqT.of (st2.sub _ _ h3)⟩, h2 _ _ _ (.refl st2.sub st2.tb) (yl_tup h3 h4)⟩
    | _ => rw [e] at h; exact (show False from h).elim
  | exc x => exact .inl ⟨ρ, G, S, by rw [e] at h ⊢; exact h⟩
  | err => rw [e] at h; exact (show False from h).elim
theorem si_rng1 (hg : Gl X "range") (hm : X.mg "range" = none) (ha : PA X [a] (TAv c eas)) (hs : starEach [a] X.env = [(false, eval a X.env)]) : PI X tg (.Call (.Name "range" p) [a] [] pos) (TIv c .rng1 eas) := by
  refine PI.imp (pi_range1 hg hm ha hs) fun σ H Q ⟨ρ, G, S, h⟩ => ⟨ρ, G, S, WpA.mono (WpI.ofA h fun d ds e => ?_) fun vs H1 ⟨G1, l, e1, st, da, h⟩ => ?_⟩
  · unfold itD at e
    split at e <;> first | contradiction | (exact ⟨_, rfl⟩) | (cases e)
  · unfold itD at h
    split at h <;> try (exact (show False from h).elim)
    all_goals try contradiction
    rename_i n e2
    cases e2
    obtain ⟨v, rfl, h1⟩ := dra1 da
    cases h1
    split at h
    · rename_i z
      exact ⟨_, rfl, by omega, by omega, h _ _ _ (.refl st.sub st.tb) yl_rng⟩
    · exact (show False from h).elim
theorem si_rng2 (hg : Gl X "range") (hm : X.mg "range" = none) (ha : PA X [a, b] (TAv c eas)) (hs : starEach [a, b] X.env = [(false, eval a X.env), (false, eval b X.env)]) (hs2 : starEach [b] X.env = [(false, eval b X.env)]) : PI X tg (.Call (.Name "range" p) [a, b] [] pos) (TIv c .rng2 eas) := by
  refine PI.imp (pi_range2 hg hm ha hs hs2) fun σ H Q ⟨ρ, G, S, h⟩ => ⟨ρ, G, S, WpA.mono (WpI.ofA h fun d ds e => ?_) fun vs H1 ⟨G1, l, e1, st, da, h⟩ => ?_⟩
  · unfold itD at e
    split at e <;> first | contradiction | (exact ⟨_, rfl⟩) | (cases e)
  · unfold itD at h
    split at h <;> try (exact (show False from h).elim)
    all_goals try contradiction
    rename_i n m e2
    cases e2
    obtain ⟨v, w, rfl, h1, h2⟩ := dra2 da
    cases h1; cases h2
    split at h
    · rename_i z
      exact ⟨_, _, rfl, ⟨by omega, by omega, by omega, by omega⟩, h _ _ _ (.refl st.sub st.tb) yl_rng⟩
    · exact (show False from h).elim
theorem si_zip {elts : List Expr} {kk : Nat} {tpos : Pos} (hK : X.K = c.K) (hg : Gl X "zip") (hm : X.mg "zip" = none) (ha : PA X [a, b] (TAv c eas)) (hs : starEach [a, b] X.env = (false, eval a X.env) :: starEach [b] X.env) (hpl : (backTo pos (starEach [b] X.env)).any (·.1) = false) : PI X (.Tuple elts kk tpos) (.Call (.Name "zip" p) [a, b] [] pos) (TIv c .zip eas) := by
  refine PI.imp (pi_zip hg hm ha hs hpl) fun σ H Q ⟨ρ, G, S, h⟩ => ⟨ρ, G, S, WpA.mono (WpI.ofA h fun d ds e => ?_) fun vs H1 ⟨G1, l, e1, st, da, h⟩ => ?_⟩
  · unfold itD at e
    split at e <;> first | contradiction | (exact ⟨_, rfl⟩) | (cases e)
  · unfold itD at h
    split at h <;> try (exact (show False from h).elim)
    all_goals try contradiction
    rename_i e2
    cases e2
    obtain ⟨v, w, rfl, h1, h2⟩ := dra2 da
    obtain ⟨a, xs, rfl, h3, h4⟩ := lst_inv h1
    obtain ⟨b, ys, rfl, h5, h6⟩ := lst_inv h2
    rw [hK]
    exact ⟨a, b, xs, ys, rfl, SqL.of (st.sub _ _ h3), SqL.of (st.sub _ _ h5), h _ _ _ (.refl st.sub st.tb) (yl_zip h3 h4 h5 h6)⟩
theorem si_enum {elts : List Expr} {kk : Nat} {tpos : Pos} (hK : X.K = c.K) (hg : Gl X "enumerate") (hm : X.mg "enumerate" = none) (ha : PA X [a] (TAv c eas)) (hs : starEach [a] X.env = [(false, eval a X.env)]) : PI X (.Tuple elts kk tpos) (.Call (.Name "enumerate" p) [a] [] pos) (TIv c .enum eas) := by
  refine PI.imp (pi_enum hg hm ha hs) fun σ H Q ⟨ρ, G, S, h⟩ => ⟨ρ, G, S, WpA.mono (WpI.ofA h fun d ds e => ?_) fun vs H1 ⟨G1, l, e1, st, da, h⟩ => ?_⟩
  · unfold itD at e
    split at e <;> first | contradiction | (exact ⟨_, rfl⟩) | (cases e)
  · unfold itD at h
    split at h <;> try (exact (show False from h).elim)
    all_goals try contradiction
    rename_i e2
    cases e2
    obtain ⟨v, rfl, h1⟩ := dra1 da
    obtain ⟨a, xs, rfl, h3, h4⟩ := lst_inv h1
    rw [hK]
    exact ⟨a, xs, rfl, SqL.of (st.sub _ _ h3), h _ _ _ (.refl st.sub st.tb) (yl_enum h3 h4)⟩
end
end Nz

set_option maxHeartbeats 2000000
/-! NzLc: list comprehensions. -/
namespace Nz
open PySem PySem.Spec PyProof.Rows L2 LamX
/-- what is no table and no code object -/
def Tame (o : Option HO) : Prop := o = none ∨ (∃ xs, o = some (.lst xs)) ∨ ∃ kvs, o = some (.dK kvs)
theorem Tabs.write {T : List (Addr × Str)} {H : Hp} (t : Tabs T H) {D : Addr} (n : Tame (H D)) (o : HO) : Tabs T (upd H D o) := fun p hp => by
  obtain ⟨ps, h1, h2, h3⟩ := t p hp
  have ne : ∀ {b : Addr} {u : HO}, H b = some u → (∀ xs, u ≠ .lst xs) → (∀ k, u ≠ .dK k) → b ≠ D := fun {b u} e q1 q2 z => by
    subst z
    rcases n with n | ⟨xs, n⟩ | ⟨k, n⟩
    · rw [e] at n; cases n
    · rw [e] at n; cases n; exact q1 _ rfl
    · rw [e] at n; cases n; exact q2 _ rfl
  refine ⟨ps, by rw [upd_ne (ne h1 (fun _ z => by cases z) (fun _ z => by cases z))]; exact h1, h2, fun pos cv hc => ?_⟩
  obtain ⟨c, e1, e2⟩ := h3 pos cv hc
  exact ⟨c, e1, by rw [upd_ne (ne e2 (fun _ z => by unfold CodeO at z; cases z) (fun _ z => by unfold CodeO at z; cases z))]; exact e2⟩
theorem NT.of {H : Hp} {a : Addr} (h : H a = none) : NT H a := fun o e => by rw [h] at e; cases e
/-- what is new later was new ahead -/
theorem Stp.nt {T : List (Addr × Str)} {G H G' H' : Hp} (st : Stp T G H G' H') {a : Addr} (h : NT H' a) : NT H a := fun o e => by
  cases o with
  | tbl ps => exact ⟨ps, rfl⟩
  | _ => exact h _ (st.hh _ _ e (fun _ z => by cases z))
section
variable {T : List (Addr × Str)} {K : PySem.W.Frag} {G H G' H' : Hp} {H0 : Hp} {ρ : Env} {σ : L2.St}
/-- a write beside the part, to what is new since H -/
theorem Stp.side (st : Stp T G H G' H') {D : Addr} (n : NT H D) (nG : G' D = none) (n' : Tame (H' D)) (o : HO) : Stp T G H G' (upd H' D o) where
  sub := fun b u e => by rw [upd_ne (ne_of_none e nG)]; exact st.sub _ _ e
  gg := st.gg
  hh := fun b u e q => by
    have hb : b ≠ D := fun z => by
      subst z
      obtain ⟨ps, z⟩ := n u e
      exact q ps z
    rw [upd_ne hb]; exact st.hh b u e q
  nn := st.nn
  tb := Tabs.write st.tb n' o
  ntt := st.ntt
/-- what was beside the part is taken into it -/
theorem Stp.take (st : Stp T G H G' H') {D : Addr} (n : NT H D) (nG : G' D = none) {o : HO} (h : H' D = some o) (ho : ∀ ps, o ≠ HO.tbl ps := by intro _ z; cases z) : Stp T G H (upd G' D o) H' where
  ntt := fun hg b ps e => by
    by_cases hb : b = D
    · subst hb; rw [upd_same] at e; exact ho ps (Option.some.inj e)
    · rw [upd_ne hb] at e; exact st.ntt hg b ps e
  sub := fun b u e => by
    by_cases hb : b = D
    · subst hb; rw [upd_same] at e; cases e; exact h
    · rw [upd_ne hb] at e; exact st.sub _ _ e
  gg := fun b u e => sub_new nG b u (st.gg b u e)
  hh := st.hh
  nn := fun b u h1 h2 q => by
    have hb : b ≠ D := fun z => by
      subst z
      obtain ⟨ps, z⟩ := n u h2
      exact q ps z
    rw [upd_ne hb]; exact st.nn b u h1 h2 q
  tb := st.tb
end
theorem R.bind_bind {α β γ : Type} (r : R α) (f : α → R β) (g : β → R γ) : (r.bind fun a => (f a).bind g) = (r.bind f).bind g := by
  cases r <;> rfl
section
variable {X : Cx} {c : Cn}
def Cn.shut (c : Cn) : Cn := { c with W := fun _ _ _ => False }
theorem st_nil : PTs X [] (TTv c (.con (.bool true))) := ⟨fun pins s σ H Q I ⟨ρ, G, S, h⟩ => pts_nil.run pins s σ H Q I ((show WpB c.K c.T c.W (.ok (.bool true)) G H Q from h) G H S.rfl)⟩
theorem st_one {t : Expr} {e : E} (h : PT X t (TTv c e)) : PTs X [t] (TTv c e) := pts_one h
/-- a turn of the comprehension's list -/
theorem compL_cons {b : D → R Env} {t e : Env → R D} {x : D} {xs l : List D} (h : compL b t e (x :: xs) = .ok l) :
    ∃ ρ1, b x = .ok ρ1 ∧ ((t ρ1 = .ok (.bool true) ∧ ∃ y ys, e ρ1 = .ok y ∧ compL b t e xs = .ok ys ∧ l = y :: ys) ∨ (t ρ1 = .ok (.bool false) ∧ compL b t e xs = .ok l)) := by
  unfold compL at h
  cases e1 : b x with
  | ok ρ1 =>
    rw [e1] at h
    refine ⟨ρ1, rfl, ?_⟩
    have h : ((t ρ1).bind fun c => match c with
      | .bool true => (e ρ1).bind fun y => (compL b t e xs).bind fun ys => .ok (y :: ys)
      | .bool false => compL b t e xs
      | _ => .err) = .ok l := h
    cases e2 : t ρ1 with
    | ok v =>
      rw [e2] at h
      cases v with
      | bool k =>
        cases k with
        | true =>
          have h : ((e ρ1).bind fun y => (compL b t e xs).bind fun ys => (R.ok (y :: ys) : R (List D))) = .ok l := h
          cases e3 : e ρ1 with
          | ok y =>
            rw [e3] at h
            cases e4 : compL b t e xs with
            | ok ys => rw [e4] at h; cases h; exact .inl ⟨rfl, y, ys, rfl, rfl, rfl⟩
            | exc c => rw [e4] at h; cases h
            | err => rw [e4] at h; cases h
          | exc c => rw [e3] at h; cases h
          | err => rw [e3] at h; cases h
        | false => exact .inr ⟨rfl, h⟩
      | _ => cases h
    | exc c => rw [e2] at h; cases h
    | err => rw [e2] at h; cases h
  | exc c => rw [e1] at h; cases h
  | err => rw [e1] at h; cases h
theorem wipe_wipe (σ : L2.St) (vs : List Nat) : wipe (wipe σ vs) vs = wipe σ vs := by
  apply List.ext_getElem?
  intro j
  rw [wipe_get, wipe_length, wipe_get]
  by_cases hm : j ∈ vs
  · rw [if_pos hm, if_pos hm]
  · rw [if_neg hm]
theorem comp_read {own : List Nat} {pat : Pat} {k : Ik} {es et ee : E} (hp : ∀ i ∈ pslots pat, i ∈ own) {σ : L2.St} {H : Hp} {Q : VK} (h : TEv c (.comp own pat k es et ee) σ H Q) :
    tLc (TIv c k es) (gOf c.K pat) (TTv c.shut et) (TEv c.shut ee) own σ H Q := by
  obtain ⟨ρ, G, S, h⟩ := h
  refine ⟨ρ, G, S, ?_⟩
  have h : Wp c.K c.T c.W ((evE c.Φ es ρ).bind fun s => (itD k s).bind fun items =>
      (shut (compL (fun x => bindP pat x (wipeE ρ own)) (fun ρ1 => evE c.Φ et ρ1) (fun ρ1 => evE c.Φ ee ρ1) items)).bind fun l => if l.length ≤ LINE then .ok (.list l) else .err) G H Q := h
  rw [R.bind_bind] at h
  cases er : (evE c.Φ es ρ).bind (itD k) with
  | err => rw [er] at h; exact h.elim
  | exc x => rw [er] at h; exact h
  | ok items =>
    rw [er] at h
    intro G1 H1 J st yl Dl hD
    have h : Wp c.K c.T c.W ((shut (compL (fun x => bindP pat x (wipeE ρ own)) (fun ρ1 => evE c.Φ et ρ1) (fun ρ1 => evE c.Φ ee ρ1) items)).bind fun l => if l.length ≤ LINE then .ok (.list l) else .err) G H Q := h
    cases ec : compL (fun x => bindP pat x (wipeE ρ own)) (fun ρ1 => evE c.Φ et ρ1) (fun ρ1 => evE c.Φ ee ρ1) items with
    | err => rw [ec] at h; exact h.elim
    | exc x => rw [ec] at h; exact (show False from h).elim
    | ok l =>
      rw [ec] at h
      have h : Wp c.K c.T c.W (if l.length ≤ LINE then .ok (.list l) else .err) G H Q := h
      by_cases hl : l.length ≤ LINE
      · rw [if_pos hl] at h
        have nG1 : G1 Dl = none := none_sub st.sub hD
        refine ⟨fun i m Hh => m = items.length - i ∧ i ≤ items.length ∧ ∃ Gi acc l1 l2, Hh Dl = some (.lst acc) ∧ Gi Dl = none ∧ DrA c.K Gi acc l1 ∧ Stp c.T G1 H1 Gi Hh ∧
          compL (fun x => bindP pat x (wipeE ρ own)) (fun ρ1 => evE c.Φ et ρ1) (fun ρ1 => evE c.Φ ee ρ1) (items.drop i) = .ok l2 ∧ l = l1 ++ l2,
          ⟨items.length, by simp, Nat.zero_le _, G1, [], [], l, upd_same, nG1, .nil, (Stp.refl st.sub st.tb).side (.of hD) nG1 (.inl hD) _, by rw [List.drop_zero]; exact ec, rfl⟩, ?_⟩
        rintro i m Hh ⟨rfl, hi, Gi, acc, l1, l2, hacc, nGi, da, sti, ei, el⟩
        obtain ⟨y1, y2⟩ := yl i Gi Hh (fun b o e => sti.gg b o e) sti.sub sti.tb
        by_cases hlt : i < items.length
        · obtain ⟨go, yd⟩ := y1 items[i] (by simp [hlt])
          have dropE : items.drop i = items[i] :: items.drop (i + 1) := by rw [List.drop_eq_getElem_cons hlt]
          rw [dropE] at ei
          obtain ⟨ρ1, eb, ht⟩ := compL_cons ei
          have nx : ∀ (G4 H4 : Hp) (acc' : List V) (l1' l2' : List D), H4 Dl = some (.lst acc') → G4 Dl = none → DrA c.K G4 acc' l1' → Stp c.T G1 H1 G4 H4 → compL (fun x => bindP pat x (wipeE ρ own)) (fun ρ1 => evE c.Φ et ρ1) (fun ρ1 => evE c.Φ ee ρ1) (items.drop (i + 1)) = .ok l2' → l = l1' ++ l2' →
              ∃ m', m' < items.length - i ∧ m' = items.length - (i + 1) ∧ i + 1 ≤ items.length ∧ ∃ Gi acc l1 l2, H4 Dl = some (.lst acc) ∧ Gi Dl = none ∧ DrA c.K Gi acc l1 ∧ Stp c.T G1 H1 Gi H4 ∧
                compL (fun x => bindP pat x (wipeE ρ own)) (fun ρ1 => evE c.Φ et ρ1) (fun ρ1 => evE c.Φ ee ρ1) (items.drop (i + 1)) = .ok l2 ∧ l = l1 ++ l2 :=
            fun G4 H4 acc' l1' l2' q1 q2 q3 q4 q5 q6 => ⟨items.length - (i + 1), by omega, rfl, hlt, G4, acc', l1', l2', q1, q2, q3, q4, q5, q6⟩
          refine .inr ⟨go, fun H4 => ∃ m', m' < items.length - i ∧ m' = items.length - (i + 1) ∧ i + 1 ≤ items.length ∧ ∃ Gi acc l1 l2, H4 Dl = some (.lst acc) ∧ Gi Dl = none ∧ DrA c.K Gi acc l1 ∧ Stp c.T G1 H1 Gi H4 ∧
                compL (fun x => bindP pat x (wipeE ρ own)) (fun ρ1 => evE c.Φ et ρ1) (fun ρ1 => evE c.Φ ee ρ1) (items.drop (i + 1)) = .ok l2 ∧ l = l1 ++ l2, fun H4 q => q, fun x H2 hy => ?_⟩
          obtain ⟨G2, st2, dr2⟩ := yd x H2 hy
          have S2 : Ste c.K c.T c.H0 (wipeE ρ own) (wipe σ own) G2 H2 := (((S.stp st).stp sti).stp st2).wipe own
          refine pat_read pat S2 dr2 eb fun σ2 S3 hw => ⟨(hw own hp).trans (wipe_wipe σ own), ρ1, G2, S3, ?_⟩
          have h2 : H2 Dl = some (.lst acc) := st2.hh _ _ hacc (fun _ z => by cases z)
          have nG2 : G2 Dl = none := st2.nn _ _ nGi hacc (fun _ z => by cases z)
          rcases ht with ⟨e1, y, ys, e2, e3, e4⟩ | ⟨e1, e3⟩
          · show WpB c.K c.T _ (evE c.Φ et ρ1) G2 H2 _
            rw [e1]
            intro G3 H3 st3
            rw [if_pos rfl]
            refine ⟨ρ1, G3, S3.stp st3, ?_⟩
            show Wp c.K c.T _ (evE c.Φ ee ρ1) G3 H3 _
            rw [e2]
            intro G4 H4 v st4 dr4
            have h3 : H3 Dl = some (.lst acc) := st3.hh _ _ h2 (fun _ z => by cases z)
            have nG3 : G3 Dl = none := st3.nn _ _ nG2 h2 (fun _ z => by cases z)
            have h4 : H4 Dl = some (.lst acc) := st4.hh _ _ h3 (fun _ z => by cases z)
            have nG4 : G4 Dl = none := st4.nn _ _ nG3 h3 (fun _ z => by cases z)
            have s4 : Stp c.T G1 H1 G4 H4 := ((sti.trans st2).trans st3).trans st4
            have s24 : Sub Gi G4 := fun b o e => st4.gg _ _ (st3.gg _ _ (st2.gg _ _ e))
            refine ⟨acc, h4, ?_, nx G4 _ (acc ++ [v]) (l1 ++ [y]) ys upd_same nG4 ((da.sub s24).append (.cons dr4 .nil)) (s4.side (.of hD) nG4 (.inr (.inl ⟨_, h4⟩)) _) e3 (by rw [el, e4]; simp)⟩
            have q1 := da.length
            have q2 : l.length = l1.length + (ys.length + 1) := by rw [el, e4]; simp
            rw [q1, ← line_eq]
            omega
          · show WpB c.K c.T _ (evE c.Φ et ρ1) G2 H2 _
            rw [e1]
            intro G3 H3 st3
            rw [if_neg Bool.false_ne_true]
            have h3 : H3 Dl = some (.lst acc) := st3.hh _ _ h2 (fun _ z => by cases z)
            have nG3 : G3 Dl = none := st3.nn _ _ nG2 h2 (fun _ z => by cases z)
            exact nx G3 H3 acc l1 l2 h3 nG3 (da.sub fun b o e => st3.gg _ _ (st2.gg _ _ e)) ((sti.trans st2).trans st3) e3 el
        · have e : i = items.length := by omega
          subst e
          rw [List.drop_length] at ei
          have e2 : l2 = [] := by
            have ei : (R.ok [] : R (List D)) = .ok l2 := ei
            cases ei; rfl
          subst e2
          rw [List.append_nil] at el
          subst el
          refine .inl ⟨y2 (Nat.le_refl _), ?_⟩
          exact h _ _ _ (st.trans (sti.take (.of hD) nGi hacc)) (.lst upd_same (da.sub (sub_new nGi)))
      · rw [if_neg hl] at h
        exact h.elim
theorem sd_comp {tg iter elt : Expr} {ifs : List Expr} {scope : Scope} {own : List (Str × Nat)} {pos : Pos} {pat : Pat} {k : Ik} {es et ee : E} (hc : X.calm = true) (hN : X.N.Nodup) (hi : PI X tg iter (TIv c k es)) (ok : BlkOk X.N X.env.scope scope own)
    (hg : ∀ (s : Shared) (H : Hp) (C : Addr) (cl : List (Str × Addr)) (fp : List Addr), PG (X.blk s H scope (compEnvC scope cl C X.env) fp) tg (gOf c.K pat)) (ht : ∀ (s : Shared) (H : Hp) (C : Addr) (cl : List (Str × Addr)) (fp : List Addr), PTs (X.blk s H scope (compEnvC scope cl C X.env) fp) ifs (TTv c.shut et))
    (he : ∀ (s : Shared) (H : Hp) (C : Addr) (cl : List (Str × Addr)) (fp : List Addr), PE (X.blk s H scope (compEnvC scope cl C X.env) fp) elt (TEv c.shut ee)) (hp : ∀ i ∈ pslots pat, i ∈ own.map (·.2)) (hs : ∀ x, foldedSetIterable iter X.env x = pure x) :
    PE X (.ListComp elt [⟨tg, iter, ifs, 0⟩] scope pos) (TEv c (.comp (own.map (·.2)) pat k es et ee)) :=
  PE.imp (pe_lc hc hN hi ok hg ht he hs) fun σ H Q h => comp_read hp h
end
end Nz

set_option maxHeartbeats 2000000
/-! NzStm: statements. -/
namespace Nz
open PySem PySem.Spec PyProof.Rows L2 LamX
/-- what is wanted behind a statement; G0: the part at the def's entry -/
def WpS (c : Cn) (G0 G : Hp) (r : Out) (D : Ends) : Prop := match r with
  | .nx ρ' => ∀ σ' G' H', Ste c.K c.T c.H0 ρ' σ' G' H' → Stp c.T G0 c.H0 G' H' → Sub G G' → D.nx σ' H'
  | .rt d => ∀ G' H' v, Stp c.T G0 c.H0 G' H' → Dr c.K G' v d → D.rt v H'
  | .xc x => ∀ G' H', Stp c.T G0 c.H0 G' H' → c.W (.ref (He.ga c.K (x : Str))) none H'
  | .er => False
def TSv (c : Cn) (G0 : Hp) (s : S) : TS := fun D σ H => ∃ ρ G, Ste c.K c.T c.H0 ρ σ G H ∧ Stp c.T G0 c.H0 G H ∧ WpS c G0 G (exS c.Φ s ρ) D
theorem WpS.mono {c : Cn} {G0 G G1 : Hp} {r : Out} {D : Ends} (h : WpS c G0 G r D) (s : Sub G G1) : WpS c G0 G1 r D := by
  cases r with
  | nx ρ' => exact fun σ' G' H' S st sb => h σ' G' H' S st fun b o e => sb _ _ (s _ _ e)
  | _ => exact h
section
variable {c : Cn} {G0 G H : Hp} {D : Ends} {α : Type} {ρ : Env} {σ : L2.St}
theorem WpS.of {r : R Nz.D} {f : Nz.D → Out} (st : Stp c.T G0 c.H0 G H) (h : WpS c G0 G (Rout r f) D) : Wp c.K c.T c.W r G H fun v H1 => ∃ G1 d, r = .ok d ∧ Stp c.T G H G1 H1 ∧ Dr c.K G1 v d ∧ WpS c G0 G1 (f d) D := by
  cases r with
  | ok d => exact fun G1 H1 v s1 dr => ⟨G1, d, rfl, s1, dr, WpS.mono (show WpS c G0 G (f d) D from h) s1.gg⟩
  | exc x => exact fun G1 H1 s1 => h G1 H1 (st.trans s1)
  | err => exact h
theorem WpS.ofB {r : R Nz.D} {f : Nz.D → Out} (st : Stp c.T G0 c.H0 G H) (h : WpS c G0 G (Rout r f) D) (hf : ∀ d, (∀ b, d ≠ .bool b) → f d = .er) : WpB c.K c.T c.W r G H fun b H1 => ∃ G1, r = .ok (.bool b) ∧ Stp c.T G H G1 H1 ∧ WpS c G0 G1 (f (.bool b)) D := by
  cases r with
  | ok d =>
    have h : WpS c G0 G (f d) D := h
    cases d with
    | bool b => exact fun G1 H1 s1 => ⟨G1, rfl, s1, h.mono s1.gg⟩
    | _ => rw [hf _ (fun b z => by cases z)] at h; exact h.elim
  | exc x => exact fun G1 H1 s1 => h G1 H1 (st.trans s1)
  | err => exact h.elim
end
section
variable {X : Cx} {c : Cn} {G0 : Hp} {a b t : Expr} {ea eb et : E} {pos : Pos} {st : Stmt} {sts body orelse : List Stmt} {s1 s2 : S}
/-! ### blocks -/
theorem ss_nil : PSs X [] (TSv c G0 .skip) := PSs.imp pss_nil fun D σ H ⟨ρ, G, S, st, h⟩ => (show WpS c G0 G (.nx ρ) D from h) σ G H S st fun _ _ e => e
theorem ss_cons (h1 : PS X st (TSv c G0 s1)) (h2 : PSs X sts (TSv c G0 s2)) : PSs X (st :: sts) (TSv c G0 (.seq s1 s2)) :=
  PSs.imp (pss_cons h1 h2) fun D σ H ⟨ρ, G, S, st, h⟩ => ⟨ρ, G, S, st, by
    have h : WpS c G0 G (match exS c.Φ s1 ρ with
      | .nx ρ' => exS c.Φ s2 ρ'
      | r => r) D := h
    cases e : exS c.Φ s1 ρ with
    | nx ρ' => rw [e] at h; exact fun σ' G' H' S' st' sb => ⟨ρ', G', S', st', h.mono sb⟩
    | rt d => rw [e] at h; exact h
    | xc x => rw [e] at h; exact h
    | er => rw [e] at h; exact h⟩
/-! ### frozen names -/
theorem Ste.frz {K : PySem.W.Frag} {T : List (Addr × Str)} {H0 G0 G H : Hp} {ρ : Env} {σ : L2.St} (S : Ste K T H0 ρ σ G H) (st : Stp T G0 H0 G H) (i : Nat) : ∃ G', Ste K T H0 (frzE ρ i) σ G' H ∧ Stp T G0 H0 G' H ∧ Sub G G' := by
  unfold frzE
  split
  · rename_i d e
    obtain ⟨a, h1, h2, h3, h4⟩ := S.own i d e
    have key : ∃ o, (∀ ps, o ≠ HO.tbl ps) ∧ H a = some o ∧ Sub G (upd G a o) ∧ Dr K (upd G a o) (.ref a) d := by
      cases h4 with
      | lst q1 q2 => exact ⟨_, (fun _ z => by cases z), q1, sub_new h2, .lst upd_same (q2.sub (sub_new h2))⟩
      | dic q1 q2 q3 => exact ⟨_, (fun _ z => by cases z), q1, sub_new h2, .dic (.inl upd_same) q2 (q3.sub (sub_new h2))⟩
    obtain ⟨o, hot, ho, sb, dr⟩ := key
    have s2 : Stp T G0 H0 (upd G a o) H := st.take h3 h2 ho hot
    refine ⟨upd G a o, ?_, s2, sb⟩
    have hl : i < ρ.length := (List.getElem?_eq_some_iff.mp e).1
    refine ⟨s2.sub, s2.tb, by rw [List.length_set]; exact S.len, fun j e' hj => ?_, fun j e' hj => ?_, fun j k d' e' hj hk hq => ?_, S.nt.upd hot⟩
    · by_cases q : i = j
      · subst q
        rw [List.getElem?_set_self hl] at hj
        cases hj
        exact ⟨_, h1, dr⟩
      · rw [List.getElem?_set_ne q] at hj
        obtain ⟨v, k1, k2⟩ := S.val j e' hj
        exact ⟨v, k1, k2.sub sb⟩
    · by_cases q : i = j
      · subst q
        rw [List.getElem?_set_self hl] at hj
        cases hj
      · rw [List.getElem?_set_ne q] at hj
        obtain ⟨b, k1, k2, k3, k4⟩ := S.own j e' hj
        have ne : b ≠ a := fun z => by
          subst z
          exact q (S.dis i j d e' e hj (by rw [h1, k1]))
        refine ⟨b, k1, by rw [upd_ne ne]; exact k2, k3, ?_⟩
        cases k4 with
        | lst q1 q2 => exact .lst q1 (q2.sub sb)
        | dic q1 q2 q3 => exact .dic q1 q2 (q3.sub sb)
    · have n : ∀ {m : Nat} {x : Nz.D}, (ρ.set i (some (.val d)))[m]? = some (some (.own x)) → ρ[m]? = some (some (.own x)) := fun {m x} hm => by
        by_cases q : i = m
        · subst q; rw [List.getElem?_set_self hl] at hm; cases hm
        · rw [List.getElem?_set_ne q] at hm; exact hm
      exact S.dis j k d' e' (n hj) (n hk) hq
  · exact ⟨G, S, st, fun _ _ e => e⟩
theorem Ste.frzs {K : PySem.W.Frag} {T : List (Addr × Str)} {H0 G0 H : Hp} {σ : L2.St} : ∀ (is : List Nat) {ρ : Env} {G : Hp}, Ste K T H0 ρ σ G H → Stp T G0 H0 G H → ∃ G', Ste K T H0 (is.foldl frzE ρ) σ G' H ∧ Stp T G0 H0 G' H ∧ Sub G G'
  | [], _, G, S, st => ⟨G, S, st, fun _ _ e => e⟩
  | i :: is, _, G, S, st => by
    obtain ⟨G1, S1, st1, sb1⟩ := S.frz st i
    obtain ⟨G2, S2, st2, sb2⟩ := Ste.frzs is S1 st1
    exact ⟨G2, S2, st2, fun b o e => sb2 _ _ (sb1 _ _ e)⟩
theorem ss_frz {is : List Nat} (h : PS X st (TSv c G0 s1)) : PS X st (TSv c G0 (.seq (.frz is) s1)) :=
  PS.imp h fun D σ H ⟨ρ, G, S, st, h⟩ => by
    obtain ⟨G1, S1, st1, sb⟩ := Ste.frzs is S st
    exact ⟨_, G1, S1, st1, WpS.mono (show WpS c G0 G (exS c.Φ s1 (is.foldl frzE ρ)) D from h) sb⟩
/-! ### assignments -/
theorem ss_asg {i : Nat} {x : Str} {p : Pos} (hN : X.N.Nodup) (hi : X.N[i]? = some x) (hx : Loc X.env.scope x) (hf : X.fn x = true ∨ X.env.scope.names.lookup x = some .local) (ha : PE X a (TEv c ea)) (hs : swapsWith a (some (.Name x p)) pos.line X.env = pure false) :
    PS X (.Assign [.Name x p] a pos) (TSv c G0 (.asg i ea)) :=
  PS.imp (ps_set hN hi hx ha hs hf) fun D σ H ⟨ρ, G, S, st, h⟩ => ⟨ρ, G, S, Wp.imp (WpS.of st h) fun v H1 ⟨G1, d, _, s1, dr, h⟩ => h _ G1 H1 ((S.stp s1).set dr) (st.trans s1) fun _ _ e => e⟩
/-- y = [..] on one line, y a plain local -/
theorem ss_asgLc {i : Nat} {y : Str} {py : Pos} {tg iter elt : Expr} {ifs : List Expr} {scope : Scope} {own : List (Str × Nat)} {pos spos : Pos} {pat : Pat} {k : Ik} {es et ee : E} (hc : X.calm = true) (hN : X.N.Nodup) (hy : X.N[i]? = some y) (hyl : X.env.scope.names.lookup y = some .local)
    (hsw : swapsWith (.ListComp elt [⟨tg, iter, ifs, 0⟩] scope pos) (some (.Name y py)) spos.line X.env = pure true) (hi : PI X tg iter (TIv c k es)) (ok : BlkOk X.N X.env.scope scope own)
    (hg : ∀ (s : Shared) (H : Hp) (C : Addr) (cl : List (Str × Addr)) (fp : List Addr), PG (X.blk s H scope (compEnvC scope cl C X.env) fp) tg (gOf c.K pat)) (ht : ∀ (s : Shared) (H : Hp) (C : Addr) (cl : List (Str × Addr)) (fp : List Addr), PTs (X.blk s H scope (compEnvC scope cl C X.env) fp) ifs (TTv c.shut et))
    (he : ∀ (s : Shared) (H : Hp) (C : Addr) (cl : List (Str × Addr)) (fp : List Addr), PE (X.blk s H scope (compEnvC scope cl C X.env) fp) elt (TEv c.shut ee)) (hp : ∀ i ∈ pslots pat, i ∈ own.map (·.2)) (hs : ∀ x, foldedSetIterable iter X.env x = pure x) :
    PS X (.Assign [.Name y py] (.ListComp elt [⟨tg, iter, ifs, 0⟩] scope pos) spos) (TSv c G0 (.asg i (.comp (own.map (·.2)) pat k es et ee))) :=
  PS.imp (ps_setLc hc hN hy hyl hsw hi ok hg ht he hs) fun D σ H ⟨ρ, G, S, st, h⟩ => comp_read hp ⟨ρ, G, S, Wp.imp (WpS.of st h) fun v H1 ⟨G1, d, _, s1, dr, h⟩ => h _ G1 H1 ((S.stp s1).set dr) (st.trans s1) fun _ _ e => e⟩
theorem ss_asgP {tg : Expr} {p : Pat} (hg : PG X tg (gOf c.K p)) (ha : PE X a (TEv c ea)) (hs : swapsWithSole [tg] a pos.line X.env = pure false) (hw : swappedStores [tg] a X.env = pure none) (h1 : (assignEach [tg] X.env).map (·.2) = [assign tg X.env]) :
    PS X (.Assign [tg] a pos) (TSv c G0 (.asgP p ea)) :=
  PS.imp (ps_asg ha hg hs hw h1) fun D σ H ⟨ρ, G, S, st, h⟩ => ⟨ρ, G, S, Wp.imp (WpS.of st h) fun v H1 ⟨G1, d, _, s1, dr, h⟩ => by
    cases e : bindP p d ρ with
    | ok ρ' =>
      rw [e] at h
      exact pat_read p (S.stp s1) dr e fun σ' S' _ => h σ' G1 H1 S' (st.trans s1) fun _ _ e => e
    | exc x => rw [e] at h; exact (show False from h).elim
    | err => rw [e] at h; exact (show False from h).elim⟩
theorem ss_par {i j : Nat} {x y : Str} {px py pt : Pos} {kt k2 pt2} (hc : X.calm = true) (hN : X.N.Nodup) (hi : X.N[i]? = some x) (hj : X.N[j]? = some y) (hij : i ≠ j) (hx : X.env.scope.names.lookup x = some .local) (hy : X.env.scope.names.lookup y = some .local)
    (ha : PE X a (TEv c ea)) (hb : PE X b (TEv c eb)) (hsa : starEach [a, b] X.env = (false, eval a X.env) :: starEach [b] X.env) (hsb : starEach [b] X.env = (false, eval b X.env) :: starEach [] X.env)
    (hw : swappedStores [.Tuple [.Name x px, .Name y py] kt pt] (.Tuple [a, b] k2 pt2) X.env = pure (some [x, y])) :
    PS X (.Assign [.Tuple [.Name x px, .Name y py] kt pt] (.Tuple [a, b] k2 pt2) pos) (TSv c G0 (.par i j ea eb)) :=
  PS.imp (ps_par hc hN hi hj hij hx hy (pa_cons ha (pa_cons hb pa_nil hsb) hsa) hw) fun D σ H ⟨ρ, G, S, st, h⟩ => ⟨ρ, G, S, Wp.imp (WpS.of st h) fun v H1 ⟨G1, d, _, s1, dr, h⟩ =>
    ⟨ρ, G1, S.stp s1, Wp.imp (WpS.of (st.trans s1) h) fun w H2 ⟨G2, e, _, s2, dr2, h⟩ => ⟨v, w, rfl, h _ G2 H2 ((((S.stp s1).stp s2).set (dr.stp s2)).set dr2) ((st.trans s1).trans s2) fun _ _ e => e⟩⟩⟩
/-! ### a list of the def's own -/
/-- an expression that gives a new list or dict -/
def WpF (K : PySem.W.Frag) (T : List (Addr × Str)) (W : XK) (r : R Nz.D) (G H : Hp) (Q : VK) : Prop := match r with
  | .ok d => ∀ G' H' a, Stp T G H G' H' → G' a = none → NT H a → OwnAt K G' H' a d → Q (.ref a) H'
  | .exc c => ∀ G' H', Stp T G H G' H' → W (.ref (He.ga K (c : Str))) none H'
  | .err => False
def TFv (c : Cn) (e : E) : TE := fun σ H Q => ∃ ρ G, Ste c.K c.T c.H0 ρ σ G H ∧ WpF c.K c.T c.W (evE c.Φ e ρ) G H Q
theorem sf_lst {es : List Expr} {eas : E} (h : PA X es (TAv c eas)) : PE X (.List es pos) (TFv c (.lst eas)) :=
  PE.imp (pe_lst h) fun σ H Q ⟨ρ, G, S, h⟩ => ⟨ρ, G, S, by
    have h : WpF c.K c.T c.W ((evE c.Φ eas ρ).bind fun y => (R.list y).bind fun l => if l.length ≤ LINE then .ok (.list l) else .err) G H Q := h
    cases e : evE c.Φ eas ρ with
    | ok d =>
      rw [e] at h
      cases d with
      | list l =>
        have h : WpF c.K c.T c.W (if l.length ≤ LINE then .ok (.list l) else .err) G H Q := h
        intro G1 H1 vs s1 da
        by_cases z : l.length ≤ LINE
        · rw [if_pos z] at h
          refine ⟨line_le (by rw [da.length]; exact z), fun p np => ?_⟩
          have nG : G1 p = none := none_sub s1.sub np
          exact h G1 _ p (s1.trans ((Stp.refl s1.sub s1.tb).side (.of np) nG (.inl np) _)) nG (s1.nt (.of np)) (.lst upd_same da)
        · rw [if_neg z] at h; exact h.elim
      | _ => exact (show False from h).elim
    | exc x => rw [e] at h; exact h
    | err => rw [e] at h; exact (show False from h).elim⟩
theorem Ste.setOwn {K : PySem.W.Frag} {T : List (Addr × Str)} {H0 G H : Hp} {ρ : Env} {σ : L2.St} (S : Ste K T H0 ρ σ G H) {i : Nat} {a : Addr} {d : Nz.D} (nG : G a = none) (n0 : NT H0 a) (h : OwnAt K G H a d)
    (new : ∀ (j : Nat) e, ρ[j]? = some (some (.own e)) → σ[j]? ≠ some (some (.ref a))) : Ste K T H0 (ρ.set i (some (.own d))) (σ.set i (some (.ref a))) G H where
  sub := S.sub
  nt := S.nt
  tb := S.tb
  len := by rw [List.length_set, List.length_set]; exact S.len
  val := fun j e hj => by
    by_cases q : i = j
    · subst q
      by_cases hl : i < ρ.length
      · rw [List.getElem?_set_self hl] at hj; cases hj
      · rw [List.getElem?_eq_none (by rw [List.length_set]; omega)] at hj; cases hj
    · rw [List.getElem?_set_ne q] at hj ⊢
      exact S.val j e hj
  own := fun j e hj => by
    by_cases q : i = j
    · subst q
      by_cases hl : i < ρ.length
      · rw [List.getElem?_set_self hl] at hj
        cases hj
        exact ⟨a, List.getElem?_set_self (by rw [← S.len]; exact hl), nG, n0, h⟩
      · rw [List.getElem?_eq_none (by rw [List.length_set]; omega)] at hj; cases hj
    · rw [List.getElem?_set_ne q] at hj ⊢
      exact S.own j e hj
  dis := fun j k d' e hj hk hq => by
    by_cases qj : i = j
    · by_cases qk : i = k
      · rw [← qj, ← qk]
      · exfalso
        rw [List.getElem?_set_ne qk] at hk hq
        subst qj
        have hl : i < σ.length := by
          by_cases hl : i < ρ.length
          · rw [← S.len]; exact hl
          · rw [List.getElem?_eq_none (by rw [List.length_set]; omega)] at hj; cases hj
        rw [List.getElem?_set_self hl] at hq
        exact new k e hk hq.symm
    · by_cases qk : i = k
      · exfalso
        rw [List.getElem?_set_ne qj] at hj hq
        subst qk
        have hl : i < σ.length := by
          by_cases hl : i < ρ.length
          · rw [← S.len]; exact hl
          · rw [List.getElem?_eq_none (by rw [List.length_set]; omega)] at hk; cases hk
        rw [List.getElem?_set_self hl] at hq
        exact new j d' hj hq
      · rw [List.getElem?_set_ne qj] at hj hq
        rw [List.getElem?_set_ne qk] at hk hq
        exact S.dis j k d' e hj hk hq
theorem ss_asgO {i : Nat} {x : Str} {p : Pos} (hN : X.N.Nodup) (hi : X.N[i]? = some x) (hx : Loc X.env.scope x) (hf : X.fn x = true ∨ X.env.scope.names.lookup x = some .local) (ha : PE X a (TFv c ea)) (hs : swapsWith a (some (.Name x p)) pos.line X.env = pure false) :
    PS X (.Assign [.Name x p] a pos) (TSv c G0 (.asgO i ea)) :=
  PS.imp (ps_set hN hi hx ha hs hf) fun D σ H ⟨ρ, G, S, st, h⟩ => ⟨ρ, G, S, by
    have h : WpS c G0 G (Rout (evE c.Φ ea ρ) fun d => .nx (ρ.set i (some (.own d)))) D := h
    cases e : evE c.Φ ea ρ with
    | ok d =>
      rw [e] at h
      intro G1 H1 a s1 nG nt ow
      refine h _ G1 H1 ((S.stp s1).setOwn nG (st.nt nt) ow fun j e' hj z => ?_) (st.trans s1) s1.gg
      obtain ⟨b, k1, k2, k3, k4⟩ := S.own j e' hj
      rw [k1] at z
      have z : b = a := by cases z; rfl
      subst z
      cases k4 with
      | lst q _ =>
        obtain ⟨ps, q2⟩ := nt _ q
        cases q2
      | dic q _ _ =>
        obtain ⟨ps, q2⟩ := nt _ q
        cases q2
    | exc x => rw [e] at h; exact fun G1 H1 s1 => h G1 H1 (st.trans s1)
    | err => rw [e] at h; exact h⟩
/-- a list or dict of the def's own is changed -/
theorem Ste.write {K : PySem.W.Frag} {T : List (Addr × Str)} {H0 G0 G H : Hp} {ρ : Env} {σ : L2.St} (S : Ste K T H0 ρ σ G H) (st : Stp T G0 H0 G H) {i : Nat} {a : Addr} {d d' : Nz.D} (e : ρ[i]? = some (some (.own d))) (h1 : σ[i]? = some (some (.ref a))) (nG : G a = none) (n0 : NT H0 a)
    (tm : Tame (H a)) {o : HO} (h : OwnAt K G (upd H a o) a d') : Ste K T H0 (ρ.set i (some (.own d'))) σ G (upd H a o) ∧ Stp T G0 H0 G (upd H a o) := by
  have s2 := st.side n0 nG tm o
  have hl : i < ρ.length := (List.getElem?_eq_some_iff.mp e).1
  have oth : ∀ {j : Nat} {b : Addr} {x : Nz.D}, i ≠ j → ρ[j]? = some (some (.own x)) → σ[j]? = some (some (.ref b)) → b ≠ a := fun {j b x} q hj hb z => by
    subst z
    exact q (S.dis i j d x e hj (by rw [h1, hb]))
  refine ⟨⟨s2.sub, s2.tb, by rw [List.length_set]; exact S.len, fun j e' hj => ?_, fun j e' hj => ?_, fun j k x y hj hk hq => ?_, S.nt⟩, s2⟩
  · by_cases q : i = j
    · subst q; rw [List.getElem?_set_self hl] at hj; cases hj
    · rw [List.getElem?_set_ne q] at hj
      exact S.val j e' hj
  · by_cases q : i = j
    · subst q
      rw [List.getElem?_set_self hl] at hj
      cases hj
      exact ⟨a, h1, nG, n0, h⟩
    · rw [List.getElem?_set_ne q] at hj
      obtain ⟨b, k1, k2, k3, k4⟩ := S.own j e' hj
      have ne := oth q hj k1
      refine ⟨b, k1, k2, k3, ?_⟩
      cases k4 with
      | lst q1 q2 => exact .lst (by rw [upd_ne ne]; exact q1) q2
      | dic q1 q2 q3 => exact .dic (by rw [upd_ne ne]; exact q1) q2 q3
  · have n : ∀ {m : Nat} {x : Nz.D}, (ρ.set i (some (.own d')))[m]? = some (some (.own x)) → ∃ y, ρ[m]? = some (some (.own y)) := fun {m x} hm => by
      by_cases q : i = m
      · subst q; exact ⟨d, e⟩
      · rw [List.getElem?_set_ne q] at hm; exact ⟨x, hm⟩
    obtain ⟨x', hj'⟩ := n hj
    obtain ⟨y', hk'⟩ := n hk
    exact S.dis j k x' y' hj' hk' hq
theorem getO_ok {ρ : Env} {i : Nat} {d : Nz.D} (h : getO ρ i = .ok d) : ρ[i]? = some (some (.own d)) := by
  unfold getO at h
  split at h
  · rename_i e; cases h; exact e
  · cases h
theorem getO_noexc {ρ : Env} {i : Nat} {x : String} (h : getO ρ i = .exc x) : False := by
  unfold getO at h
  split at h <;> cases h
/-- name.append(e) -/
theorem ss_app {i : Nat} {x : Str} {p ap cp : Pos} (hK : X.K = c.K) (hN : X.N[i]? = some x) (hv : Vis X.env.scope x) (hd : (x == ("__debug__" : Str)) = false) (hcd : (x == ("__classdict__" : Str)) = false) (ha : PE X a (TEv c ea))
    (hbase : attributeBase (.Name x p) "append" X.env (eval (.Name x p) X.env) = eval (.Name x p) X.env) (hfew : ((backTo cp (starEach [a] X.env)).all (fun x => !x.1) && (backToKw cp (keywordEach [] X.env)).all (fun x => x.1.isSome) && decide (([a] : List Expr).length + ([] : List Keyword).length + (if ([] : List Keyword).isEmpty then 0 else 1) < 30)) = true)
    (hline : (ap.endLine == cp.line) = true) (hs : starEach [a] X.env = (false, eval a X.env) :: starEach [] X.env) : PS X (.Expr (.Call (.Attribute (.Name x p) "append" ap) [a] [] cp) pos) (TSv c G0 (.app i ea)) := by
  refine PS.imp (ps_expr (pe_bm PySem.F.plainAttrs_list PySem.F.slot_list_append PySem.F.type_list_append mt_append (pe_var hN hv hd hcd) (pa_cons ha pa_nil hs) hbase hfew hline hs) (by rfl)) fun D σ H ⟨ρ, G, S, st, h⟩ => ?_
  have h : WpS c G0 G (match getO ρ i with
    | .ok (.list l) => Rout (evE c.Φ ea ρ) fun d => if l.length < LINE then .nx (ρ.set i (some (.own (.list (l ++ [d]))))) else .er
    | _ => .er) D := h
  split at h
  · rename_i l e
    have e := getO_ok e
    obtain ⟨a, h1, h2, h3, h4⟩ := S.own i _ e
    obtain ⟨q1, q2⟩ | _ := h4
    refine ⟨.ref a, h1, .inl ⟨rfl, _, SqL.of q1⟩, ρ, G, S, Wp.imp (WpS.of st h) fun v H1 ⟨G1, d, _, s1, dr, h⟩ => ?_⟩
    by_cases z : l.length < LINE
    · rw [if_pos z] at h
      have S1 := S.stp s1
      have k1 : H1 a = some (.lst _) := s1.hh _ _ q1 (fun _ z => by cases z)
      have k2 : G1 a = none := s1.nn _ _ h2 q1 (fun _ z => by cases z)
      obtain ⟨S2, st2⟩ := S1.write (st.trans s1) e h1 k2 h3 (.inr (.inl ⟨_, k1⟩)) (o := .lst (_ ++ [v])) (d' := .list (l ++ [d])) (.lst upd_same ((q2.sub s1.gg).append (.cons dr .nil)))
      exact ⟨a, _, v, rfl, rfl, k1, by rw [q2.length, ← line_eq]; exact z, h _ _ _ S2 st2 fun _ _ e => e⟩
    · rw [if_neg z] at h
      exact (show False from h).elim
  · exact (show False from h).elim
/-- name.extend(e) -/
theorem ss_ext {i : Nat} {x : Str} {p ap cp : Pos} (hK : X.K = c.K) (hN : X.N[i]? = some x) (hv : Vis X.env.scope x) (hd : (x == ("__debug__" : Str)) = false) (hcd : (x == ("__classdict__" : Str)) = false) (ha : PE X a (TEv c ea))
    (hbase : attributeBase (.Name x p) "extend" X.env (eval (.Name x p) X.env) = eval (.Name x p) X.env) (hfew : ((backTo cp (starEach [a] X.env)).all (fun x => !x.1) && (backToKw cp (keywordEach [] X.env)).all (fun x => x.1.isSome) && decide (([a] : List Expr).length + ([] : List Keyword).length + (if ([] : List Keyword).isEmpty then 0 else 1) < 30)) = true)
    (hline : (ap.endLine == cp.line) = true) (hs : starEach [a] X.env = (false, eval a X.env) :: starEach [] X.env) : PS X (.Expr (.Call (.Attribute (.Name x p) "extend" ap) [a] [] cp) pos) (TSv c G0 (.ext i ea)) := by
  refine PS.imp (ps_expr (pe_bm PySem.F.plainAttrs_list PySem.F.slot_list_extend PySem.F.type_list_extend mt_extend (pe_var hN hv hd hcd) (pa_cons ha pa_nil hs) hbase hfew hline hs) (by rfl)) fun D σ H ⟨ρ, G, S, st, h⟩ => ?_
  have h : WpS c G0 G (match getO ρ i with
    | .ok (.list l) => Rout (evE c.Φ ea ρ) fun d => match d with
      | .list m => if l.length + m.length ≤ LINE then .nx (ρ.set i (some (.own (.list (l ++ m))))) else .er
      | _ => .er
    | _ => .er) D := h
  split at h
  · rename_i l e
    have e := getO_ok e
    obtain ⟨a, h1, h2, h3, h4⟩ := S.own i _ e
    obtain ⟨q1, q2⟩ | _ := h4
    refine ⟨.ref a, h1, .inl ⟨rfl, _, SqL.of q1⟩, ρ, G, S, Wp.imp (WpS.of st h) fun v H1 ⟨G1, d, _, s1, dr, h⟩ => ?_⟩
    cases d with
    | list m =>
      have h : WpS c G0 G1 (if l.length + m.length ≤ LINE then .nx (ρ.set i (some (.own (.list (l ++ m))))) else .er) D := h
      obtain ⟨b, ys, rfl, w1, w2⟩ := lst_inv dr
      by_cases z : l.length + m.length ≤ LINE
      · rw [if_pos z] at h
        have S1 := S.stp s1
        have k1 : H1 a = some (.lst _) := s1.hh _ _ q1 (fun _ z => by cases z)
        have k2 : G1 a = none := s1.nn _ _ h2 q1 (fun _ z => by cases z)
        obtain ⟨S2, st2⟩ := S1.write (st.trans s1) e h1 k2 h3 (.inr (.inl ⟨_, k1⟩)) (o := .lst (_ ++ ys)) (d' := .list (l ++ m)) (.lst upd_same ((q2.sub s1.gg).append w2))
        exact ⟨a, b, _, ys, rfl, rfl, k1, s1.sub _ _ w1, by rw [q2.length, w2.length, ← line_eq]; exact z, h _ _ _ S2 st2 fun _ _ e => e⟩
      · rw [if_neg z] at h
        exact (show False from h).elim
    | _ => exact (show False from h).elim
  · exact (show False from h).elim
/-! ### the rest -/
theorem ss_exp (ha : PE X a (TEv c ea)) (hs : swapsWith a none pos.line X.env = pure false) : PS X (.Expr a pos) (TSv c G0 (.exp ea)) :=
  PS.imp (ps_expr ha hs) fun D σ H ⟨ρ, G, S, st, h⟩ => ⟨ρ, G, S, Wp.imp (WpS.of st h) fun v H1 ⟨G1, d, _, s1, dr, h⟩ => h σ G1 H1 (S.stp s1) (st.trans s1) fun _ _ e => e⟩
theorem ss_ret (ha : PE X a (TEv c ea)) : PS X (.Return (some a) pos) (TSv c G0 (.ret ea)) :=
  PS.imp (ps_ret ha) fun D σ H ⟨ρ, G, S, st, h⟩ => ⟨ρ, G, S, Wp.imp (WpS.of st h) fun v H1 ⟨G1, d, _, s1, dr, h⟩ => h G1 H1 v (st.trans s1) dr⟩
theorem ss_ite (hc : PT X t (TTv c et)) (h1 : PSs X body (TSv c G0 s1)) (h2 : PSs X orelse (TSv c G0 s2)) : PS X (.If t body orelse pos) (TSv c G0 (.ite et s1 s2)) :=
  PS.imp (ps_if hc h1 h2) fun D σ H ⟨ρ, G, S, st, h⟩ => ⟨ρ, G, S, WpB.mono (WpS.ofB st h fun d hd => by cases d <;> first | rfl | exact absurd rfl (hd _)) fun b H1 ⟨G1, _, s1, h⟩ => by
    cases b with
    | true => rw [if_pos rfl]; exact ⟨ρ, G1, S.stp s1, st.trans s1, h⟩
    | false => rw [if_neg Bool.false_ne_true]; exact ⟨ρ, G1, S.stp s1, st.trans s1, h⟩⟩
theorem ss_whl (hp : PassesOwn (model X.prog X.w) X.A X.env X.xe) (hc : PT X t (TTv c et)) (hb : PSs X body (TSv c G0 s1)) : PS X (.While t body [] pos) (TSv c G0 (.whl et s1)) :=
  PS.imp (ps_while hp hc hb) fun D σ H ⟨ρ, G, S, st, h⟩ => by
    refine ⟨fun m σ H => ∃ ρ G, Ste c.K c.T c.H0 ρ σ G H ∧ Stp c.T G0 c.H0 G H ∧ WpS c G0 G (whileF (fun ρ => evE c.Φ et ρ) (fun ρ => exS c.Φ s1 ρ) m ρ) D, ⟨FUEL, ρ, G, S, st, h⟩, ?_⟩
    rintro m σ H ⟨ρ, G, S, st, h⟩
    cases m with
    | zero => exact (show False from h).elim
    | succ m =>
      refine ⟨ρ, G, S, WpB.mono (WpS.ofB st h fun d hd => by cases d <;> first | rfl | exact absurd rfl (hd _)) fun b H1 ⟨G1, _, st1, h⟩ => ?_⟩
      cases b with
      | true =>
        rw [if_pos rfl]
        refine ⟨fun σ' H' => ∃ m', m' < m + 1 ∧ ∃ ρ G, Ste c.K c.T c.H0 ρ σ' G H' ∧ Stp c.T G0 c.H0 G H' ∧ WpS c G0 G (whileF (fun ρ => evE c.Φ et ρ) (fun ρ => exS c.Φ s1 ρ) m' ρ) D, fun σ' H' q => q, ρ, G1, S.stp st1, st.trans st1, ?_⟩
        have h : WpS c G0 G1 (match exS c.Φ s1 ρ with
          | .nx ρ' => whileF (fun ρ => evE c.Φ et ρ) (fun ρ => exS c.Φ s1 ρ) m ρ'
          | r => r) D := h
        cases e : exS c.Φ s1 ρ with
        | nx ρ' => rw [e] at h; exact fun σ' G' H' S' st' sb => ⟨m, Nat.lt_succ_self m, ρ', G', S', st', h.mono sb⟩
        | rt d => rw [e] at h; exact h
        | xc x => rw [e] at h; exact h
        | er => rw [e] at h; exact h
      | false =>
        rw [if_neg Bool.false_ne_true]
        exact (show WpS c G0 G1 (.nx ρ) D from h) σ G1 H1 (S.stp st1) (st.trans st1) fun _ _ e => e
theorem ss_for {tg iter : Expr} {p : Pat} {k : Ik} {es : E} (hp : PassesOwn (model X.prog X.w) X.A X.env X.xe) (hc : X.calm = true) (hi : PI X tg iter (TIv c k es)) (hg : PG X tg (gOf c.K p)) (hb : PSs X body (TSv c G0 s1)) (hs : ∀ x, foldedSetIterable iter X.env x = pure x) :
    PS X (.For tg iter body [] pos) (TSv c G0 (.for p k es s1)) :=
  PS.imp (ps_for hp hc hi hg hb hs) fun D σ H ⟨ρ, G, S, st, h⟩ => ⟨ρ, G, S, by
    have h : WpS c G0 G (Rout ((evE c.Φ es ρ).bind fun s => itD k s) fun items => forF (fun x ρ => bindP p x ρ) (fun ρ => exS c.Φ s1 ρ) items ρ) D := h
    cases er : (evE c.Φ es ρ).bind (itD k) with
    | err => rw [er] at h; exact (show False from h).elim
    | exc x => rw [er] at h; exact fun G1 H1 s1 => h G1 H1 (st.trans s1)
    | ok items =>
      rw [er] at h
      intro G1 H1 J sj yl
      refine ⟨fun i m σ H => m = items.length - i ∧ i ≤ items.length ∧ ∃ ρ G, Ste c.K c.T c.H0 ρ σ G H ∧ Stp c.T G0 c.H0 G H ∧ Sub G1 G ∧ WpS c G0 G (forF (fun x ρ => bindP p x ρ) (fun ρ => exS c.Φ s1 ρ) (items.drop i) ρ) D,
        ⟨items.length, by simp, Nat.zero_le _, ρ, G1, S.stp sj, st.trans sj, fun _ _ e => e, by rw [List.drop_zero]; exact h.mono sj.gg⟩, ?_⟩
      rintro i m σ H ⟨rfl, hi, ρ, G, S, st, sb, h⟩
      obtain ⟨y1, y2⟩ := yl i G H sb S.sub S.tb
      by_cases hlt : i < items.length
      · obtain ⟨go, yd⟩ := y1 items[i] (by simp [hlt])
        rw [List.drop_eq_getElem_cons hlt] at h
        refine .inr ⟨go, fun σ' H' => ∃ m', m' < items.length - i ∧ m' = items.length - (i + 1) ∧ i + 1 ≤ items.length ∧ ∃ ρ G, Ste c.K c.T c.H0 ρ σ' G H' ∧ Stp c.T G0 c.H0 G H' ∧ Sub G1 G ∧ WpS c G0 G (forF (fun x ρ => bindP p x ρ) (fun ρ => exS c.Φ s1 ρ) (items.drop (i + 1)) ρ) D, fun σ' H' q => q, fun x H2 hy => ?_⟩
        obtain ⟨G2, st2, dr2⟩ := yd x H2 hy
        have h : WpS c G0 G (match bindP p items[i] ρ with
          | .ok ρ1 => (match exS c.Φ s1 ρ1 with
            | .nx ρ' => forF (fun x ρ => bindP p x ρ) (fun ρ => exS c.Φ s1 ρ) (items.drop (i + 1)) ρ'
            | r => r)
          | _ => .er) D := h
        cases eb : bindP p items[i] ρ with
        | ok ρ1 =>
          rw [eb] at h
          refine pat_read p (S.stp st2) dr2 eb fun σ2 S2 _ => ⟨ρ1, G2, S2, st.trans st2, WpS.mono ?_ st2.gg⟩
          have h : WpS c G0 G (match exS c.Φ s1 ρ1 with
            | .nx ρ' => forF (fun x ρ => bindP p x ρ) (fun ρ => exS c.Φ s1 ρ) (items.drop (i + 1)) ρ'
            | r => r) D := h
          cases e : exS c.Φ s1 ρ1 with
          | nx ρ' =>
            rw [e] at h
            intro σ' G' H' S' st' sb'
            exact ⟨items.length - (i + 1), by omega, rfl, hlt, ρ', G', S', st', fun b o e => sb' _ _ (sb _ _ e), h.mono sb'⟩
          | rt d => rw [e] at h; exact h
          | xc x => rw [e] at h; exact h
          | er => rw [e] at h; exact h
        | exc x => rw [eb] at h; exact (show False from h).elim
        | err => rw [eb] at h; exact (show False from h).elim
      · have e : i = items.length := by omega
        subst e
        rw [List.drop_length] at h
        exact .inl ⟨y2 (Nat.le_refl _), (show WpS c G0 G (.nx ρ) D from h) σ G H S st fun _ _ e => e⟩⟩
end
end Nz

set_option maxHeartbeats 4000000
/-! NzTr: from the row's own expressions to the small language; what is translated is read by the evaluator. -/
namespace Nz
open PySem PySem.Spec PyProof.Rows L2 LamX
/-! ### small facts of the model's syntax -/
def notStar : Expr → Bool
  | .Starred .. => false
  | _ => true
theorem star_cons {a : Expr} {es : List Expr} {env : PySem.Env} (h : notStar a = true) : starEach (a :: es) env = (false, eval a env) :: starEach es env := by
  cases a <;> first | rfl | cases h
theorem star_any {pos : Pos} {env : PySem.Env} : ∀ {es : List Expr}, es.all notStar = true → (backTo pos (starEach es env)).any (·.1) = false
  | [], _ => rfl
  | a :: es, h => by
    have h' : notStar a = true ∧ es.all notStar = true := by simpa using h
    rw [star_cons h'.1]
    show (false || (backTo pos (starEach es env)).any (·.1)) = false
    rw [star_any h'.2]; rfl
def notSlice : Expr → Bool
  | .Slice .. => false
  | .Tuple .. => false
  | _ => true
theorem plain_ix {b : Expr} (h : notSlice b = true) : PlainIx b := fun o i => by
  cases b <;> first | rfl | cases h
def notSet : Expr → Bool
  | .Set .. => false
  | _ => true
theorem not_set {e : Expr} {env : PySem.Env} (h : notSet e = true) (x : Value) : foldedSetIterable e env x = pure x := by
  cases e <;> first | rfl | cases h
def plainTest : Expr → Bool
  | .UnaryOp .. => false
  | .BoolOp .. => false
  | .IfExp .. => false
  | .Compare .. => false
  | _ => true
theorem plain_test {a : Expr} {env : PySem.Env} (h : plainTest a = true) (whole : Sem Value) : isTrue a env whole = (do let v ← whole; standAt a.pos; holding [v] (truthy v)) := by
  cases a <;> first | rfl | cases h
def noComp : Expr → Bool
  | .ListComp .. => false
  | .SetComp .. => false
  | .DictComp .. => false
  | _ => true
theorem no_comp {a : Expr} {t : Option Expr} {l : Nat} {env : PySem.Env} (h : noComp a = true) : swapsWith a t l env = pure false := by
  cases a <;> first | rfl | cases h
/-! ### what is known where an expression stands -/
structure TC where
  N : List Str
  sc : Scope
  fs : List (Str × String × Nat)
  cns : List (Str × D)
  bl : List Str
  exs : List (Str × String)
  lam : Bool
/-- the lambda's own context, exceptions with no context -/
def lamN (X : Cx) (A : Around) (outer : List PySem.Env) (s : Shared) (H : Hp) (E : XK) (scope : Scope) (f c' : Addr) : Cx :=
  (lamCx X A outer s H E scope f c').wish fun e s' => wpAny (model X.prog X.w) (A.deeper (lamEnv X scope s.heap.objs.size f c')) (leaving (lamEnv X scope s.heap.objs.size f c') e) (fun _ s'' => L2N.CX X.prog X.w outer H s E e s'') (fun e' s'' => L2N.CX X.prog X.w outer H s E e' s'') s'
/-- told(lambda: e), e within the lambda's own context -/
structure ToldP (X : Cx) (c : Cn) (k : Nat) : Prop where
  rule : ∀ (body : Expr) (scope : Scope) (e : E) (p lpos pos : Pos), LamS X.env.scope scope →
    (∀ (A : Around) (outer : List PySem.Env) (s : Shared) (H : Hp) (E : XK) (f c' : Addr), Room k (A.deeper (lamEnv X scope s.heap.objs.size f c')) → PE (lamN X A outer s H E scope f c') body (TEv { c with W := E } e)) →
    PE X (.Call (.Name "_law_told" p) [.Lambda ⟨[], [], none, [], [], none, []⟩ body scope lpos] [] pos) (TEv c (.told e))
/-- an exception class that is raised with a text -/
def ExP (K : PySem.W.Frag) (mg : Str → Option Value) (x : Str) (c : String) : Prop := x = (c : Str) ∧ mg x = some (.ref (He.ga K (c : Str))) ∧ PySem.W.keepIn K (.ref (He.ga K (c : Str))) = true ∧
  PySem.W.subIn K (.ref (He.ga K (c : Str))) (.type "BaseException") = some true ∧ PySem.W.typeIn K (.ref (He.ga K (c : Str))) = some (.type "type") ∧ ∃ B newId initId bmB, ExcBaseFacts B newId initId bmB ∧ PySem.W.excIn K (He.ga K (c : Str)) bmB newId = true
/-- the context X serves t; k: the room of the callees -/
structure XOk (t : TC) (c : Cn) (k : Nat) (X : Cx) : Prop where
  N : X.N = t.N
  nd : t.N.Nodup
  sc : X.env.scope = t.sc
  K : X.K = c.K
  calm : X.calm = true
  room : Room k X.A
  tk : L2N.Takes X fun cls d _ H => c.W cls d H
  fn : ∀ p ∈ t.fs, p.1 = (p.2.1 : Str) ∧ FnP X.K c.T c.Φ X.prog X.w X.mg X.base k p.2.1 p.2.2
  cn : ∀ p ∈ t.cns, ∃ u v, X.mg p.1 = some u ∧ RelV v u ∧ ∀ G, Dr c.K G v p.2
  blt : ∀ x ∈ t.bl, X.mg x = none
  told : t.lam = true → ToldP X c k
  ex : ∀ p ∈ t.exs, ExP X.K X.mg p.1 p.2
def isGl (t : TC) (x : Str) : Bool := match t.sc.names.lookup x with
  | some .globalImplicit => true
  | _ => false
def isVis (t : TC) (x : Str) : Bool := match t.sc.names.lookup x with
  | some .local => true
  | some .cell => true
  | some .free => true
  | _ => false
def isLoc (t : TC) (x : Str) : Bool := match t.sc.names.lookup x with
  | some .local => true
  | _ => false
def isBl (t : TC) (x : Str) : Bool := isGl t x && t.bl.any fun y => decide (y = x)
theorem gl_ok {t : TC} {c : Cn} {k : Nat} {X : Cx} (o : XOk t c k X) {x : Str} (h : isGl t x = true) : Gl X x := by
  unfold isGl at h
  show X.env.scope.names.lookup x = _
  rw [o.sc]
  split at h
  · assumption
  · cases h
theorem vis_ok {t : TC} {c : Cn} {k : Nat} {X : Cx} (o : XOk t c k X) {x : Str} (h : isVis t x = true) : Vis X.env.scope x := by
  unfold isVis at h
  rw [o.sc]
  split at h
  · exact .inl (by assumption)
  · exact .inr (.inl (by assumption))
  · exact .inr (.inr (by assumption))
  · cases h
theorem loc_ok {t : TC} {c : Cn} {k : Nat} {X : Cx} (o : XOk t c k X) {x : Str} (h : isLoc t x = true) : X.env.scope.names.lookup x = some .local := by
  unfold isLoc at h
  rw [o.sc]
  split at h
  · assumption
  · cases h
theorem bl_ok {t : TC} {c : Cn} {k : Nat} {X : Cx} (o : XOk t c k X) {x : Str} (h : isBl t x = true) : Gl X x ∧ X.mg x = none := by
  unfold isBl at h
  rw [Bool.and_eq_true] at h
  obtain ⟨y, hy, e⟩ := List.any_eq_true.mp h.2
  have e : y = x := of_decide_eq_true e
  subst e
  exact ⟨gl_ok o h.1, o.blt y hy⟩
/-- the place of a name -/
def slot (t : TC) (x : Str) : Option Nat := if isVis t x && !decide (x = ("__debug__" : Str)) && !decide (x = ("__classdict__" : Str)) then (t.N.findIdx? fun y => decide (y = x)) else none
theorem slot_ok {t : TC} {c : Cn} {k : Nat} {X : Cx} (o : XOk t c k X) {x : Str} {i : Nat} (h : slot t x = some i) : X.N[i]? = some x ∧ Vis X.env.scope x ∧ (x == ("__debug__" : Str)) = false ∧ (x == ("__classdict__" : Str)) = false := by
  unfold slot at h
  split at h
  · rename_i q
    simp only [Bool.and_eq_true, Bool.not_eq_true', decide_eq_false_iff_not] at q
    rw [o.N]
    have h' := List.findIdx?_eq_some_iff_getElem.mp h
    obtain ⟨h1, h2, _⟩ := h'
    have e : t.N[i] = x := by simpa using h2
    exact ⟨by rw [List.getElem?_eq_getElem h1, e], vis_ok o q.1.1, by simpa using q.1.2, by simpa using q.2⟩
  · cases h
/-! ### the translator -/
inductive Md where
  | val | peek | test
def trL (f : Expr → Option E) : List Expr → Option E
  | [] => some .nil
  | a :: r => match notStar a, f a, trL f r with
    | true, some ea, some er => some (.cons ea er)
    | _, _, _ => none
def trBool (mk : E → E → E) (f : Expr → Option E) : List Expr → Option E
  | [] => none
  | [a] => f a
  | a :: b :: r => match f a, trBool mk f (b :: r) with
    | some ea, some er => some (mk ea er)
    | _, _ => none
def tyOf (x : Str) : Option Ty := if x = ("int" : Str) then some .int else if x = ("bool" : Str) then some .bool else if x = ("list" : Str) then some .list else if x = ("tuple" : Str) then some .tuple else if x = ("str" : Str) then some .str else none
def bltOf (x : Str) : Option Blt := if x = ("abs" : Str) then some .abs else if x = ("sum" : Str) then some .sum else if x = ("max" : Str) then some .max else if x = ("min" : Str) then some .min
  else if x = ("all" : Str) then some .all else if x = ("any" : Str) then some .any else if x = ("int" : Str) then some .int else if x = ("str" : Str) then some .str else if x = ("list" : Str) then some .list else if x = ("tuple" : Str) then some .tuple else none
theorem tyOf_ok {x : Str} {ty : Ty} (h : tyOf x = some ty) : x = (tyN ty : Str) := by
  unfold tyOf at h
  repeat' (split at h; · rename_i e; cases h; exact e)
  cases h
theorem bltOf_ok {x : Str} {f : Blt} (h : bltOf x = some f) : x = (bltN f : Str) := by
  unfold bltOf at h
  repeat' (split at h; · rename_i e; cases h; exact e)
  cases h
def fnOfT (t : TC) (x : Str) : Option (String × Nat) := (t.fs.find? fun p => decide (p.1 = x)).map (·.2)
def cnOf (t : TC) (x : Str) : Option D := (t.cns.find? fun p => decide (p.1 = x)).map (·.2)
/-- the comprehension's own names and their places -/
def ownOf (N : List Str) (sc : Scope) : List (Str × Nat) := sc.names.filterMap fun y => match y.2 with
  | .local => (N.findIdx? fun z => decide (z = y.1)).map fun i => (y.1, i)
  | .cell => (N.findIdx? fun z => decide (z = y.1)).map fun i => (y.1, i)
  | _ => none
/-- a target of plain local names -/
def trPat : Nat → TC → Expr → Option Pat
  | 0, _, _ => none
  | n + 1, t, x => match x with
    | .Name y _ => if isLoc t y then (t.N.findIdx? fun z => decide (z = y)).map .nm else none
    | .Tuple [a, b] _ _ => match trPat n t a, trPat n t b with
      | some p, some q => some (.p2 p q)
      | _, _ => none
    | _ => none
def trIfs (f : Expr → Option E) : List Expr → Option E
  | [] => some (.con (.bool true))
  | [i] => f i
  | _ => none
def TC.blk (t : TC) (scope : Scope) : TC := { t with sc := relS scope t.sc, lam := false }
def TC.lm (t : TC) (scope : Scope) : TC := { t with sc := scope, lam := false }
def isTupE : Expr → Bool
  | .Tuple .. => true
  | _ => false
def trX : Nat → TC → Md → Expr → Option E
  | 0, _, _, _ => none
  | n + 1, t, .test, x => (match x with
    | .UnaryOp .Not a _ => (trX n t .test a).map .not
    | .BoolOp .And vs _ => trBool .and (trX n t .test) vs
    | .BoolOp .Or vs _ => trBool .or (trX n t .test) vs
    | .Compare a [op] [b] _ => if behindInMarks op b then none else match trX n t .val a, trX n t .val b with
      | some ea, some eb => some (.cmp (copOf op) ea eb)
      | _, _ => none
    | .Compare a [op, op'] [b, d] _ => if lastMarks [op, op'] [b, d] then none else match trX n t .val a, trX n t .val b, trX n t .val d with
      | some ea, some eb, some ed => some (.cmp2 (copOf op) (copOf op') ea eb ed)
      | _, _, _ => none
    | x => if plainTest x then trX n t .val x else none)
  | n + 1, t, .peek, x => (match x with
    | .Name y _ => (slot t y).map .rd
    | x => trX n t .val x)
  | n + 1, t, .val, x => (match x with
    | .Constant (.int i) _ _ => some (.con (.int i))
    | .Constant (.bool i) _ _ => some (.con (.bool i))
    | .Constant .none _ _ => some (.con .none)
    | .Constant (.str i) _ _ => some (.con (.str i))
    | .Name y _ => (match slot t y with
      | some i => some (.var i)
      | none => if isGl t y && !decide (y = ("__debug__" : Str)) then (cnOf t y).map .con else none)
    | .BinOp a op b _ => (match opOf op, trX n t .val a, trX n t .val b with
      | some o, some ea, some eb => some (.bin o ea eb)
      | _, _, _ => none)
    | .UnaryOp .USub a _ => (trX n t .val a).map .neg
    | .UnaryOp .Not a _ => (trX n t .val a).map .not
    | .BoolOp .And vs _ => trBool .and (trX n t .val) vs
    | .BoolOp .Or vs _ => trBool .or (trX n t .val) vs
    | .Compare a [op] [b] _ => if behindInMarks op b then none else (match trX n t .val a, trX n t .val b with
      | some ea, some eb => some (.cmp (copOf op) ea eb)
      | _, _ => none)
    | .Compare a [op, op'] [b, d] _ => if lastMarks [op, op'] [b, d] then none else (match trX n t .val a, trX n t .val b, trX n t .val d with
      | some ea, some eb, some ed => some (.cmp2 (copOf op) (copOf op') ea eb ed)
      | _, _, _ => none)
    | .IfExp c a b _ => (match trX n t .test c, trX n t .val a, trX n t .val b with
      | some ec, some ea, some eb => some (.ife ec ea eb)
      | _, _, _ => none)
    | .Tuple es _ _ => (trL (trX n t .val) es).map .tup
    | .List es _ => (trL (trX n t .val) es).map .lst
    | .Subscript a (.Slice none none (some (.UnaryOp .USub (.Constant (.int 1) _ _) _)) _) _ => (trX n t .peek a).map .rev
    | .Subscript a (.Slice lo hi none _) _ => (match trX n t .peek a, (match lo with
        | none => some (.con .none)
        | some l => (trX n t .val l).bind fun el => if isNone el then none else some el), (match hi with
        | none => some (.con .none)
        | some l => (trX n t .val l).bind fun el => if isNone el then none else some el) with
      | some ea, some el, some eh => some (.sli ea el eh)
      | _, _, _ => none)
    | .Subscript a i _ => if notSlice i then (match trX n t .peek a, trX n t .val i with
      | some ea, some ei => some (.idx ea ei)
      | _, _ => none) else none
    | .Call (.Name f _) (a :: es) [] _ => if isGl t f then (
        if f = ("isinstance" : Str) then (match es with
          | [.Name y _] => if isBl t f && isBl t y && notStar a then (match tyOf y, trX n t .val a with
            | some ty, some ea => some (.isi ea ty)
            | _, _ => none) else none
          | _ => none)
        else if f = ("len" : Str) then (if es.isEmpty && isBl t f && notStar a then (trX n t .peek a).map .len else none)
        else if f = ("sorted" : Str) then (if es.isEmpty && isBl t f && notStar a then (trX n t .peek a).map .srt else none)
        else if f = ("_law_told" : Str) then (match a, es with
          | .Lambda ⟨[], [], none, [], [], none, []⟩ body scope _, [] => if t.lam && lamSB t.sc scope then (trX n (t.lm scope) .val body).map .told else none
          | _, _ => none)
        else match bltOf f with
          | some b => if isBl t f then (trL (trX n t .val) (a :: es)).map (.blt b) else none
          | none => (match fnOfT t f with
            | some (g, m) => (match trL (trX n t .val) (a :: es) with
              | some eas => if alen eas = some m ∧ ¬ f = ("__debug__" : Str) then some (.call g eas) else none
              | none => none)
            | none => none)) else none
    | .ListComp elt [⟨tg, iter, ifs, 0⟩] scope _ => if blkC t.N t.sc scope (ownOf t.N scope) && notSet iter then (match trPat n (t.blk scope) tg, trI n t tg iter, trIfs (trX n (t.blk scope) .test) ifs, trX n (t.blk scope) .val elt with
        | some p, some (k, es), some et, some ee => if (pslots p).all fun i => decide (i ∈ (ownOf t.N scope).map (·.2)) then some (.comp ((ownOf t.N scope).map (·.2)) p k es et ee) else none
        | _, _, _, _ => none) else none
    | _ => none)
where
  trI : Nat → TC → Expr → Expr → Option (Ik × E)
    | 0, _, _, _ => none
    | n + 1, t, tg, x => (match x with
      | .Call (.Name f _) args [] _ =>
        if f = ("range" : Str) then (if isBl t f then (match args with
          | [a] => (trL (trX n t .val) [a]).map fun e => (.rng1, e)
          | [a, b] => (trL (trX n t .val) [a, b]).map fun e => (.rng2, e)
          | _ => none) else none)
        else if f = ("zip" : Str) then (if isBl t f && isTupE tg then (match args with
          | [a, b] => (trL (trX n t .val) [a, b]).map fun e => (.zip, e)
          | _ => none) else none)
        else if f = ("enumerate" : Str) then (if isBl t f && isTupE tg then (match args with
          | [a] => (trL (trX n t .val) [a]).map fun e => (.enum, e)
          | _ => none) else none)
        else (trX n t .val x).map fun e => (.lst, e)
      | x => (trX n t .val x).map fun e => (.lst, e))
end Nz

set_option maxHeartbeats 4000000
/-! NzTrOk: what is translated is read by the evaluator (expressions). -/
namespace Nz
open PySem PySem.Spec PyProof.Rows L2 LamX
section
variable {t : TC} {c : Cn} {k : Nat} {X : Cx}
theorem XOk.blk (o : XOk t c k X) (s : Shared) (H : Hp) (scope : Scope) (C : Addr) (cl : List (Str × Addr)) (fp : List Addr) : XOk (t.blk scope) c.shut k (X.blk s H scope (compEnvC scope cl C X.env) fp) where
  N := o.N
  nd := o.nd
  sc := by show _ = relS scope t.sc; rw [← o.sc]; rfl
  K := o.K
  calm := o.calm
  room := o.room
  tk := fun _ _ x => by
    obtain ⟨_, _, _, _, _, _, _, _, _, _, _, _, _, _, _, _, z⟩ := x
    exact z.elim
  fn := o.fn
  cn := o.cn
  blt := o.blt
  told := fun z => by cases z
  ex := o.ex
/-- the lambda's own context -/
theorem XOk.lm (o : XOk t c k X) (A : Around) (outer : List PySem.Env) (s : Shared) (H : Hp) (E : XK) (scope : Scope) (f c' : Addr) (hr : Room k (A.deeper (lamEnv X scope s.heap.objs.size f c'))) : XOk (t.lm scope) { c with W := E } k (lamN X A outer s H E scope f c') where
  N := o.N
  nd := o.nd
  sc := rfl
  K := o.K
  calm := rfl
  room := hr
  tk := L2N.takes_of (E := E) rfl rfl rfl rfl
  fn := o.fn
  cn := o.cn
  blt := o.blt
  told := fun z => by cases z
  ex := o.ex
theorem each_cons {a : Expr} {es : List Expr} {env : PySem.Env} (h : notStar a = true) : assignEach (a :: es) env = (false, assign a env) :: assignEach es env := by
  cases a <;> first | rfl | cases h
theorem pat_star {n : Nat} {t : TC} {x : Expr} {p : Pat} (h : trPat n t x = some p) : notStar x = true := by
  cases n with
  | zero => cases h
  | succ n =>
    unfold trPat at h
    split at h
    · rfl
    · rfl
    · cases h
theorem pat_ok : ∀ (n : Nat) {t : TC} {X : Cx} {K : PySem.W.Frag} {x : Expr} {p : Pat}, X.N = t.N → t.N.Nodup → X.env.scope = t.sc → X.K = K → X.calm = true → trPat n t x = some p → PG X x (gOf K p)
  | 0, _, _, _, _, _, _, _, _, _, _, h => by cases h
  | n + 1, t, X, K, x, p, hN, nd, hs, hK, hc, h => by
    unfold trPat at h
    split at h
    · split at h
      · rename_i y _ q
        obtain ⟨i, h1, h2⟩ := Option.map_eq_some_iff.mp h
        subst h2
        obtain ⟨h3, h4, _⟩ := List.findIdx?_eq_some_iff_getElem.mp h1
        have e : t.N[i] = y := by simpa using h4
        have hl : X.env.scope.names.lookup y = some .local := by
          rw [hs]
          unfold isLoc at q
          split at q
          · assumption
          · cases q
        exact pg_name (by rw [hN]; exact nd) (by rw [hN, List.getElem?_eq_getElem h3, e]) (.inl hl) (.inr hl)
      · cases h
    · split at h
      · rename_i p q h1 h2
        cases h
        subst hK
        exact pg_tup hc (pgs_cons (pat_ok n hN nd hs rfl hc h1) (pgs_cons (pat_ok n hN nd hs rfl hc h2) pgs_nil (by rw [each_cons (pat_star h2)]; rfl)) (by rw [each_cons (pat_star h1)]; rfl)) (by rw [each_cons (pat_star h1), each_cons (pat_star h2)]; rfl) (by rw [each_cons (pat_star h1), each_cons (pat_star h2)]; rfl)
      · cases h
    · cases h
/-- argument lists -/
theorem trL_ok {f : Expr → Option E} (hf : ∀ x e, f x = some e → PE X x (TEv c e)) : ∀ {es : List Expr} {e : E}, trL f es = some e → PA X es (TAv c e) ∧ es.all notStar = true
  | [], e, h => by cases h; exact ⟨sd_nil, rfl⟩
  | a :: r, e, h => by
    unfold trL at h
    split at h
    · rename_i ea er h1 h2 h3
      cases h
      obtain ⟨q1, q2⟩ := trL_ok hf h3
      exact ⟨sd_cons (hf _ _ h2) q1 (star_cons h1), by simp [h1]; simpa using q2⟩
    · cases h
theorem trAnd_ok {f : Expr → Option E} {pos : Pos} (hf : ∀ x e, f x = some e → PE X x (TEv c e)) : ∀ {es : List Expr} {e : E}, trBool .and f es = some e → PE X (.BoolOp .And es pos) (TEv c e)
  | [], e, h => by cases h
  | [a], e, h => pe_one (hf _ _ h)
  | a :: b :: r, e, h => by
    unfold trBool at h
    split at h
    · rename_i ea er h1 h2
      cases h
      exact sd_and (p := pos) (hf _ _ h1) (trAnd_ok hf h2)
    · cases h
theorem trOr_ok {f : Expr → Option E} {pos : Pos} (hf : ∀ x e, f x = some e → PE X x (TEv c e)) : ∀ {es : List Expr} {e : E}, trBool .or f es = some e → PE X (.BoolOp .Or es pos) (TEv c e)
  | [], e, h => by cases h
  | [a], e, h => pe_one (hf _ _ h)
  | a :: b :: r, e, h => by
    unfold trBool at h
    split at h
    · rename_i ea er h1 h2
      cases h
      exact sd_or (p := pos) (hf _ _ h1) (trOr_ok hf h2)
    · cases h
theorem trAndT_ok {f : Expr → Option E} {pos : Pos} (hf : ∀ x e, f x = some e → PT X x (TTv c e)) : ∀ {es : List Expr} {e : E}, trBool .and f es = some e → PW X (.BoolOp .And es pos) (TTv c e)
  | [], e, h => by cases h
  | [a], e, h => pw_and1 (hf _ _ h)
  | a :: b :: r, e, h => by
    unfold trBool at h
    split at h
    · rename_i ea er h1 h2
      cases h
      exact sd_andT (hf _ _ h1) (trAndT_ok hf h2)
    · cases h
theorem trOrT_ok {f : Expr → Option E} {pos : Pos} (hf : ∀ x e, f x = some e → PT X x (TTv c e)) : ∀ {es : List Expr} {e : E}, trBool .or f es = some e → PW X (.BoolOp .Or es pos) (TTv c e)
  | [], e, h => by cases h
  | [a], e, h => pw_or1 (hf _ _ h)
  | a :: b :: r, e, h => by
    unfold trBool at h
    split at h
    · rename_i ea er h1 h2
      cases h
      exact sd_orT (hf _ _ h1) (trOrT_ok hf h2)
    · cases h
theorem cmOk (o : XOk t c k X) (op : CmpOp) : CmOk X c.K (compareOp op) (cmpD (copOf op)) := cmp_ok o.K (by have := o.room.un; omega) op
structure XGood (n : Nat) (t : TC) (c : Cn) (X : Cx) : Prop where
  val : ∀ x e, trX n t .val x = some e → PE X x (TEv c e)
  peek : ∀ x e, trX n t .peek x = some e → PE X x (TPv c e)
  test : ∀ x e, trX n t .test x = some e → PT X x (TTv c e)
  iter : ∀ tg x kk e, trX.trI n t tg x = some (kk, e) → PI X tg x (TIv c kk e)
theorem good_test {n : Nat} (o : XOk t c k X) (ih : XGood n t c X) : ∀ x e, trX (n + 1) t .test x = some e → PT X x (TTv c e) := by
  intro x e h
  unfold trX at h
  split at h
  · obtain ⟨ea, h1, h2⟩ := Option.map_eq_some_iff.mp h
    subst h2
    exact sd_notT (ih.test _ _ h1)
  · exact (trAndT_ok ih.test h).pt
  · exact (trOrT_ok ih.test h).pt
  · split at h
    · cases h
    · rename_i hb
      split at h
      · rename_i ea eb h1 h2
        cases h
        exact sd_cmpT (cmOk o _) (by simpa using hb) (ih.val _ _ h1) (ih.val _ _ h2)
      · cases h
  · split at h
    · cases h
    · rename_i hb
      split at h
      · rename_i ea eb ed h1 h2 h3
        cases h
        exact sd_cmp2T (cmOk o _) (cmOk o _) (by simpa using hb) (ih.val _ _ h1) (ih.val _ _ h2) (ih.val _ _ h3)
      · cases h
  · split at h
    · rename_i hp
      exact sd_test (ih.val _ _ h) (plain_test hp)
    · cases h
theorem good_peek {n : Nat} (o : XOk t c k X) (ih : XGood n t c X) : ∀ x e, trX (n + 1) t .peek x = some e → PE X x (TPv c e) := by
  intro x e h
  unfold trX at h
  split at h
  · obtain ⟨i, h1, h2⟩ := Option.map_eq_some_iff.mp h
    subst h2
    obtain ⟨q1, q2, q3, q4⟩ := slot_ok o h1
    exact sd_rd q1 q2 q3 q4
  · exact sd_peek (ih.val _ _ h)
theorem good_iter {n : Nat} (o : XOk t c k X) (ih : XGood n t c X) : ∀ tg x kk e, trX.trI (n + 1) t tg x = some (kk, e) → PI X tg x (TIv c kk e) := by
  intro tg x kk e h
  unfold trX.trI at h
  have gen : ∀ {x : Expr}, (trX n t .val x).map (fun e => ((.lst, e) : Ik × E)) = some (kk, e) → PI X tg x (TIv c kk e) := fun {x} h => by
    obtain ⟨e1, h1, h2⟩ := Option.map_eq_some_iff.mp h
    cases h2
    exact si_lst o.K (ih.val _ _ h1)
  split at h
  · rename_i f p args pos
    split at h
    · rename_i hf
      subst hf
      split at h
      · rename_i hb
        obtain ⟨g1, g2⟩ := bl_ok o hb
        split at h
        · rename_i a
          obtain ⟨e1, h1, h2⟩ := Option.map_eq_some_iff.mp h
          cases h2
          obtain ⟨q1, q2⟩ := trL_ok ih.val h1
          exact si_rng1 g1 g2 q1 (by rw [star_cons (by simpa using q2)]; rfl)
        · rename_i a b
          obtain ⟨e1, h1, h2⟩ := Option.map_eq_some_iff.mp h
          cases h2
          obtain ⟨q1, q2⟩ := trL_ok ih.val h1
          have q2 : notStar a = true ∧ notStar b = true := by simpa using q2
          exact si_rng2 g1 g2 q1 (by rw [star_cons q2.1, star_cons q2.2]; rfl) (by rw [star_cons q2.2]; rfl)
        · cases h
      · cases h
    · split at h
      · rename_i hf
        subst hf
        split at h
        · rename_i hb
          rw [Bool.and_eq_true] at hb
          obtain ⟨g1, g2⟩ := bl_ok o hb.1
          split at h
          · rename_i a b
            obtain ⟨e1, h1, h2⟩ := Option.map_eq_some_iff.mp h
            cases h2
            obtain ⟨q1, q2⟩ := trL_ok ih.val h1
            have q2' : notStar a = true ∧ notStar b = true := by simpa using q2
            cases tg with
            | Tuple elts kk tpos => exact si_zip o.K g1 g2 q1 (star_cons q2'.1) (star_any (by simpa using q2'.2))
            | _ => exact absurd hb.2 (by simp [isTupE])
          · cases h
        · cases h
      · split at h
        · rename_i hf
          subst hf
          split at h
          · rename_i hb
            rw [Bool.and_eq_true] at hb
            obtain ⟨g1, g2⟩ := bl_ok o hb.1
            split at h
            · rename_i a
              obtain ⟨e1, h1, h2⟩ := Option.map_eq_some_iff.mp h
              cases h2
              obtain ⟨q1, q2⟩ := trL_ok ih.val h1
              cases tg with
              | Tuple elts kk tpos => exact si_enum o.K g1 g2 q1 (by rw [star_cons (by simpa using q2)]; rfl)
              | _ => exact absurd hb.2 (by simp [isTupE])
            · cases h
          · cases h
        · exact gen h
  · exact gen h
end
end Nz

set_option maxHeartbeats 8000000
/-! NzTrVal: values. -/
namespace Nz
open PySem PySem.Spec PyProof.Rows L2 LamX
section
variable {t : TC} {c : Cn} {k : Nat} {X : Cx}
theorem fnOfT_ok (o : XOk t c k X) {x : Str} {g : String} {m : Nat} (h : fnOfT t x = some (g, m)) : x = (g : Str) ∧ FnP X.K c.T c.Φ X.prog X.w X.mg X.base k g m := by
  unfold fnOfT at h
  obtain ⟨p, h1, h2⟩ := Option.map_eq_some_iff.mp h
  have hm := List.mem_of_find?_eq_some h1
  have he := List.find?_some h1
  have he : p.1 = x := by simpa using he
  obtain ⟨q1, q2⟩ := o.fn p hm
  rw [h2] at q1 q2
  exact ⟨by rw [← he, q1], q2⟩
theorem cnOf_ok (o : XOk t c k X) {x : Str} {d : D} (h : cnOf t x = some d) : ∃ u v, X.mg x = some u ∧ RelV v u ∧ ∀ G, Dr c.K G v d := by
  unfold cnOf at h
  obtain ⟨p, h1, h2⟩ := Option.map_eq_some_iff.mp h
  have hm := List.mem_of_find?_eq_some h1
  have he := List.find?_some h1
  have he : p.1 = x := by simpa using he
  have q := o.cn p hm
  rw [he, h2] at q
  exact q
theorem good_val {n : Nat} (hG : ∀ t c k X, XOk t c k X → XGood n t c X) (o : XOk t c k X) : ∀ x e, trX (n + 1) t .val x = some e → PE X x (TEv c e) := by
  have ih := hG t c k X o
  intro x e h
  unfold trX at h
  split at h
  · cases h; exact sd_int
  · cases h; exact sd_bl
  · cases h; exact sd_non
  · cases h; exact sd_str
  · -- a name
    split at h
    · rename_i i h1
      cases h
      obtain ⟨q1, q2, q3, q4⟩ := slot_ok o h1
      exact sd_var q1 q2 q3 q4
    · split at h
      · rename_i q
        obtain ⟨d, h1, h2⟩ := Option.map_eq_some_iff.mp h
        subst h2
        simp only [Bool.and_eq_true, Bool.not_eq_true', decide_eq_false_iff_not] at q
        obtain ⟨u, v, q1, q2, q3⟩ := cnOf_ok o h1
        exact sd_glob (gl_ok o q.1) q1 q2 q3 (by simpa using q.2)
      · cases h
  · -- a op b
    split at h
    · rename_i op ea eb h1 h2 h3
      cases h
      exact sd_bin (bin_ok o.K h1) (ih.val _ _ h2) (ih.val _ _ h3)
    · cases h
  · obtain ⟨ea, h1, h2⟩ := Option.map_eq_some_iff.mp h
    subst h2
    exact sd_neg (ih.val _ _ h1)
  · obtain ⟨ea, h1, h2⟩ := Option.map_eq_some_iff.mp h
    subst h2
    exact sd_not (ih.val _ _ h1)
  · exact trAnd_ok ih.val h
  · exact trOr_ok ih.val h
  · split at h
    · cases h
    · rename_i hb
      split at h
      · rename_i ea eb h1 h2
        cases h
        exact sd_cmp (cmOk o _) (by simpa using hb) (ih.val _ _ h1) (ih.val _ _ h2)
      · cases h
  · split at h
    · cases h
    · rename_i hb
      split at h
      · rename_i ea eb ed h1 h2 h3
        cases h
        exact sd_cmp2 (cmOk o _) (cmOk o _) (by simpa using hb) (ih.val _ _ h1) (ih.val _ _ h2) (ih.val _ _ h3)
      · cases h
  · split at h
    · rename_i ec ea eb h1 h2 h3
      cases h
      exact sd_ife (ih.test _ _ h1) (ih.val _ _ h2) (ih.val _ _ h3)
    · cases h
  · obtain ⟨ea, h1, h2⟩ := Option.map_eq_some_iff.mp h
    subst h2
    exact sd_tup (trL_ok ih.val h1).1
  · obtain ⟨ea, h1, h2⟩ := Option.map_eq_some_iff.mp h
    subst h2
    exact sd_lst (trL_ok ih.val h1).1
  · obtain ⟨ea, h1, h2⟩ := Option.map_eq_some_iff.mp h
    subst h2
    exact sd_rev o.K (ih.peek _ _ h1)
  · -- a slice
    split at h
    · rename_i ea el eh h1 h2 h3
      cases h
      have part : ∀ {l : Option Expr} {el : E}, (match l with
        | none => some (E.con .none)
        | some l => (trX n t .val l).bind fun el => if isNone el then none else some el) = some el → PO X l (TOv c el) := fun {l el} h => by
        cases l with
        | none => cases h; exact sd_noPart
        | some l =>
          obtain ⟨e1, q1, q2⟩ := Option.bind_eq_some_iff.mp h
          split at q2
          · cases q2
          · rename_i hn
            cases q2
            exact sd_part (by simpa using hn) (ih.val _ _ q1)
      exact sd_sli o.K (ih.peek _ _ h1) (part h2) (part h3)
    · cases h
  · -- an item
    split at h
    · rename_i hs
      split at h
      · rename_i ea ei h1 h2
        cases h
        exact sd_idx o.K (plain_ix hs) (ih.peek _ _ h1) (ih.val _ _ h2)
      · cases h
    · cases h
  · -- a call
    split at h
    · rename_i hg
      split at h
      · rename_i hf
        subst hf
        split at h
        · split at h
          · rename_i hb
            simp only [Bool.and_eq_true] at hb
            obtain ⟨⟨b1, b2⟩, b3⟩ := hb
            split at h
            · rename_i ty ea h1 h2
              cases h
              obtain ⟨g1, g2⟩ := bl_ok o b1
              obtain ⟨g3, g4⟩ := bl_ok o b2
              exact sd_isi (tyOf_ok h1) o.K g1 g2 g3 g4 (ih.val _ _ h2) (star_cons b3)
            · cases h
          · cases h
        · cases h
      · split at h
        · rename_i hf
          subst hf
          split at h
          · rename_i hb
            simp only [Bool.and_eq_true] at hb
            obtain ⟨⟨b1, b2⟩, b3⟩ := hb
            obtain ⟨ea, h1, h2⟩ := Option.map_eq_some_iff.mp h
            subst h2
            obtain ⟨g1, g2⟩ := bl_ok o b2
            have e0 := List.isEmpty_iff.mp b1
            subst e0
            exact sd_len o.K g1 g2 (ih.peek _ _ h1) (star_cons b3)
          · cases h
        · split at h
          · rename_i hf
            subst hf
            split at h
            · rename_i hb
              simp only [Bool.and_eq_true] at hb
              obtain ⟨⟨b1, b2⟩, b3⟩ := hb
              obtain ⟨ea, h1, h2⟩ := Option.map_eq_some_iff.mp h
              subst h2
              obtain ⟨g1, g2⟩ := bl_ok o b2
              have e0 := List.isEmpty_iff.mp b1
              subst e0
              exact sd_srt o.K g1 g2 (ih.peek _ _ h1) (star_cons b3)
            · cases h
          · split at h
            · rename_i hf
              subst hf
              split at h
              · split at h
                · rename_i hl
                  rw [Bool.and_eq_true] at hl
                  obtain ⟨ea, h1, h2⟩ := Option.map_eq_some_iff.mp h
                  subst h2
                  exact (o.told hl.1).rule _ _ _ _ _ _ (by rw [o.sc]; exact lamS_by hl.2) fun A outer s H E f c' hr => (hG _ _ _ _ (o.lm A outer s H E _ f c' hr)).val _ _ h1
                · cases h
              · cases h
            · split at h
              · rename_i b hb
                split at h
                · rename_i hbl
                  obtain ⟨ea, h1, h2⟩ := Option.map_eq_some_iff.mp h
                  subst h2
                  obtain ⟨g1, g2⟩ := bl_ok o hbl
                  obtain ⟨q1, q2⟩ := trL_ok ih.val h1
                  simp only [List.all_cons, Bool.and_eq_true] at q2
                  exact sd_blt (bltOf_ok hb) o.K o.calm g1 g2 q1 (star_cons q2.1) (star_any q2.2)
                · cases h
              · split at h
                · rename_i g m hm
                  split at h
                  · rename_i eas h1
                    split at h
                    · rename_i hc
                      cases h
                      obtain ⟨e1, F⟩ := fnOfT_ok o hm
                      obtain ⟨q1, q2⟩ := trL_ok ih.val h1
                      simp only [List.all_cons, Bool.and_eq_true] at q2
                      exact sd_call e1 F o.K o.room o.tk hc.1 (gl_ok o hg) q1 (by simpa using hc.2) (star_cons q2.1) (star_any q2.2)
                    · cases h
                  · cases h
                · cases h
    · cases h
  · -- a comprehension
    rename_i scope0 pos0
    split at h
    · rename_i hb
      rw [Bool.and_eq_true] at hb
      split at h
      · rename_i p kk es et ee h1 h2 h3 h4
        split at h
        · rename_i hp
          cases h
          have bk : BlkOk X.N X.env.scope scope0 (ownOf t.N scope0) := by rw [o.N, o.sc]; exact blkOk_by hb.1
          refine sd_comp o.calm (by rw [o.N]; exact o.nd) (ih.iter _ _ _ _ h2) bk (fun s H C cl fp => ?_) (fun s H C cl fp => ?_) (fun s H C cl fp => ?_) (by simpa using hp) (not_set hb.2)
          · have q := o.blk s H scope0 C cl fp
            exact pat_ok n q.N q.nd q.sc q.K q.calm h1
          · have q := o.blk s H scope0 C cl fp
            unfold trIfs at h3
            split at h3
            · cases h3; exact st_nil
            · exact st_one ((hG _ _ _ _ q).test _ _ h3)
            · cases h3
          · have q := o.blk s H scope0 C cl fp
            exact (hG _ _ _ _ q).val _ _ h4
        · cases h
      · cases h
    · cases h
  · cases h
theorem good : ∀ (n : Nat) (t : TC) (c : Cn) (k : Nat) (X : Cx), XOk t c k X → XGood n t c X := by
  intro n
  induction n with
  | zero =>
    intro t c k X o
    refine XGood.mk ?_ ?_ ?_ ?_
    · intro x e h; exact absurd h (by unfold trX; simp)
    · intro x e h; exact absurd h (by unfold trX; simp)
    · intro x e h; exact absurd h (by unfold trX; simp)
    · intro tg x kk e h; exact absurd h (by unfold trX.trI; simp)
  | succ n ih =>
    intro t c k X o
    exact XGood.mk (good_val ih o) (good_peek o (ih t c k X o)) (good_test o (ih t c k X o)) (good_iter o (ih t c k X o))
end
end Nz

set_option maxHeartbeats 4000000
/-! NzTrS: statements, translated and read. -/
namespace Nz
open PySem PySem.Spec PyProof.Rows L2 LamX
/-- the slots that are read as values -/
def varsE : E → List Nat
  | .con _ => []
  | .var i => [i]
  | .rd _ => []
  | .bin _ a b => varsE a ++ varsE b
  | .neg a => varsE a
  | .cmp _ a b => varsE a ++ varsE b
  | .cmp2 _ _ a b c => varsE a ++ (varsE b ++ varsE c)
  | .not a => varsE a
  | .and a b => varsE a ++ varsE b
  | .or a b => varsE a ++ varsE b
  | .ife t a b => varsE t ++ (varsE a ++ varsE b)
  | .nil => []
  | .cons a as => varsE a ++ varsE as
  | .tup as => varsE as
  | .lst as => varsE as
  | .dic => []
  | .idx a i => varsE a ++ varsE i
  | .sli a lo hi => varsE a ++ (varsE lo ++ varsE hi)
  | .rev a => varsE a
  | .call _ as => varsE as
  | .blt _ as => varsE as
  | .met _ a as => varsE a ++ varsE as
  | .isi a _ => varsE a
  | .len a => varsE a
  | .srt a => varsE a
  | .ssort a => varsE a
  | .slen a => varsE a
  | .comp _ _ _ a b c => varsE a ++ (varsE b ++ varsE c)
  | .told a => varsE a
def frzS (mu : List Nat) (e : E) (s : S) : S := match mu.filter fun i => decide (i ∈ varsE e) with
  | [] => s
  | is => .seq (.frz is) s
def XF : Nat := 60
/-- does the comprehension's list go to the name in one step -/
def swB (sc scope : Scope) (y : Str) (p v : Nat) : Bool := decide (sc.kind = .function) && decide (sc.names.lookup y = some .local) && (p == v) && !(scope.names.any fun x => x.1 == y && (x.2 == .local || x.2 == .cell))
def locs (t : TC) (x : Str) : Option Nat := match t.sc.names.lookup x with
  | some .local => t.N.findIdx? fun y => decide (y = x)
  | some .cell => t.N.findIdx? fun y => decide (y = x)
  | _ => none
/-- a target of names, cells too -/
def trPatS : Nat → TC → Expr → Option Pat
  | 0, _, _ => none
  | n + 1, t, x => match x with
    | .Name y _ => (locs t y).map .nm
    | .Tuple [a, b] _ _ => match trPatS n t a, trPatS n t b with
      | some p, some q => some (.p2 p q)
      | _, _ => none
    | _ => none
def notTup : Expr → Bool
  | .Tuple .. => false
  | _ => true
def trBs (f : Stmt → Option S) : List Stmt → Option S
  | [] => some .skip
  | a :: r => match f a, trBs f r with
    | some x, some y => some (.seq x y)
    | _, _ => none
def parB (t : TC) (x y : Str) (px py : Pos) (a b : Expr) : Bool := decide (t.sc.kind = .function) && isLoc t x && isLoc t y && (px.line == py.line) && !decide (x = y) && notStar a && notStar b && ![a, b].all (foldedForSure 8) && ![a, b].all (constantsAlone 8)
def trS : Nat → TC → List Nat → Stmt → Option S
  | 0, _, _, _ => none
  | n + 1, t, mu, st => match st with
    | .Assign [.Name y py] e pos => (match locs t y with
      | none => none
      | some i => match e with
        | .List es _ => if decide (i ∈ mu) then (trL (trX XF t .val) es).map fun x => frzS mu (.lst x) (.asgO i (.lst x)) else (trX XF t .val e).map fun x => frzS mu x (.asg i x)
        | .ListComp elt [⟨tg, iter, ifs, 0⟩] scope cp => if decide (t.sc.kind = .function) then (trX XF t .val (.ListComp elt [⟨tg, iter, ifs, 0⟩] scope cp)).map fun x => frzS mu x (.asg i x) else none
        | _ => if noComp e then (trX XF t .val e).map fun x => frzS mu x (.asg i x) else none)
    | .Assign [.Tuple [.Name x px, .Name y py] kt pt] (.Tuple [a, b] k2 pt2) pos => if parB t x y px py a b then (match locs t x, locs t y, trX XF t .val a, trX XF t .val b with
      | some i, some j, some ea, some eb => some (frzS mu ea (frzS mu eb (.par i j ea eb)))
      | _, _, _, _ => none) else none
    | .Assign [.Tuple [ta, tb] kt pt] e pos => if notTup e && noComp e then (match trPatS 5 t (.Tuple [ta, tb] kt pt), trX XF t .val e with
      | some p, some x => some (frzS mu x (.asgP p x))
      | _, _ => none) else none
    | .Expr (.Call (.Attribute (.Name x p) m ap) [a] [] cp) pos => (match slot t x, trX XF t .val a with
      | some i, some ea => if notStar a && (ap.endLine == cp.line) then (if m = "append" then some (frzS mu ea (.app i ea)) else if m = "extend" then some (frzS mu ea (.ext i ea)) else none) else none
      | _, _ => none)
    | .Expr e pos => if noComp e then (trX XF t .val e).map fun x => frzS mu x (.exp x) else none
    | .Return (some a) pos => (trX XF t .val a).map fun x => frzS mu x (.ret x)
    | .Raise (some (.Call (.Name x p) [.Constant (.str m) j p2] [] pos)) none pos2 => if isGl t x && !decide (x = ("__debug__" : Str)) then (t.exs.find? fun q => decide (q.1 = x)).map fun q => .rse q.2 else none
    | .If test body orelse pos => (match trX XF t .test test, trBs (trS n t mu) body, trBs (trS n t mu) orelse with
      | some e, some a, some b => some (frzS mu e (.ite e a b))
      | _, _, _ => none)
    | .While test body [] pos => (match trX XF t .test test, trBs (trS n t mu) body with
      | some e, some a => some (frzS mu e (.whl e a))
      | _, _ => none)
    | .For tg iter body [] pos => if notSet iter then (match trPatS 5 t tg, trX.trI XF t tg iter, trBs (trS n t mu) body with
      | some p, some (k, e), some a => some (frzS mu e (.for p k e a))
      | _, _, _ => none) else none
    | .Pass _ => some .skip
    | _ => none
/-! ### soundness -/
structure SOk (t : TC) (c : Cn) (k : Nat) (X : Cx) : Prop extends XOk t c k X where
  pa : PassesOwn (model X.prog X.w) X.A X.env X.xe
  ce : ∀ y, X.fn y = true
section
variable {t : TC} {c : Cn} {k : Nat} {X : Cx} {G0 : Hp}
theorem frzS_ok {mu : List Nat} {e : E} {s : S} {st : Stmt} (h : PS X st (TSv c G0 s)) : PS X st (TSv c G0 (frzS mu e s)) := by
  unfold frzS
  split
  · exact h
  · exact ss_frz h
theorem locs_ok (o : SOk t c k X) {x : Str} {i : Nat} (h : locs t x = some i) : X.N[i]? = some x ∧ Loc X.env.scope x := by
  have key : (t.N.findIdx? fun y => decide (y = x)) = some i → X.N[i]? = some x := fun h => by
    obtain ⟨h1, h2, _⟩ := List.findIdx?_eq_some_iff_getElem.mp h
    have e : t.N[i] = x := by simpa using h2
    rw [o.N, List.getElem?_eq_getElem h1, e]
  unfold locs at h
  split at h
  · rename_i q; exact ⟨key h, .inl (by rw [o.sc]; exact q)⟩
  · rename_i q; exact ⟨key h, .inr (by rw [o.sc]; exact q)⟩
  · cases h
theorem patS_star {n : Nat} {x : Expr} {p : Pat} (h : trPatS n t x = some p) : notStar x = true := by
  cases n with
  | zero => cases h
  | succ n =>
    unfold trPatS at h
    split at h
    · rfl
    · rfl
    · cases h
theorem patS_ok (o : SOk t c k X) : ∀ (n : Nat) {x : Expr} {p : Pat}, trPatS n t x = some p → PG X x (gOf c.K p)
  | 0, _, _, h => by cases h
  | n + 1, x, p, h => by
    unfold trPatS at h
    split at h
    · obtain ⟨i, h1, h2⟩ := Option.map_eq_some_iff.mp h
      subst h2
      obtain ⟨q1, q2⟩ := locs_ok o h1
      exact pg_name (by rw [o.N]; exact o.nd) q1 q2 (.inl (o.ce _))
    · split at h
      · rename_i p q h1 h2
        cases h
        have e1 := patS_ok o n h1
        have e2 := patS_ok o n h2
        rw [← o.K] at e1 e2 ⊢
        exact pg_tup o.calm (pgs_cons e1 (pgs_cons e2 pgs_nil (by rw [each_cons (patS_star h2)]; rfl)) (by rw [each_cons (patS_star h1)]; rfl)) (by rw [each_cons (patS_star h1), each_cons (patS_star h2)]; rfl) (by rw [each_cons (patS_star h1), each_cons (patS_star h2)]; rfl)
      · cases h
    · cases h
theorem bk_fn {env : PySem.Env} (h : env.scope.kind = .function) : env.blockKind = .function := by
  unfold PySem.Env.blockKind
  rw [h]; rfl
theorem swaps_lc {elt tg iter : Expr} {ifs : List Expr} {scope : Scope} {cp : Pos} {y : Str} {py : Pos} {l : Nat} {env : PySem.Env} (hk : env.scope.kind = .function) :
    swapsWith (.ListComp elt [⟨tg, iter, ifs, 0⟩] scope cp) (some (.Name y py)) l env = pure (swB env.scope scope y py.line cp.line) := by
  have e : swapsWith (.ListComp elt [⟨tg, iter, ifs, 0⟩] scope cp) (some (.Name y py)) l env = pure (env.blockKind == .function && env.kindOf y == some .local && py.line == cp.line && !(scope.names.any fun (n, k) => n == y && (k == .local || k == .cell))) := rfl
  rw [e, bk_fn hk]
  congr 1
  unfold swB PySem.Env.kindOf
  rw [hk]
  congr 1
  congr 1
  by_cases z : env.scope.names.lookup y = some .local
  · rw [z]; rfl
  · have z2 : (env.scope.names.lookup y == some NameKind.local) = false := beq_eq_false_iff_ne.mpr z
    rw [z2, decide_eq_false z]; rfl
theorem sw_none {tg e : Expr} {env : PySem.Env} (h : notTup e = true) : swappedStores [tg] e env = pure none := by
  cases e <;> first | (cases tg <;> rfl) | cases h
theorem sw_two {a b : Expr} {x y : Str} {px py pt : Pos} {kt k2 pt2} {env : PySem.Env} (hk : env.scope.kind = .function) (hx : env.scope.names.lookup x = some .local) (hy : env.scope.names.lookup y = some .local) (hl : (px.line == py.line) = true) (hn : x ≠ y) (ha : notStar a = true) (hb : notStar b = true)
    (hf : [a, b].all (foldedForSure 8) = false) (hc : [a, b].all (constantsAlone 8) = false) : swappedStores [.Tuple [.Name x px, .Name y py] kt pt] (.Tuple [a, b] k2 pt2) env = pure (some [x, y]) := by
  have kx : env.kindOf x = some NameKind.local := hx
  have ky : env.kindOf y = some NameKind.local := hy
  have hl' : px.line = py.line := by simpa using hl
  unfold swappedStores
  simp [bk_fn hk, kx, ky, hl', hn, Ne.symm hn, List.eraseDups_cons, List.filterMap_cons, hf, hc, Expr.pos]
  rintro (z | z)
  · exfalso; cases a <;> first | (cases z; done) | (cases ha; done)
  · exfalso; cases b <;> first | (cases z; done) | (cases hb; done)
theorem trBs_ok {f : Stmt → Option S} (hf : ∀ st s, f st = some s → PS X st (TSv c G0 s)) : ∀ {sts : List Stmt} {s : S}, trBs f sts = some s → PSs X sts (TSv c G0 s)
  | [], s, h => by cases h; exact ss_nil
  | a :: r, s, h => by
    unfold trBs at h
    split at h
    · rename_i x y h1 h2
      cases h
      exact ss_cons (hf _ _ h1) (trBs_ok hf h2)
    · cases h
/-- name = [..] -/
theorem setComp_ok (o : SOk t c k X) {elt tg iter : Expr} {ifs : List Expr} {scope : Scope} {cp py pos : Pos} {y : Str} {i : Nat} {x : E} (hk : X.env.scope.kind = .function) (hi : X.N[i]? = some y) (hx : Loc X.env.scope y) (h : trX XF t .val (.ListComp elt [⟨tg, iter, ifs, 0⟩] scope cp) = some x) :
    PS X (.Assign [.Name y py] (.ListComp elt [⟨tg, iter, ifs, 0⟩] scope cp) pos) (TSv c G0 (.asg i x)) := by
  have nd : X.N.Nodup := by rw [o.N]; exact o.nd
  cases hb : swB X.env.scope scope y py.line cp.line with
  | false => exact ss_asg nd hi hx (.inl (o.ce y)) ((good XF t c k X o.toXOk).val _ _ h) (by rw [swaps_lc hk, hb])
  | true =>
    have hl : X.env.scope.names.lookup y = some .local := by
      unfold swB at hb
      simp only [Bool.and_eq_true, decide_eq_true_eq] at hb
      exact hb.1.1.2
    have hG := good 59
    have ih := hG t c k X o.toXOk
    change trX (59 + 1) t .val _ = some x at h
    unfold trX at h
    simp only at h
    split at h
    · rename_i hb2
      rw [Bool.and_eq_true] at hb2
      split at h
      · rename_i p kk es et ee h1 h2 h3 h4
        split at h
        · rename_i hp
          cases h
          have bk : BlkOk X.N X.env.scope scope (ownOf t.N scope) := by rw [o.N, o.sc]; exact blkOk_by hb2.1
          refine ss_asgLc o.calm nd hi hl (by rw [swaps_lc hk, hb]) (ih.iter _ _ _ _ h2) bk (fun s H C cl fp => ?_) (fun s H C cl fp => ?_) (fun s H C cl fp => ?_) (by simpa using hp) (not_set hb2.2)
          · have q := o.toXOk.blk s H scope C cl fp
            exact pat_ok 59 q.N q.nd q.sc q.K q.calm h1
          · have q := o.toXOk.blk s H scope C cl fp
            unfold trIfs at h3
            split at h3
            · cases h3; exact st_nil
            · exact st_one ((hG _ _ _ _ q).test _ _ h3)
            · cases h3
          · have q := o.toXOk.blk s H scope C cl fp
            exact (hG _ _ _ _ q).val _ _ h4
        · cases h
      · cases h
    · cases h
theorem few1 {a : Expr} {cp : Pos} {env : PySem.Env} (h : notStar a = true) : ((backTo cp (starEach [a] env)).all (fun x => !x.1) && (backToKw cp (keywordEach [] env)).all (fun x => x.1.isSome) && decide (([a] : List Expr).length + ([] : List Keyword).length + (if ([] : List Keyword).isEmpty then 0 else 1) < 30)) = true := by
  rw [star_cons h]; rfl
theorem exOf_ok (o : SOk t c k X) {x : Str} {q : Str × String} (h : (t.exs.find? fun q => decide (q.1 = x)) = some q) : ExP X.K X.mg x q.2 := by
  have hm := List.mem_of_find?_eq_some h
  have he : q.1 = x := by simpa using List.find?_some h
  rw [← he]
  exact o.ex q hm
theorem raise_ok (o : SOk t c k X) {x m : Str} {cn : String} {j : Nat} {p p2 pos pos2 : Pos} (hg : Gl X x) (hd : (x == ("__debug__" : Str)) = false) (h : ExP X.K X.mg x cn) :
    PS X (.Raise (some (.Call (.Name x p) [.Constant (.str m) j p2] [] pos)) none pos2) (TSv c G0 (.rse cn)) := by
  obtain ⟨e1, e2, e3, e4, e5, B, newId, initId, bmB, e6, e7⟩ := h
  refine PS.imp (L2N.ps_raise o.calm o.tk (L2N.pmk_own e6 e7 e2 e3 (raises_own e4 e5) hg hd)) fun D σ H ⟨ρ, G, S, st, h⟩ => ?_
  have h : WpS c G0 G (.xc cn) D := h
  rw [o.K]
  exact h G H st
theorem sgood (o : SOk t c k X) : ∀ (n : Nat) {mu : List Nat} (st : Stmt) (s : S), trS n t mu st = some s → PS X st (TSv c G0 s)
  | 0, _, _, _, h => by cases h
  | n + 1, mu, st, s, h => by
    have nd : X.N.Nodup := by rw [o.N]; exact o.nd
    have ge := good XF t c k X o.toXOk
    have gb : ∀ {sts : List Stmt} {s : S}, trBs (trS n t mu) sts = some s → PSs X sts (TSv c G0 s) := fun h => trBs_ok (fun st s h => sgood o n st s h) h
    unfold trS at h
    split at h
    · -- name = e
      split at h
      · cases h
      · rename_i i hi
        obtain ⟨q1, q2⟩ := locs_ok o hi
        have pl : ∀ {e : Expr} {py pos : Pos} {x : E}, noComp e = true → trX XF t .val e = some x → PS X (.Assign [.Name _ py] e pos) (TSv c G0 (frzS mu x (.asg i x))) := fun hn hx => frzS_ok (ss_asg nd q1 q2 (.inl (o.ce _)) (ge.val _ _ hx) (no_comp hn))
        split at h
        · split at h
          · obtain ⟨x, h1, h2⟩ := Option.map_eq_some_iff.mp h
            subst h2
            exact frzS_ok (ss_asgO nd q1 q2 (.inl (o.ce _)) (sf_lst (trL_ok ge.val h1).1) (no_comp rfl))
          · obtain ⟨x, h1, h2⟩ := Option.map_eq_some_iff.mp h
            subst h2
            exact pl rfl h1
        · split at h
          · rename_i hk
            obtain ⟨x, h1, h2⟩ := Option.map_eq_some_iff.mp h
            subst h2
            exact frzS_ok (setComp_ok o (by rw [o.sc]; simpa using hk) q1 q2 h1)
          · cases h
        · split at h
          · rename_i hn
            obtain ⟨x, h1, h2⟩ := Option.map_eq_some_iff.mp h
            subst h2
            exact pl hn h1
          · cases h
    · -- x, y = a, b
      split at h
      · rename_i hp
        unfold parB at hp
        simp only [Bool.and_eq_true, Bool.not_eq_true', decide_eq_true_eq, decide_eq_false_iff_not] at hp
        obtain ⟨⟨⟨⟨⟨⟨⟨⟨p1, p2⟩, p3⟩, p4⟩, p5⟩, p6⟩, p7⟩, p8⟩, p9⟩ := hp
        split at h
        · rename_i i j ea eb h1 h2 h3 h4
          cases h
          obtain ⟨q1, _⟩ := locs_ok o h1
          obtain ⟨r1, _⟩ := locs_ok o h2
          have lx := loc_ok o.toXOk p2
          have ly := loc_ok o.toXOk p3
          have hij : i ≠ j := fun z => by
            subst z
            rw [q1] at r1
            exact p5 (Option.some.inj r1)
          exact frzS_ok (frzS_ok (ss_par o.calm nd q1 r1 hij lx ly (ge.val _ _ h3) (ge.val _ _ h4) (star_cons p6) (star_cons p7) (sw_two (by rw [o.sc]; exact p1) lx ly p4 p5 p6 p7 p8 p9)))
        · cases h
      · cases h
    · split at h
      · rename_i hn
        rw [Bool.and_eq_true] at hn
        split at h
        · rename_i p x h1 h2
          cases h
          have ps := patS_ok o 5 h1
          exact frzS_ok (ss_asgP ps (ge.val _ _ h2) (by unfold swapsWithSole; exact no_comp hn.2) (sw_none hn.1) rfl)
        · cases h
      · cases h
    · -- a method
      split at h
      · rename_i i ea h1 h2
        obtain ⟨q1, q2, q3, q4⟩ := slot_ok o.toXOk h1
        split at h
        · rename_i hc
          rw [Bool.and_eq_true] at hc
          split at h
          · rename_i hm
            subst hm
            cases h
            exact frzS_ok (ss_app o.K q1 q2 q3 q4 (ge.val _ _ h2) rfl (few1 hc.1) hc.2 (star_cons hc.1))
          · split at h
            · rename_i hm
              subst hm
              cases h
              exact frzS_ok (ss_ext o.K q1 q2 q3 q4 (ge.val _ _ h2) rfl (few1 hc.1) hc.2 (star_cons hc.1))
            · cases h
        · cases h
      · cases h
    · split at h
      · rename_i hn
        obtain ⟨x, h1, h2⟩ := Option.map_eq_some_iff.mp h
        subst h2
        exact frzS_ok (ss_exp (ge.val _ _ h1) (no_comp hn))
      · cases h
    · obtain ⟨x, h1, h2⟩ := Option.map_eq_some_iff.mp h
      subst h2
      exact frzS_ok (ss_ret (ge.val _ _ h1))
    · split at h
      · rename_i hg
        simp only [Bool.and_eq_true, Bool.not_eq_true', decide_eq_false_iff_not] at hg
        obtain ⟨q, h1, h2⟩ := Option.map_eq_some_iff.mp h
        subst h2
        exact raise_ok o (gl_ok o.toXOk hg.1) (by simpa using hg.2) (exOf_ok o h1)
      · cases h
    · split at h
      · rename_i e a b h1 h2 h3
        cases h
        exact frzS_ok (ss_ite (ge.test _ _ h1) (gb h2) (gb h3))
      · cases h
    · split at h
      · rename_i e a h1 h2
        cases h
        exact frzS_ok (ss_whl o.pa (ge.test _ _ h1) (gb h2))
      · cases h
    · split at h
      · rename_i hs
        split at h
        · rename_i p kk e a h1 h2 h3
          cases h
          exact frzS_ok (ss_for o.pa o.calm (ge.iter _ _ _ _ h2) (patS_ok o 5 h1) (gb h3) (not_set hs))
        · cases h
      · cases h
    · cases h
      exact PS.imp ps_pass fun D σ H ⟨ρ, G, S, st, h⟩ => (show WpS c G0 G (.nx ρ) D from h) σ G H S st fun _ _ e => e
    · cases h
end
end Nz

set_option maxHeartbeats 4000000
/-! NzDef: a def of the text keeps the promise that its tree tells. -/
namespace Nz
open PySem PySem.Spec PyProof.Rows L2 LamX
def entE (n : Nat) (as : List D) : Env := as.map (fun d => some (.val d)) ++ List.replicate (n - as.length) none
theorem start_ste {K : PySem.W.Frag} {T : List (Addr × Str)} {H : Hp} {N : List Str} {vs : List V} {ds : List D} {G : Hp} (sb : Sub G H) (hnt : NoT G) (tb : Tabs T H) (a : DrA K G vs ds) : Ste K T H (entE N.length ds) (L2.start N vs) G H where
  sub := sb
  nt := hnt
  tb := tb
  len := by unfold entE L2.start; simp [a.length]
  val := fun i d e => by
    unfold entE at e
    by_cases h : i < ds.length
    · rw [List.getElem?_append_left (by simpa using h), List.getElem?_map] at e
      rw [List.getElem?_eq_getElem h] at e
      have e : (some (some (Sl.val ds[i])) : Option (Option Sl)) = some (some (.val d)) := e
      cases e
      obtain ⟨v, h1, h2⟩ := a.get i (List.getElem?_eq_getElem h)
      refine ⟨v, ?_, h2⟩
      unfold L2.start
      have hl : i < vs.length := by rw [a.length]; exact h
      rw [List.getElem?_append_left (by simpa using hl), List.getElem?_map, h1]; rfl
    · rw [List.getElem?_append_right (by simpa using h), List.getElem?_replicate] at e
      split at e <;> cases e
  own := fun i d e => by
    unfold entE at e
    by_cases h : i < ds.length
    · rw [List.getElem?_append_left (by simpa using h), List.getElem?_map, List.getElem?_eq_getElem h] at e
      cases e
    · rw [List.getElem?_append_right (by simpa using h), List.getElem?_replicate] at e
      split at e <;> cases e
  dis := fun i j d d' e _ _ => by
    exfalso
    unfold entE at e
    by_cases h : i < ds.length
    · rw [List.getElem?_append_left (by simpa using h), List.getElem?_map, List.getElem?_eq_getElem h] at e
      cases e
    · rw [List.getElem?_append_right (by simpa using h), List.getElem?_replicate] at e
      split at e <;> cases e
/-- what a run wishes, told of the statement -/
theorem run_wps {c : Cn} {G H : Hp} {Q : VK} {n : Nat} {b : S} {ds : List D} (tb : Stp c.T G c.H0 G H) (h : Wp c.K c.T c.W (run c.Φ n b ds) G c.H0 Q) : WpS c G G (exS c.Φ b (entE n ds)) { nx := fun _ H' => Q .non H', rt := Q } := by
  unfold run at h
  change Wp c.K c.T c.W (match exS c.Φ b (entE n ds) with
    | .nx _ => .ok .none
    | .rt d => .ok d
    | .xc c => .exc c
    | .er => .err) G c.H0 Q at h
  cases e : exS c.Φ b (entE n ds) with
  | nx ρ' => rw [e] at h; exact fun σ' G' H' _ st _ => h G' H' .non st .non
  | rt d => rw [e] at h; exact fun G' H' v st dr => h G' H' v st dr
  | xc x => rw [e] at h; exact fun G' H' st => h G' H' st
  | er => rw [e] at h; exact h
/-- what is given of a def's surroundings, for all defs alike -/
structure Srr (K : PySem.W.Frag) (T : List (Addr × Str)) (Φ : String → List D → R D) (P : Program) (w : World) (mg : Str → Option Value) (base : Heap) (k : Nat) (t : TC) : Prop where
  fn : ∀ p ∈ t.fs, p.1 = (p.2.1 : Str) ∧ FnP K T Φ P w mg base k p.2.1 p.2.2
  cn : ∀ p ∈ t.cns, ∃ u v, mg p.1 = some u ∧ RelV v u ∧ ∀ G, Dr K G v p.2
  blt : ∀ x ∈ t.bl, mg x = none
  ex : ∀ p ∈ t.exs, ExP K mg p.1 p.2
variable {K : PySem.W.Frag} {T : List (Addr × Str)} {Φ : String → List D → R D} {P : Program} {w : World} {mg : Str → Option Value} {base : Heap} {k : Nat}
theorem fnOk_of (j : Nat) {f : String} {params : Arguments} {body : List Stmt} {sc : Scope} {fd : FuncData} {ps N : List Str} {t : TC} {mu : List Nat} {s : S}
    (F : FunD K (f : Str) (f : Str) params body sc [] [] (He.ga K (f : Str)) fd) (sr : Srr K T Φ P w mg base k t) (hN : t.N = N) (hsc : t.sc = sc) (S : FnScope N ps sc)
    (tr : trBs (trS 40 t mu) body = some s)
    (told : t.lam = true → ∀ (A : Around) (outer : List PySem.Env) (s : Shared) (H : Hp) (E : XK) (cdv : Value), PySem.W.codeIn K cdv (f : Str) = true → fd.code = cdv → Room (k + j) (A.deeper (envOfC (f : Str) sc s.heap.objs.size (He.ga K (f : Str)) cdv)) →
      ToldP (cxOf (L2N.CX P w) P w K mg base N (f : Str) sc (He.ga K (f : Str)) cdv A outer s H E) ⟨K, T, Φ, H, E⟩ k)
    (spec : ∀ ds : List D, ds.length = ps.length → Φ f ds ≠ .err → run Φ N.length s ds = Φ f ds) :
    FnOk P w K mg base (L2N.CX P w) (k + j + 1) (He.ga K (f : Str)) fd ps (spP K T Φ f ps.length) := by
  obtain ⟨oc, od, dV, kV, doc, pm, an, cdv, ct, osl, rfl, lk, hcd, _, _⟩ := F.ex
  refine fn_of lk hcd S (fun vs H Q E h => h.1) fun A outer s0 H vs Q E hr h => ?_
  obtain ⟨hl, G, ds, sb, hnt, tb, da, h⟩ := h
  have o : SOk t ⟨K, T, Φ, H, E⟩ k (cxOf (L2N.CX P w) P w K mg base N (f : Str) sc (He.ga K (f : Str)) cdv A outer s0 H E) := by
    refine { N := hN.symm, nd := by rw [hN]; exact S.nd, sc := hsc.symm, K := rfl, calm := rfl, room := hr.mono (Nat.le_add_right k j), tk := L2N.takes_of (E := E) rfl rfl rfl rfl, fn := sr.fn, cn := sr.cn, blt := sr.blt, told := fun hl => told hl A outer s0 H E cdv hcd rfl hr, ex := sr.ex, pa := passes_of (K := fun e s'' => L2N.CX P w outer H s0 E e s'') rfl, ce := fun _ => rfl }
  refine ⟨_, trBs_ok (G0 := G) (fun st s h => sgood o 40 st s h) tr, entE N.length ds, G, start_ste sb hnt tb da, .refl sb tb, ?_⟩
  refine run_wps (c := ⟨K, T, Φ, H, E⟩) (.refl sb tb) ?_
  show Wp K T E (run Φ N.length s ds) G H Q
  by_cases e : Φ f ds = .err
  · rw [e] at h; exact h.elim
  · rw [spec ds (by rw [← da.length]; exact hl) e]; exact h
theorem fnP_of (j : Nat) {f : String} {params : Arguments} {body : List Stmt} {sc : Scope} {fd : FuncData} {ps N : List Str} {t : TC} {mu : List Nat} {s : S}
    (F : FunD K (f : Str) (f : Str) params body sc [] [] (He.ga K (f : Str)) fd) (sr : Srr K T Φ P w mg base k t) (hN : t.N = N) (hsc : t.sc = sc) (S : FnScope N ps sc) (gl : mg (f : Str) = some (.ref (He.ga K (f : Str))))
    (hb : ∀ (kV doc pm : Value) (an : Option Addr) (cdv ct : Value) (us : List Value), us.length = ps.length → bindArgs (PySem.W.fnOf (f : Str) (f : Str) params body sc .none kV doc pm an cdv ct) ⟨us, []⟩ = pure (ps.zip us))
    (tr : trBs (trS 40 t mu) body = some s)
    (told : t.lam = true → ∀ (A : Around) (outer : List PySem.Env) (s : Shared) (H : Hp) (E : XK) (cdv : Value), PySem.W.codeIn K cdv (f : Str) = true → fd.code = cdv → Room (k + j) (A.deeper (envOfC (f : Str) sc s.heap.objs.size (He.ga K (f : Str)) cdv)) →
      ToldP (cxOf (L2N.CX P w) P w K mg base N (f : Str) sc (He.ga K (f : Str)) cdv A outer s H E) ⟨K, T, Φ, H, E⟩ k)
    (spec : ∀ ds : List D, ds.length = ps.length → Φ f ds ≠ .err → run Φ N.length s ds = Φ f ds) :
    FnP K T Φ P w mg base (k + j + 1) f ps.length :=
  ⟨⟨fd, ps, fnOk_of j F sr hN hsc S tr told spec, F.bindsN hb⟩, gl, F.kp⟩
end Nz

set_option maxHeartbeats 4000000
/-! NzHot: while an exception is handled: the end of a list's iterator, sum, a list comprehension, isinstance. -/
namespace Nz
open PySem PySem.Spec PyProof.Rows L2 HotX L2H
section
variable {prog : Program} {w : World} {A : Around} {E : Value → Shared → Prop} {s : Shared}
theorem pyNext_list_end_hot {it l x1 : Addr} {i : Nat} {items} {Q : Option Value → Shared → Prop} (hot : HotAt A x1 s.heap) (hne : x1 ≠ it) (hit : s.heap.IsListIter it l i) (hl : s.heap.IsList l items) (hx : items[i]? = none)
    (hQ : ∀ h', Heap.ExtBut it s.heap h' → Q none { s with heap := h' }) : wpAny (model prog w) A (pyNext (.ref it)) Q E s := by
  obtain ⟨o, ho, hc, hd⟩ := id hit
  obtain ⟨ol, hol, _, nl, hdl⟩ := hl
  obtain ⟨hh, o1, vs1, h1, d1, c1⟩ := hot
  unfold pyNext
  refine wpAny_bind (wpAny_attempt (wpAny_callSpecial?_slot (name := Str.ofString "__next__") hit.typeIs slot_listiter_next
    (wpAny_call_entry slot_listiter_next hit.typeIs entry_listiter_next ?_ (args_listiter_next _))))
  show wpAny _ _ (field (.ref it) 0 >>= _) _ _ s
  refine wpAny_bind (wpAny_field ho hd (x := .ref l) rfl ?_)
  show wpAny _ _ (if (Value.ref l == Value.none) = true then _ else _) _ _ s
  rw [if_neg (show ¬ ((Value.ref l == Value.none) = true) from Bool.false_ne_true)]
  show wpAny _ _ (field (.ref it) 1 >>= _) _ _ s
  refine wpAny_bind (wpAny_field ho hd (x := .int i 0) rfl ?_)
  show wpAny _ _ (seqItems? (.ref l) >>= _) _ _ s
  refine wpAny_bind (wpAny_seqItems hol hdl ?_)
  simp only [Int.toNat_natCast, hx]
  refine wpAny_bind (wpAny_rule (wpAny_bind (wpAny_setField ho hd (by simp) ?_)))
  show wpAny _ _ (newExc (.type "StopIteration") [] >>= _) _ _ _
  refine wpAny_bind ?_
  simp only [newExc, newTuple]
  refine wpAny_bind (wpAny_newObj_type ?_ (by size_fits))
  refine wpAny_bind (m := firstArgMember _ _) (wpAny_of_eq (a := Value.none) (by first | rfl | (simp only [firstArgMember]; rfl)) ?_)
  refine wpAny_newObj_type ?_ (by size_fits)
  have k1 := (Heap.get?_update_other s.heap (Obj.mapFields fun vs => vs.setIfInBounds 0 Value.none) (Ne.symm hne)).trans h1
  refine raiseNew_hot ⟨hh, o1, vs1, Heap.get?_push_of_some _ (Heap.get?_push_of_some _ k1), d1, c1⟩ (Nat.ne_of_lt (Heap.lt_size (Heap.get?_push_of_some _ k1))) (Heap.get?_push_size _ rfl) rfl (by first | (simp; done) | (simp; omega) | (simp only [Array.size_append]; simp; omega)) ?_
  refine wpAny_bind (wpAny_isInstance (T := "StopIteration") (b := true) ⟨_, Heap.get?_update_self _ (Heap.get?_push_size _ rfl) rfl, rfl⟩ isSubtype_stop ?_)
  refine wpAny_pure (hQ _ fun b o hb e => ?_)
  have e1 := (Heap.get?_update_other s.heap (Obj.mapFields fun vs => vs.setIfInBounds 0 Value.none) (Ne.symm hb)).trans e
  have e2 := Heap.get?_push_of_some { cls := Value.type "tuple", data := Data.seq #[] } e1
  refine (Heap.get?_update_other _ _ (Nat.ne_of_gt (Heap.lt_size e2))).trans (Heap.get?_push_of_some _ e2)
theorem hot_keep {x1 : Addr} {h h' : Heap} (k : ∀ o, h.get? x1 = some o → h'.get? x1 = some o) (hot : HotAt A x1 h) : HotAt A x1 h' := by
  obtain ⟨hh, o1, vs1, h1, d1, c1⟩ := hot
  exact ⟨hh, o1, vs1, k _ h1, d1, c1⟩
theorem walks_list_hot (I ax x1 : Addr) (hne : ax ≠ I) (hx : x1 ≠ I) (items : Array Value) :
    Walks prog w A I [I, ax, x1] [I] items.size (fun i v => items[i]? = some v) (fun i h => HotAt A x1 h ∧ h.IsListIter I ax i ∧ h.IsList ax items) where
  sub := fun b hb => by simp at hb; simp [hb]
  frame := fun _ _ _ st hk => ⟨hot_keep (fun o e => hk x1 (by simp) o e) st.1, st.2.1.at fun o e => hk I (by simp) o e, st.2.2.at fun o e => hk ax (by simp) o e⟩
  item := fun i s Q E hi st hQ => by
    refine wpAny_pyNext_list_item st.2.1 st.2.2 (x := items[i]) (by simp [hi]) fun h' hit' hs' => ?_
    exact hQ _ h' s.toks (by simp [hi]) ⟨hot_keep (fun o e => hs'.extBut _ o hx e) st.1, hit', st.2.2.extBut hs'.extBut hne⟩ fun b o hb e => hs'.extBut b o (fun h => hb (by simp [h])) e
  done := fun s Q E st hQ => pyNext_list_end_hot st.1 hx st.2.1 st.2.2 (by simp) fun h' he' => hQ h' s.toks fun b o hb e => he' b o (fun h => hb (by simp [h])) e
  self := fun _ _ _ _ st hQ => wpAny_pyIter_listiter st.2.1 hQ
theorem sum_hot {l x1 : Addr} {its : List Value} {ns : List Int} {Q : Value → Shared → Prop} (hot : HotAt A x1 s.heap) (hl : s.heap.IsList l its.toArray) (hi : IntsAre its ns)
    (h : ∀ h' tk t', (∀ b o, s.heap.get? b = some o → h'.get? b = some o) → Q (.int ns.sum t') { s with heap := h', toks := tk }) : wpAny (model prog w) A (call (.builtin "sum") [.ref l]) Q E s := by
  obtain ⟨xs, e⟩ := hi.allInts.items
  have hn : numsOf (intItems xs).toList = ns := by rw [← e]; exact hi.numsOf
  rw [nums_intItems] at hn
  rw [e] at hl
  refine call_sum_walkG (iter_intList hl fun s₂ e st hfp hlI => ?_)
  subst e
  have hx : x1 < s.heap.objs.size := by obtain ⟨_, _, _, h1, _⟩ := hot; exact Heap.lt_size h1
  have hot2 : HotAt A.in1 x1 (s.heap.push { cls := .type "list_iterator", data := .fields #[.ref l, .int 0 0] }) := by
    obtain ⟨hh, o1, vs1, h1, d1, c1⟩ := hot
    exact ⟨hh, o1, vs1, Heap.get?_push_of_some _ h1, d1, c1⟩
  refine ⟨_, _, _, _, _, _, numAt xs, rfl, walks_list_hot (A := A.in1) _ l x1 hlI (Nat.ne_of_lt hx) (intItems xs), ⟨hot2, st⟩, fun b hb => ?_, (fun _ _ => intItems_at), fun h' tk t' hk => ?_⟩
  · rcases List.mem_cons.mp hb with rfl | hb
    · exact hfp _ (by simp)
    · rcases List.mem_cons.mp hb with rfl | hb
      · exact hfp _ (by simp)
      · have e : b = x1 := by simpa using hb
        subst e
        show _ < (s.heap.push _).objs.size
        rw [Heap.size_push]
        exact Nat.lt_succ_of_lt hx
  · have := h h' tk t' (old_kept hk)
    have e2 : preSum (numAt xs) (intItems xs).size = ns.sum := by
      have z : (intItems xs).size = xs.size := by simp [intItems]
      rw [z, preSum_eq, List.take_of_length_le (by simp), hn]
    rw [e2]
    exact this
end
/-! ### a list comprehension over a list -/
structure TurnQ (P : Program) (w : World) (K : PySem.W.Frag) (tg : Expr) (J : It) (fp : List Addr) (it : Addr) (tn : Nat → Heap → Prop) : Prop where
  mem : it ∈ fp
  obj : ∀ i h, tn i h → ∀ b ∈ fp, ∃ o, h.get? b = some o ∧ ∀ v, o.data ≠ .cell v
  keep : ∀ i h h', tn i h → (∀ b ∈ fp, ∀ o, h.get? b = some o → h'.get? b = some o) → tn i h'
  item : ∀ (X : Cx), X.prog = P → X.w = w → X.K = K → ∀ (i : Nat) (pins : List (Addr × Obj)) (s : Shared) (σ : L2.St) (H : Hp) (E : Value → Shared → Prop), Inv X pins σ H s → (∀ b ∈ fp, FpOk X pins H b) → tn i s.heap → J.go i H →
    wpAny (model P w) X.A (pyNext (.ref it)) (fun r s1 => ∃ u, r = some u ∧
      wpAny (model P w) X.A (letOwnedTupleGo tg (.ref it) u) (fun _ s2 => ∃ x H', Inv X pins σ H' s2 ∧ RelV x u ∧ J.yld i H x H' ∧ tn (i + 1) s2.heap ∧ ∀ b ∈ fp, H' b = none) E s1) E s
  done : ∀ (X : Cx), X.prog = P → X.w = w → X.K = K → ∀ (x1 : Addr) (i : Nat) (pins : List (Addr × Obj)) (s : Shared) (σ : L2.St) (H : Hp) (E : Value → Shared → Prop), HotAt X.A x1 s.heap → x1 ∉ fp → Inv X pins σ H s → (∀ b ∈ fp, FpOk X pins H b) → tn i s.heap → J.stop i H →
    wpAny (model P w) X.A (pyNext (.ref it)) (fun r s1 => r = none ∧ Inv X pins σ H s1) E s
  self : ∀ (A : Around) (i : Nat) (s : Shared) (Q : Value → Shared → Prop) (E : Value → Shared → Prop), tn i s.heap → Q (.ref it) s → wpAny (model P w) A (pyIter (.ref it)) Q E s
theorem turn_listQ {P : Program} {w : World} {K : PySem.W.Frag} {tg : Expr} (a it : Addr) : TurnQ P w K tg (Itl K a) [it] it (fun i h => h.IsListIter it a i) where
  mem := by simp
  obj := fun i h st b hb => by
    have e : b = it := by simpa using hb
    subst e
    obtain ⟨o, e, c, d⟩ := st
    exact ⟨o, e, fun v z => by rw [d] at z; cases z⟩
  keep := fun i h h' st k => st.at fun o e => k it (by simp) o e
  item := by
    intro X hP hw hK i pins s σ H E I hf st hg
    subst hP hw hK
    obtain ⟨xs, x, hq, hx⟩ := hg
    obtain ⟨its, rv, p, hz⟩ := I.list hq
    obtain ⟨u, hu, ru⟩ := rv.get hx
    obtain ⟨f0, f1, f2, f3, f4, f5⟩ := hf it (by simp)
    refine wpAny_pyNext_list_item st p.isList (x := u) (by simpa using hu) fun h' st' sb => ?_
    have I1 : Inv X pins σ H { s with heap := h' } := I.turned (t' := s.toks) (fun b o hb e => (sb.2 b hb).trans e) f0 f1 f3 f4 f5
    obtain ⟨o, e, c, d⟩ := id st'
    exact ⟨u, rfl, go_of (s := { s with heap := h' }) e c d (by decide) ⟨x, H, I1, ru, ⟨rfl, fun ys hy => by rw [I.list_inj hy hq]; exact hx⟩, st', fun b hb => (hf b hb).1⟩⟩
  done := by
    intro X hP hw hK x1 i pins s σ H E hot hn I hf st hg
    subst hP hw hK
    obtain ⟨xs, hq, hx⟩ := hg
    obtain ⟨its, rv, p, hz⟩ := I.list hq
    obtain ⟨f0, f1, f2, f3, f4, f5⟩ := hf it (by simp)
    have hl := rv.length
    exact pyNext_list_end_hot hot (by simpa using hn) st p.isList (by simp; omega) fun h' eb => ⟨rfl, I.turned (t' := s.toks) (fun b o hb e => eb b o hb e) f0 f1 f3 f4 f5⟩
  self := fun _ _ _ _ _ st h => wpAny_pyIter_listiter st h
def PIEQ (X : Cx) (pins : List (Addr × Obj)) (σ : L2.St) (tg : Expr) (R : It → Hp → Prop) (itv : Value) (s2 : Shared) : Prop :=
  ∃ (it : Addr) (fp : List Addr) (tn : Nat → Heap → Prop) (J : It) (H' : Hp), itv = .ref it ∧ Inv X pins σ H' s2 ∧ TurnQ X.prog X.w X.K tg J fp it tn ∧ tn 0 s2.heap ∧ (∀ b ∈ fp, FpOk X pins H' b) ∧ R J H'
structure PIQ (X : Cx) (tg iter : Expr) (wi : TI) : Prop where
  run : ∀ (pins : List (Addr × Obj)) (s : Shared) (σ : L2.St) (H : Hp) (R : It → Hp → Prop), Inv X pins σ H s → wi σ H R →
    wpAny (model X.prog X.w) X.A (eval iter X.env) (fun v s1 => wpAny (model X.prog X.w) X.A (pyIter v) (PIEQ X pins σ tg R) X.xe s1) X.xe s
section
variable {X : Cx} {tg : Expr}
theorem pi_listQ {l : Expr} {tl : TE} (hl : PE X l tl) : PIQ X tg l (iList X.K tl) := by
  refine ⟨fun pins s σ H R I h => ?_⟩
  refine thn (hl.run pins s σ H _ I h) fun v s1 ⟨x, H1, I1, r1, q1⟩ => ?_
  obtain ⟨a, e, ⟨xs, hq⟩, q⟩ := q1
  subst e
  cases r1
  obtain ⟨its, rv, p, hz⟩ := I1.list hq
  refine wpAny_pyIter_list p.isList ?_
  refine ⟨s1.heap.objs.size, [s1.heap.objs.size], _, _, H1, rfl, I1.kept (t' := s1.toks) fun b o e => Heap.get?_push_of_some _ e, turn_listQ a _, ⟨_, Heap.get?_push_size _ rfl, rfl, rfl⟩, fun b hb => ?_, q⟩
  have e : b = s1.heap.objs.size := by simpa using hb
  subst e
  exact I1.fpOk (Nat.le_refl _) (I1.hok.fresh (Nat.le_refl _))
theorem lc_coreH {pins : List (Addr × Obj)} {s : Shared} {σ : L2.St} {H : Hp} {Q : VK} {elt tg iter : Expr} {ifs : List Expr} {scope : Scope} {own : List (Str × Nat)} {pos pos' : Pos} {wi : TI} {g : TG} {tt : TT} {te : TE} {use : Option (Value → Sem Unit)} {Qf : Value → Shared → Prop}
    (hc : HotC X) (hN : X.N.Nodup) (I : Inv X pins σ H s) (hi : PIQ X tg iter wi) (ok : BlkOk X.N X.env.scope scope own)
    (hg : ∀ (s : Shared) (H : Hp) (C : Addr) (cl : List (Str × Addr)) (fp : List Addr), PG (X.blk s H scope (compEnvC scope cl C X.env) fp) tg g) (ht : ∀ (s : Shared) (H : Hp) (C : Addr) (cl : List (Str × Addr)) (fp : List Addr), PTs (X.blk s H scope (compEnvC scope cl C X.env) fp) ifs tt)
    (he : ∀ (s : Shared) (H : Hp) (C : Addr) (cl : List (Str × Addr)) (fp : List Addr), PE (X.blk s H scope (compEnvC scope cl C X.env) fp) elt te) (hs : ∀ x, foldedSetIterable iter X.env x = pure x)
    (h : tLc wi g tt te (own.map (·.2)) σ H Q)
    (hRR : ∀ D C s' m H', Inv X pins σ H' s' → Q (.ref D) H' → s'.heap.Ns C m → FpOk X pins H' C → compPost (model X.prog X.w) X.A X.xe use Qf (.ref D) C (.ok .next) s') :
    wpAny (model X.prog X.w) X.A (comprehension (.ListComp elt [⟨tg, iter, ifs, 0⟩] scope pos) scope X.env pos' (newList []) false (eval iter X.env) use) Qf X.xe s := by
  have hfree : ∀ y ∈ scope.names, y.2 = .free → ∃ c, X.env.cells.lookup y.1 = some c := fun y hy e => by
    rcases ok.free y hy e with k | k
    · exact I.ok.has _ (.inl k)
    · exact I.ok.has _ (.inr k)
  refine wpAny_comprehension_free (use := use) rfl hs (closure_ok hfree) ok.kind (fun y hy e => by rw [ok.uniq y hy, e])
    (thn (hi.run pins s σ H _ I h) fun xv s1 hx => thn hx fun itv s2 h2 => ?_)
  obtain ⟨it, fp, tn, J, H2, e, I2, T, st2, f2, q⟩ := h2
  subst e
  refine wpAny_newObj_type (newEnv_comp ?_) (by show 0 ≤ sizeLine; decide)
  generalize hD : s2.heap.objs.size = D
  have hDn : H2 D = none := I2.hok.fresh (Nat.le_of_eq hD)
  obtain ⟨W, ⟨m0, w0⟩, turn⟩ := q D hDn
  -- the new list
  generalize hs3 : ({ s2 with heap := s2.heap.push { cls := .type "list", data := .seq ([] : List Value).toArray } } : Shared) = s3
  have I3 : Inv X pins σ (upd H2 D (.lst [])) s3 := by
    rw [← hs3]
    refine I2.laid (t' := s2.toks) (fun b o e => Heap.get?_push_of_some _ e) (Nat.le_of_eq hD) ⟨Nat.zero_le _, [], 0, .nil, ?_⟩
    rw [← hD]
    exact Heap.get?_push_size _ rfl
  have h3 : s3.heap = s2.heap.push { cls := .type "list", data := .seq ([] : List Value).toArray } := by rw [← hs3]
  have sz : ∀ b ∈ fp, b < s2.heap.objs.size := fun b hb => by
    obtain ⟨o, e, _⟩ := T.obj _ _ st2 b hb
    exact Heap.lt_size e
  have f3 : ∀ b ∈ fp, FpOk X pins (upd H2 D (.lst [])) b ∧ b < s3.heap.objs.size := fun b hb => by
    have hlt := sz b hb
    refine ⟨⟨?_, (f2 b hb).2⟩, by rw [h3, Heap.size_push]; exact Nat.lt_succ_of_lt hlt⟩
    rw [upd_ne (by rw [← hD]; exact Nat.ne_of_lt hlt)]
    exact (f2 b hb).1
  have st3 : tn 0 s3.heap := T.keep _ _ _ st2 fun b _ o e => by rw [h3]; exact Heap.get?_push_of_some _ e
  have I4 := block_start I3 ok hN f3
  have pg := hg s3 (upd H2 D (.lst [])) s3.heap.objs.size (cellsFrom (s3.heap.objs.size + 1) scope.names (cloFrom X.env.cells scope.names [])) fp
  have pt := ht s3 (upd H2 D (.lst [])) s3.heap.objs.size (cellsFrom (s3.heap.objs.size + 1) scope.names (cloFrom X.env.cells scope.names [])) fp
  have pe := he s3 (upd H2 D (.lst [])) s3.heap.objs.size (cellsFrom (s3.heap.objs.size + 1) scope.names (cloFrom X.env.cells scope.names [])) fp
  show codeAny _ _ (.compStart (.ListComp elt [⟨tg, iter, ifs, 0⟩] scope pos) 0 (.ref it) (.ref D) (compEnvC scope (cellsFrom (s3.heap.objs.size + 1) scope.names (cloFrom X.env.cells scope.names [])) s3.heap.objs.size X.env)) (compPost (model X.prog X.w) X.A X.xe use Qf (.ref D) s3.heap.objs.size) { s3 with heap := pushCells (s3.heap.push { cls := .type "dict", data := .dict #[] }) scope.names }
  have nfp : ∀ b ∈ fp, (upd H2 D (.lst [])) b = none := fun b hb => (f3 b hb).1.1
  generalize hce : compEnvC scope (cellsFrom (s3.heap.objs.size + 1) scope.names (cloFrom X.env.cells scope.names [])) s3.heap.objs.size X.env = ce at I4 pg pt pe ⊢
  have cL : ce.locals = s3.heap.objs.size := by subst hce; rfl
  generalize hH3 : upd H2 D (.lst []) = H3 at I3 I4 pg pt pe w0 nfp f3
  generalize hs4 : ({ s3 with heap := pushCells (s3.heap.push { cls := .type "dict", data := .dict #[] }) scope.names } : Shared) = s4 at I4 ⊢
  have st4 : tn 0 s4.heap := T.keep _ _ _ st3 fun b _ o e => by rw [← hs4]; exact pushCells_keeps _ _ _ _ (Heap.get?_push_of_some _ e)
  have stat : ∀ {σ' : L2.St} {H' : Hp} {s' : Shared}, Inv (X.blk s3 H3 scope ce fp) [] σ' H' s' → (∀ b ∈ fp, H' b = none) → ∀ b ∈ fp, FpOk (X.blk s3 H3 scope ce fp) [] H' b := fun {σ' H' s'} I' hn b hb =>
    ⟨hn b hb, (I'.ok.exf b hb).1, I'.ok.exfs b hb, .inl hb, fun x c e => (I'.ok.exf b hb).2 x c e, fun p hp => absurd (show p ∈ ([] : List (Addr × Obj)) ++ [] from hp) (by simp)⟩
  obtain ⟨p, ⟨hh, v1, e1, c1⟩, hp⟩ := hc
  have P3 := I3.pin p (List.mem_append_left _ hp)
  have nfs : p.1 ∉ frs X.stack := fun hm => (List.mem_cons.mp (I3.stkSub p.1 hm)).elim P3.2.2.1 P3.2.2.2.1
  have nfp1 : p.1 ∉ fp := fun hm => (f3 p.1 hm).1.2.2.2.2.2 p (List.mem_append_left _ hp) rfl
  have hotA : ∀ {σ' : L2.St} {H' : Hp} {s' : Shared}, Inv (X.blk s3 H3 scope ce fp) [] σ' H' s' → HotAt X.A p.1 s'.heap := fun {σ' H' s'} I' => ⟨hh, p.2, v1, I'.base.keep p.1 p.2 P3.1 P3.2.1 nfs nfp1, e1, c1⟩
  have loop : codeAny (model X.prog X.w) X.A (.compLoop (.ListComp elt [⟨tg, iter, ifs, 0⟩] scope pos) 0 (.ref it) (.ref D) ce) (compPost (model X.prog X.w) X.A X.xe use Qf (.ref D) s3.heap.objs.size) s4 := by
    refine compLoop_any (fun n s' => ∃ i H', Inv (X.blk s3 H3 scope ce fp) [] (wipe σ (own.map (·.2))) H' s' ∧ tn i s'.heap ∧ (∀ b ∈ fp, H' b = none) ∧ W i n H') ?_ m0 ⟨0, H3, I4, st4, nfp, w0⟩
    rintro n s5 ⟨i, H5, I5, st5, n5, w5⟩
    rcases turn i n H5 w5 with ⟨stop, qq⟩ | ⟨go, Nx, hNx, step⟩
    · have td := T.done (X.blk s3 H3 scope ce fp) rfl rfl rfl p.1 i [] s5 _ H5 (fun _ _ => False) (hotA I5) nfp1 I5 (stat I5 n5) st5 stop
      refine thnF td fun r s6 ⟨hr, I6⟩ => ?_
      subst hr
      -- back in the def's context
      have I7 : Inv X pins σ H5 s6 := I3.call' (ch := fp) I6.os I6.base I6.hok I6.bare fun b hb => ⟨(f3 b hb).1.2.2.2.1, (f3 b hb).1.2.1, (f3 b hb).1.2.2.2.2.1, (f3 b hb).1.2.2.2.2.2⟩
      have nC : H5 s3.heap.objs.size = none := by
        have z : H5 ce.locals = none := I6.free
        rw [cL] at z
        exact z
      obtain ⟨m, hn, _⟩ := I6.loc
      have hn : s6.heap.Ns ce.locals m := hn
      rw [cL] at hn
      exact hRR D s3.heap.objs.size s6 m H5 I7 qq hn (I3.fpOk (Nat.le_refl _) nC)
    · have ti := T.item (X.blk s3 H3 scope ce fp) rfl rfl rfl i [] s5 _ H5 (fun _ _ => False) I5 (stat I5 n5) st5 go
      refine thnF ti fun r s6 ⟨u, hr, h6⟩ => ?_
      subst hr
      refine thnF h6 fun _ s7 ⟨x, H7, I7, r7, y7, st7, n7⟩ => ?_
      have I7' := I7.pinned (stat I7 n7) (T.obj _ _ st7)
      refine thnF (pg.run _ s7 _ H7 x u _ I7' r7 (step x H7 y7)) fun _ s8 ⟨σ8, H8, I8, hw8, q8⟩ => ?_
      refine thnF (pt.run _ s8 σ8 H8 _ I8 q8) fun b s9 ⟨H9, I9, q9⟩ => ?_
      -- the turn's end
      have fin : ∀ {s' : Shared} {H' : Hp}, Inv (X.blk s3 H3 scope ce fp) ([] ++ pinsAt fp s7.heap) σ8 H' s' → Nx H' → ∃ m, m < n ∧ ∃ i H', Inv (X.blk s3 H3 scope ce fp) [] (wipe σ (own.map (·.2))) H' s' ∧ tn i s'.heap ∧ (∀ b ∈ fp, H' b = none) ∧ W i m H' := fun {s' H'} I' nx => by
        obtain ⟨m', hm, w'⟩ := hNx H' nx
        have pin' : ∀ b ∈ fp, ∀ o, s7.heap.get? b = some o → s'.heap.get? b = some o ∧ H' b = none := fun b hb o e =>
          let z := I'.pin (b, o) (List.mem_append_right _ (List.mem_append_right _ (mem_pinsAt hb e)))
          ⟨z.1, z.2.1⟩
        have hl : (wipe σ (own.map (·.2))).length = σ8.length := by rw [← hw8, wipe_length]
        refine ⟨m', hm, i + 1, H', (I'.unpinned (pins := [])).weak hl (fun j v e => ?_), T.keep _ _ _ st7 fun b hb o e => (pin' b hb o e).1, fun b hb => ?_, w'⟩
        · rw [← hw8] at e
          exact (wipe_some e).1
        · obtain ⟨o, e, _⟩ := T.obj _ _ st7 b hb
          exact (pin' b hb o e).2
      cases b with
      | false =>
        simp only [Bool.false_eq_true, if_false] at q9 ⊢
        exact fin I9 q9
      | true =>
        simp only [if_true] at q9 ⊢
        refine thnF (pe.run _ s9 σ8 H9 _ I9 q9) fun z s10 ⟨yv, H10, I10, r10, acc, hD10, hz10, nx⟩ => ?_
        exact app_ok (X := X.blk s3 H3 scope ce fp) I10 hD10 hz10 r10 fun s11 I11 => fin I11 nx
  exact codeAny_compStart_list loop (T.self X.A 0 _ _ _ st4 loop)
theorem pe_lcH {elt tg iter : Expr} {ifs : List Expr} {scope : Scope} {own : List (Str × Nat)} {pos : Pos} {wi : TI} {g : TG} {tt : TT} {te : TE} (hc : HotC X) (hN : X.N.Nodup) (hi : PIQ X tg iter wi) (ok : BlkOk X.N X.env.scope scope own)
    (hg : ∀ (s : Shared) (H : Hp) (C : Addr) (cl : List (Str × Addr)) (fp : List Addr), PG (X.blk s H scope (compEnvC scope cl C X.env) fp) tg g) (ht : ∀ (s : Shared) (H : Hp) (C : Addr) (cl : List (Str × Addr)) (fp : List Addr), PTs (X.blk s H scope (compEnvC scope cl C X.env) fp) ifs tt)
    (he : ∀ (s : Shared) (H : Hp) (C : Addr) (cl : List (Str × Addr)) (fp : List Addr), PE (X.blk s H scope (compEnvC scope cl C X.env) fp) elt te) (hs : ∀ x, foldedSetIterable iter X.env x = pure x := by intro _; rfl) :
    PE X (.ListComp elt [⟨tg, iter, ifs, 0⟩] scope pos) (tLc wi g tt te (own.map (·.2))) := by
  refine ⟨fun pins s σ H Q I h => ?_⟩
  rw [eval_ListComp]
  refine lc_coreH hc hN I hi ok hg ht he hs h fun D C s' m H' I' q hn f => ⟨m, hn, fun h'' sb => ?_⟩
  obtain ⟨f0, f1, f2, f3, f4, f5⟩ := f
  exact ⟨.ref D, H', I'.turned (t' := s'.toks) (fun b o hb e => (sb.2 b hb).trans e) f0 f1 f3 f4 f5, rfl, q⟩
end
end Nz

set_option maxHeartbeats 4000000
/-! NzWord: the word for a caught error. -/
namespace Nz
open PySem PySem.Spec PyProof.Rows L2 HotX L2H
/-- it stands as it stood -/
def Keep (H H' : Hp) : Prop := ∀ b o, H b = some o → H' b = some o
theorem Keep.refl (H : Hp) : Keep H H := fun _ _ e => e
theorem Keep.trans {H H1 H2 : Hp} (a : Keep H H1) (b : Keep H1 H2) : Keep H H2 := fun c o e => b c o (a c o e)
theorem Keep.new {H : Hp} {p : Addr} (n : H p = none) (o : HO) : Keep H (upd H p o) := fun b u e => by rw [upd_ne (ne_of_none e n)]; exact e
/-- p bears the exception that is handled, an instance of D -/
structure Held (X : Cx) (D a : Addr) (oe : Obj) : Prop where
  pn : (a, oe) ∈ X.pn
  hot : Hot1 X.A (a, oe)
  zc : Zc (.ref D) none oe
  exc : ExcC X.K D
theorem Held.hotC {X : Cx} {D a : Addr} {oe : Obj} (h : Held X D a oe) : HotC X := ⟨(a, oe), h.hot, h.pn⟩
theorem call_isH {X : Cx} {a D : Addr} {oe : Obj} (h : Held X D a oe) : CallR X (.builtin "isinstance") (rIsE X.K D a) := by
  intro pins s σ H xs us Q I r hq
  obtain ⟨c, cv, b, rfl, hcv, e, q⟩ := hq
  cases r with
  | cons rx rr =>
    cases rr with
    | cons rt rr =>
      cases rr
      cases rx
      have ec := hcv _ rt
      subst ec
      obtain ⟨hget, _⟩ := I.pin (a, oe) (List.mem_append_left _ h.pn)
      obtain ⟨_, vs, hv, _⟩ := h.hot
      have hz := h.zc
      have C := h.exc
      have J : PySem.W.InstAt s.heap a oe D none := by
        obtain ⟨oc, od, oda, osl⟩ := oe
        obtain ⟨h1, h2⟩ := hz
        dsimp only at h1 h2 hv
        subst h1 h2 hv
        exact ⟨hget, rfl, rfl, trivial⟩
      exact PySem.W.kia_one (PySem.W.handS_kitx_exc C.hg C.hk C.hs C.hd C.ha C.hn C.ht C.hm) I.kIn J e (fun z => nomatch z) fun tk => ⟨.bl b, H, I.kept (t' := tk) fun _ _ z => z, rfl, q⟩
section
variable {X : Cx} {a D : Addr} {oe : Obj}
def tIs (a : Addr) (b : Bool) : TE := fun σ H Q => σ[0]? = some (some (.ref a)) ∧ Q (.bl b) H
/-- what the names of _law_word are -/
structure WordX (X : Cx) : Prop where
  N : X.N = ([("_law_e" : Str), ("_law_flags" : Str), ("_law_flag" : Str)] : List Str)
  e : X.env.scope.names.lookup ("_law_e" : Str) = some .local
  fl : X.env.scope.names.lookup ("_law_flags" : Str) = some .local
  isi : Gl X "isinstance"
  sm : Gl X "sum"
  ve : Gl X "ValueError"
  g1 : X.mg "isinstance" = none
  g2 : X.mg "sum" = none
  g3 : X.mg "ValueError" = none
  g4 : X.mg "int" = none
  fn : ∀ y, X.fn y = true
  un : X.A.units + 100 < cLine
theorem pe_isC (W : WordX X) (h : Held X D a oe) {x : Str} {b : Bool} {p p1 p2 pos : Pos} (hg : Gl X x) (hm : X.mg x = some (.ref (He.ga X.K x))) (hd : (x == ("__debug__" : Str)) = false) (hk : PySem.W.kitOne X.K (.ref D) (.ref (He.ga X.K x)) = some b) :
    PE X (.Call (.Name "isinstance" p) [.Name "_law_e" p1, .Name x p2] [] pos) (tIs a b) :=
  PE.imp (pe_callB (call_isH h) W.isi W.g1 (by decide +kernel) (pa_cons (pe_var (i := 0) (by rw [W.N]; rfl) (.inl W.e) (by decide) (by decide)) (pa_cons (pe_glob hg hm (v := .ref (He.ga X.K x)) rfl hd) pa_nil rfl) rfl)) fun σ H Q ⟨h1, h2⟩ =>
    ⟨_, h1, _, _, b, rfl, fun u r => r, hk, h2⟩
theorem pe_isV (W : WordX X) (h : Held X D a oe) {b : Bool} {p p1 p2 pos : Pos} (hk : PySem.W.kitOne X.K (.ref D) (.type "ValueError") = some b) :
    PE X (.Call (.Name "isinstance" p) [.Name "_law_e" p1, .Name "ValueError" p2] [] pos) (tIs a b) :=
  PE.imp (pe_callB (call_isH h) W.isi W.g1 (by decide +kernel) (pa_cons (pe_var (i := 0) (by rw [W.N]; rfl) (.inl W.e) (by decide) (by decide)) (pa_cons (pe_bltn (v := .ty "ValueError") W.ve W.g3 (by decide +kernel) rfl (by decide +kernel) (by decide +kernel)) pa_nil rfl) rfl)) fun σ H Q ⟨h1, h2⟩ =>
    ⟨_, h1, _, _, b, rfl, fun u r => r, hk, h2⟩
/-- a list of such flags -/
def tFl (a : Addr) (bs : List Bool) : TA := fun σ H Q => σ[0]? = some (some (.ref a)) ∧ Q (bs.map V.bl) H
theorem pa_fl0 : PA X [] (tFl a []) := PA.imp pa_nil fun σ H Q ⟨_, h⟩ => h
theorem pa_fl {e : Expr} {es : List Expr} {b : Bool} {bs : List Bool} (h : PE X e (tIs a b)) (hr : PA X es (tFl a bs)) (hs : starEach (e :: es) X.env = (false, eval e X.env) :: starEach es X.env := by rfl) : PA X (e :: es) (tFl a (b :: bs)) :=
  PA.imp (pa_cons h hr hs) fun σ H Q ⟨h1, h2⟩ => ⟨h1, h1, h2⟩
/-- the sum of the flags -/
def tCnt : TE := fun σ H Q => ∃ (q : Addr) (bs : List Bool), σ[1]? = some (some (.ref q)) ∧ σ.length = 3 ∧ H q = some (.lst (bs.map V.bl)) ∧ bs.length ≤ 100 ∧ ∀ H', Keep H H' → Q (.int ((bs.map fun b => if b then (1 : Int) else 0).sum)) H'
def wordScB (sc scope : Scope) : Bool := blkC ([("_law_e" : Str), ("_law_flags" : Str), ("_law_flag" : Str)] : List Str) sc scope [(("_law_flag" : Str), 2)]
theorem call_sumH (h : HotC X) : CallR X (.builtin "sum") (rSum X.K) := by
  intro pins s σ H vs us Q I r hq
  obtain ⟨a, ns, rfl, hs, q⟩ := hq
  obtain ⟨its, rv, hl, _⟩ := I.list hs
  obtain ⟨x1, hot⟩ := h.at I
  rw [Vals.ref1 r]
  exact sum_hot hot hl.isList rv.ints fun h' tk t' hk => ⟨.int _, H, I.kept hk, ⟨_, rfl⟩, q⟩
def b2 (b : Bool) : Int := if b then 1 else 0
theorem sc_100 : 100 < sizeLine := by have := sizeLine_eq; omega
theorem pe_cnt (W : WordX X) (h : HotC X) {scope : Scope} (hb : wordScB X.env.scope scope = true) (hi : (relS scope X.env.scope).names.lookup ("int" : Str) = some .globalImplicit) (hl : (relS scope X.env.scope).names.lookup ("_law_flag" : Str) = some .local) {p p1 p2 p3 p4 p5 p6 p7 : Pos} :
    PE X (.Call (.Name "sum" p) [.ListComp (.Call (.Name "int" p1) [.Name "_law_flag" p2] [] p3) [⟨.Name "_law_flag" p4, .Name "_law_flags" p5, [], 0⟩] scope p6] [] p7) tCnt := by
  have nd : X.N.Nodup := by rw [W.N]; decide +kernel
  have ok : BlkOk X.N X.env.scope scope [(("_law_flag" : Str), 2)] := by rw [W.N]; exact blkOk_by hb
  have n2 : X.N[2]? = some ("_law_flag" : Str) := by rw [W.N]; rfl
  have lc := pe_lcH (X := X) (tg := .Name "_law_flag" p4) (iter := .Name "_law_flags" p5) (elt := .Call (.Name "int" p1) [.Name "_law_flag" p2] [] p3) (ifs := []) (pos := p6) h nd (pi_listQ (pe_var (i := 1) (by rw [W.N]; rfl) (.inl W.fl) (by decide) (by decide))) ok
    (g := gName 2) (tt := tYes) (fun s H C cl fp => pg_name (X := X.blk s H scope (compEnvC scope cl C X.env) fp) nd n2 (.inl hl) (.inr hl)) (fun s H C cl fp => pts_nil)
    (fun s H C cl fp => pe_callTy (X := X.blk s H scope (compEnvC scope cl C X.env) fp) call_int1 hi W.g4 (by decide +kernel) (pa_cons (pe_var (X := X.blk s H scope (compEnvC scope cl C X.env) fp) (i := 2) n2 (.inl hl) (by decide) (by decide)) pa_nil rfl) (by decide +kernel) (by decide +kernel) rfl rfl) (fun x => rfl)
  refine PE.imp (pe_callB (call_sumH h) W.sm W.g2 (by decide +kernel) (pa_cons lc pa_nil rfl) (by decide +kernel) (by decide +kernel) rfl rfl) fun σ H Q ⟨q, bs, h1, h3, hq, hlen, hQ⟩ => ?_
  refine ⟨_, h1, q, rfl, ⟨_, SqL.of hq⟩, fun Dl nD => ⟨fun i m Hc => m = bs.length - i ∧ i ≤ bs.length ∧ Keep H Hc ∧ Hc Dl = some (.lst ((bs.take i).map fun b => V.int (b2 b))), ⟨bs.length, rfl, Nat.zero_le _, Keep.new nD _, by rw [upd_same]; simp⟩, ?_⟩⟩
  rintro i m Hc ⟨rfl, hi2, kp, hD⟩
  by_cases hlt : i < bs.length
  · have hx : ∀ xs, SqL X.K Hc q xs → xs[i]? = some (V.bl bs[i]) → True := fun _ _ _ => trivial
    have hk := kp _ _ hq
    have e0 : (bs.map V.bl)[i]? = some (V.bl bs[i]) := by simp [hlt]
    refine .inr ⟨⟨_, _, SqL.of hk, e0⟩, fun H' => H' = upd Hc Dl (.lst ((bs.take (i + 1)).map fun b => V.int (b2 b))), fun H' e => ⟨bs.length - (i + 1), by omega, rfl, hlt, ?_, ?_⟩, fun x H' y => ?_⟩
    · subst e
      intro b o eb
      have nb : b ≠ Dl := fun z => by rw [z, nD] at eb; cases eb
      rw [upd_ne nb]
      exact kp _ _ eb
    · subst e; exact upd_same
    · obtain ⟨y1, y2⟩ := y
      subst y1
      have ex := (Option.some.inj ((y2 _ (SqL.of hk)).symm.trans e0))
      subst ex
      refine ⟨?_, .bl bs[i], ?_, .inr ⟨bs[i], rfl, (bs.take i).map fun b => V.int (b2 b), hD, ?_, ?_⟩⟩
      · show ((((wipe σ []).set 2 none).set 2 (some (V.bl bs[i]))).set 2 none) = (wipe σ []).set 2 none
        rw [List.set_set, List.set_set]
      · show (((wipe σ []).set 2 none).set 2 (some (V.bl bs[i])))[2]? = _
        rw [List.getElem?_set_self]
        show 2 < (σ.set 2 none).length
        rw [List.length_set, h3]; decide
      · have := sc_100
        simp; omega
      · show _ = _
        rw [List.take_succ_eq_append_getElem hlt, List.map_append]
        rfl
  · have ei : i = bs.length := by omega
    subst ei
    refine .inl ⟨⟨_, SqL.of (kp _ _ hq), by simp⟩, Dl, bs.map b2, rfl, SqL.of (by rw [hD, List.take_length, List.map_map]; rfl), hQ Hc kp⟩
/-! ### the body -/
def tCs (ns : List Str) : TA := fun _ H Q => Q (ns.map V.str) H
theorem pa_cs0 : PA X [] (tCs []) := pa_nil
theorem pa_cs {z : Str} {ns : List Str} {es : List Expr} {j : Nat} {p : Pos} (h : PA X es (tCs ns)) : PA X (.Constant (.str z) j p :: es) (tCs (z :: ns)) := pa_cons pe_str h
theorem at_nat {α : Type} {l : List α} {j : Nat} {x : α} (h : l[j]? = some x) : atI l (j : Int) = some x := by
  have hl : j < l.length := (List.getElem?_eq_some_iff.mp h).1
  unfold atI ixN
  rw [if_pos (by omega), if_pos (by omega)]
  simpa using h
theorem word_body (W : WordX X) (h : Held X D a oe) {bs : List Bool} {ns : List Str} {j : Nat} {name : Str} {es cs : List Expr} {scope : Scope} {q1 q2 q3 q4 q5 q6 q7 q8 q9 r1 r2 r3 r4 r5 r6 r7 r8 r9 u1 u2 u3 p p1 p2 p3 p4 p5 p6 p7 : Pos} {k1 k2 k3 : Nat}
    (hes : PA X es (tFl a bs)) (hcs : PA X cs (tCs ns)) (hb : wordScB X.env.scope scope = true) (hi : (relS scope X.env.scope).names.lookup ("int" : Str) = some .globalImplicit) (hl : (relS scope X.env.scope).names.lookup ("_law_flag" : Str) = some .local)
    (hn : bs.length ≤ 100) (hm : ns.length ≤ 100) (h1 : (bs.map b2).sum = 1) (hj : bs[j]? = some true) (hj2 : ∀ m, m < j → bs[m]? = some false) (hnm : ns[j]? = some name) (hv : PySem.W.kitOne X.K (.ref D) (.type "ValueError") = some true) (hline : (r8.endLine == u1.line) = true) :
    PSs X [.Assign [.Name "_law_flags" q1] (.List es q2) q3, .If (.BoolOp .Or [.Compare (.Call (.Name "sum" p) [.ListComp (.Call (.Name "int" p1) [.Name "_law_flag" p2] [] p3) [⟨.Name "_law_flag" p4, .Name "_law_flags" p5, [], 0⟩] scope p6] [] p7) [.NotEq] [.Constant (.int 1) k1 q4] q5,
        .UnaryOp .Not (.Call (.Name "isinstance" q6) [.Name "_law_e" q7, .Name "ValueError" q8] [] q9) r1] r2) [.Return (some (.Constant (.str "other") k2 r3)) r4] [] r5,
      .Return (some (.Subscript (.List cs r6) (.Call (.Attribute (.Name "_law_flags" r7) "index" r8) [.Constant (.bool true) k3 r9] [] u1) u2)) u3]
      (fun D σ H => σ[0]? = some (some (.ref a)) ∧ σ.length = 3 ∧ ∀ H', Keep H H' → D.rt (.str name) H') := by
  have nd : X.N.Nodup := by rw [W.N]; decide +kernel
  obtain ⟨rn, o1, o2⟩ := cmp_ok (X := X) (K := X.K) rfl (by have := W.un; omega) .NotEq
  have s1 := ps_set (X := X) (i := 1) (x := ("_law_flags" : Str)) (pos := q3) (pos' := q1) nd (by rw [W.N]; rfl) (.inl W.fl) (pe_lst (pos := q2) hes) rfl (.inr W.fl)
  have c1 : PT X (.Compare (.Call (.Name "sum" p) [.ListComp (.Call (.Name "int" p1) [.Name "_law_flag" p2] [] p3) [⟨.Name "_law_flag" p4, .Name "_law_flags" p5, [], 0⟩] scope p6] [] p7) [.NotEq] [.Constant (.int 1) k1 q4] q5) _ := pt_cmpR o1 (pe_cnt W h.hotC hb hi hl) pe_int rfl
  have c2 : PT X (.UnaryOp .Not (.Call (.Name "isinstance" q6) [.Name "_law_e" q7, .Name "ValueError" q8] [] q9) r1) _ := pt_not (pt_val (pe_isV W h hv) (fun whole => rfl))
  have s2 := ps_if (X := X) (pos := r5) (PW.pt (pw_or (pos := r2) c1 (pw_or1 c2))) (pss_one (ps_ret (pos := r4) (pe_str (x := "other") (j := k2) (pos := r3)))) pss_nil
  have ix := pe_bm (X := X) (apos := r8) (cpos := u1) PySem.F.plainAttrs_list PySem.F.slot_list_index PySem.F.type_list_index mt_index (pe_var (pos := r7) (x := ("_law_flags" : Str)) (i := 1) (by rw [W.N]; rfl) (.inl W.fl) (by decide) (by decide)) (pa_cons (pe_bl (b := true) (j := k3) (pos := r9)) pa_nil rfl) rfl rfl hline rfl
  have s3 := ps_ret (X := X) (pos := u3) (pe_ix (pos := u2) ix_seq (pe_lst (pos := r6) hcs) ix (fun o i => rfl))
  refine PSs.imp (pss_cons s1 (pss_cons s2 (pss_one s3))) fun D σ H ⟨e1, e2, hQ⟩ => ?_
  have z100 := sc_100
  refine ⟨e1, by simp; omega, fun q nq => ?_⟩
  have g1 : (σ.set 1 (some (V.ref q)))[1]? = some (some (.ref q)) := List.getElem?_set_self (by rw [e2]; decide)
  have g0 : (σ.set 1 (some (V.ref q)))[0]? = some (some (.ref a)) := by rw [List.getElem?_set_ne (by decide)]; exact e1
  refine ⟨q, bs, g1, by rw [List.length_set]; exact e2, upd_same, hn, fun H' k => ?_⟩
  refine o2 H' H' (.int 1) (.int 1) _ _ false _ (fun _ _ z => z) (by
    have : (bs.map fun b => if b then (1 : Int) else 0).sum = 1 := h1
    rw [this]; exact .int 1) (.int 1) (by rfl) ⟨false, rfl, ?_⟩
  dsimp only
  rw [if_neg Bool.false_ne_true]
  refine ⟨g0, true, rfl, ?_⟩
  show (if (!true) = true then _ else _)
  rw [if_neg (by decide)]
  refine ⟨by simp; omega, fun q2 nq2 => ?_⟩
  have k2 : upd H' q2 (.lst (ns.map V.str)) q = some (.lst (bs.map V.bl)) := by
    rw [upd_ne (ne_of_none (k _ _ upd_same) nq2)]
    exact k _ _ upd_same
  refine ⟨.ref q, g1, .inl ⟨rfl, _, SqL.of k2⟩, q, bs.map V.bl, .bl true, j, .bl true, rfl, rfl, SqL.of k2, rfl, by simp [flatV], by simp [hj], rfl, fun m z hm2 hz => ?_, .inl ⟨q2, ns.map V.str, j, .str name, rfl, rfl, SqL.of upd_same, at_nat (by simp [hnm]), hQ _ ((Keep.new nq _).trans (k.trans (Keep.new nq2 _)))⟩⟩
  have := hj2 m hm2
  rw [List.getElem?_map, this] at hz
  cases hz
  rfl
end
end Nz

set_option maxHeartbeats 4000000
/-! NzTold: told(lambda: e). -/
namespace Nz
open PySem PySem.Spec PyProof.Rows L2 LamX L2H
/-! ### a def called with the caught error -/
theorem run_ofSH {CX : CXT} {P : Program} {w : World} {K : PySem.W.Frag} {mg : Str → Option Value} {base : Heap} {k : Nat} {f : Addr} {name qual : Str} {params : Arguments} {body : List Stmt} {scope : Scope} {dV kV doc pm cdv ct oc : Value} {an od : Option Addr}
    {osl : Array (Option Value)} {N ps : List Str} (lk : K.lookup f = some ⟨oc, od, .func (PySem.W.fnOf name qual params body scope dV kV doc pm an cdv ct), osl⟩) (hcd : PySem.W.codeIn K cdv qual = true) (S : FnScope N ps scope)
    {A : Around} {outer : List PySem.Env} {s : Shared} {H : Hp} {args : Args} {us : List Value} {vs : List V} {Q : VK} {E : XK} {p : Addr × Obj} (hr : RoomH (k + 1) A) (hot : Hot1 A p) (hpin : PinOk outer H s p) (e0 : Env0 P w K mg base A outer s H)
    (hb : BindsTo s (PySem.W.fnOf name qual params body scope dV kV doc pm an cdv ct) args (ps.zip us)) (r : Vals vs us) (hl : vs.length = ps.length)
    (hbody : RoomH k (A.deeper (envOfC qual scope s.heap.objs.size f cdv)) → ∃ t, PSs (cxH CX P w K mg base N qual scope f cdv A outer s H E p) body t ∧ t { nx := fun _ H' => Q .non H', rt := Q } (L2.start N vs) H) :
    codeAny (model P w) A (.call (.ref f) args) (CR CX outer P w H s Q E) s := by
  have KX : K.In s.heap := e0.mod.kin.keeps fun b o e => (e0.bs b o e).1
  have lim : s.heap.NoLimit := e0.mod.nolimit.keeps fun b o e => (e0.bs b o e).1
  have hkind : ∀ y ∈ ps.zip us, scope.names.lookup y.1 = some .local ∨ (scope.names.lookup y.1 = some .cell ∧ ((cellsFrom (s.heap.objs.size + 1) scope.names []).lookup y.1).isSome = true) := fun ⟨n, v⟩ hy => by
    rcases S.par n (List.of_mem_zip hy).1 with q | q
    · exact .inl q
    · exact .inr ⟨q, PySem.W.cellsFrom_some _ _ _ (.inl q)⟩
  refine codeAny_call_function hr.depth (KX _ _ lk) rfl S.co S.gen rfl (PySem.W.codeRec_of KX hcd) (hb _ _ _ _ ?_)
  refine wpAny_newFunctionEnv_cells S.kind hkind fun env he s1 x => ?_
  subst he
  refine ⟨lim.keeps x.toInCall.keep, codeAny_func ?_⟩
  obtain ⟨t, ht, hq⟩ := hbody (hr.deeper _)
  have I : Inv (cxH CX P w K mg base N qual scope f cdv A outer s H E p) [] (L2.start N vs) H s1 := inv_startH S hpin e0 hl r x
  refine wpAny_mono (ht.run [] s1 (L2.start N vs) H _ I hq) (fun fl s' hs => ?_) fun e s' hs => hs
  have fin : ∀ {σ' : L2.St} {H' : Hp} {v : V} {u : Value}, Inv (cxH CX P w K mg base N qual scope f cdv A outer s H E p) [] σ' H' s' → L2.RelV v u → Q v H' → CE outer P w H s Q u s' :=
    fun {σ' H' v u} J rv q => ⟨v, H', J.os, J.bare, J.base, J.hok, rv, q⟩
  cases fl with
  | ret u =>
    obtain ⟨v, σ', H', J, rv, q⟩ := hs
    exact fin J rv q
  | next =>
    obtain ⟨σ', H', J, q⟩ := hs
    exact fin (v := V.non) (u := Value.none) J rfl q
  | brk =>
    obtain ⟨_, _, _, q⟩ := hs
    exact False.elim q
  | cont =>
    obtain ⟨_, _, _, q⟩ := hs
    exact False.elim q
/-- the names of _law_word -/
def wordN : List Str := [("_law_e" : Str), ("_law_flags" : Str), ("_law_flag" : Str)]
/-- what is known of the class D of a caught error: its word -/
structure WordOf (K : PySem.W.Frag) (mg : Str → Option Value) (body : List Stmt) (sc : Scope) (D : Addr) (name : Str) : Prop where
  run : ∀ (X : Cx) (a : Addr) (oe : Obj), X.K = K → X.mg = mg → X.env.scope = sc → WordX X → Held X D a oe → PSs X body (fun D σ H => σ[0]? = some (some (.ref a)) ∧ σ.length = 3 ∧ ∀ H', Keep H H' → D.rt (.str name) H')
  exm : PySem.W.exmOne K (.ref D) (.ref (He.ga K "NoughtError")) = some true
  exc : ExcC K D
/-- what is known of _law_word -/
structure WordF (K : PySem.W.Frag) (mg : Str → Option Value) (params : Arguments) (body : List Stmt) (sc : Scope) (fd : FuncData) : Prop where
  fd : FunD K ("_law_word" : Str) ("_law_word" : Str) params body sc [] [] (He.ga K "_law_word") fd
  fs : FnScope wordN [("_law_e" : Str)] sc
  bind : ∀ (kV doc pm : Value) (an : Option Addr) (cdv ct : Value) (us : List Value), us.length = 1 → bindArgs (PySem.W.fnOf ("_law_word" : Str) ("_law_word" : Str) params body sc .none kV doc pm an cdv ct) ⟨us, []⟩ = pure ([("_law_e" : Str)].zip us)
  gl : mg "_law_word" = some (.ref (He.ga K "_law_word"))
  e : sc.names.lookup ("_law_e" : Str) = some .local
  fl : sc.names.lookup ("_law_flags" : Str) = some .local
  isi : sc.names.lookup ("isinstance" : Str) = some .globalImplicit
  sm : sc.names.lookup ("sum" : Str) = some .globalImplicit
  ve : sc.names.lookup ("ValueError" : Str) = some .globalImplicit
  g1 : mg "isinstance" = none
  g2 : mg "sum" = none
  g3 : mg "ValueError" = none
  g4 : mg "int" = none
section
variable {X : Cx} {params : Arguments} {body : List Stmt} {sc : Scope} {fd : FuncData} {D a : Addr} {oe : Obj} {pn : List (Addr × Obj)} {i : Nat} {name : Str}
theorem pe_word (F : WordF X.K X.mg params body sc fd) (Wd : WordOf X.K X.mg body sc D name) (h : Held X D a oe) (hr : RoomH 1 X.A) (hg : Gl X "_law_word") (hN : X.N[i]? = some ("_law_e" : Str)) (hv : X.env.scope.names.lookup ("_law_e" : Str) = some .local) {p p1 pos : Pos} :
    PE X (.Call (.Name "_law_word" p) [.Name "_law_e" p1] [] pos) (fun σ H Q => σ[i]? = some (some (.ref a)) ∧ ∀ H', Keep H H' → Q (.str name) H') := by
  refine ⟨fun pins s σ H Q I hq => ?_⟩
  have ha : PA X [.Name "_law_e" p1] (tCons (tVar i) tNil) := pa_cons (pe_var hN (.inl hv) (by decide) (by decide)) pa_nil rfl
  refine wpAny_Call_Name_kw (ld_glob I hg F.gl ?_ (by decide))
  refine PySem.W.callWith_K (h₀ := X.base) I.ok.mod.kin F.fd.kp (thn (ha.run pos pins s σ H (fun vs H1 => vs = [V.ref a] ∧ H1 = H) I ⟨_, hq.1, rfl, rfl⟩) fun us s1 ⟨vs, H1, I1, r, q⟩ => ⟨I1.kIn, ?_⟩) rfl rfl
  obtain ⟨q1, q2⟩ := q
  subst q1 q2
  obtain ⟨oc, od, dV, kV, doc, pm, an, cdv, ct, osl, rfl, lk, hcd, hD, _⟩ := F.fd.ex
  have P1 := I1.pin (a, oe) (List.mem_append_left _ h.pn)
  have hpin : PinOk X.stack H1 s1 (a, oe) := ⟨P1.1, P1.2.1, fun hm => (List.mem_cons.mp (I1.stkSub a hm)).elim P1.2.2.1 P1.2.2.2.1, P1.2.2.2.2⟩
  have hdV : dV = .none := by
    rcases hD with ⟨_, z⟩ | ⟨z, _⟩
    · exact z
    · exact absurd rfl z
  subst hdV
  have lu : us.length = 1 := by rw [← r.length]; rfl
  have rc : codeAny (model X.prog X.w) X.A (.call (.ref (He.ga X.K "_law_word")) ⟨us, []⟩) (CR C8.CX0 X.stack X.prog X.w H1 s1 Q C8.E0) s1 := by
    refine run_ofSH (k := 0) (N := wordN) (ps := [("_law_e" : Str)]) lk hcd F.fs hr h.hot hpin I1.env0 (.of_eq (F.bind _ _ _ _ _ _ us lu)) r rfl fun hr' => ?_
    have W : WordX (cxH C8.CX0 X.prog X.w X.K X.mg X.base wordN ("_law_word" : Str) sc (He.ga X.K "_law_word") cdv X.A X.stack s1 H1 C8.E0 (a, oe)) :=
      ⟨rfl, F.e, F.fl, F.isi, F.sm, F.ve, F.g1, F.g2, F.g3, F.g4, fun _ => rfl, Nat.lt_of_le_of_lt (Nat.le_trans (Nat.add_le_add_left (show 100 ≤ 16 * 0 + 200 by decide) _) (Nat.le_of_eq (Nat.add_assoc _ _ _).symm)) hr'.un⟩
    refine ⟨_, Wd.run _ a oe rfl rfl rfl W ⟨List.mem_cons_self, ⟨h.hot.1, h.hot.2⟩, h.zc, h.exc⟩, rfl, rfl, fun H' k => hq.2 H' k⟩
  refine wpAny_call (codeAny_mono rc fun r s2 hq => ?_)
  cases r with
  | error e => exact (show False from hq).elim
  | ok fl =>
    cases fl with
    | ret u => exact I1.after hq
    | next => exact False.elim hq
    | brk => exact False.elim hq
    | cont => exact False.elim hq
end
/-! ### told -/
/-- x(), in the def that got the lambda -/
theorem pe_actN {X : Cx} {pins : List (Addr × Obj)} {σ : L2.St} {H : Hp} {s : Shared} {CXg : CXT} {Eg : XK} {Ng : List Str} {qg : Str} {sg : Scope} {g f c' : Addr} {cdg pm ctv : Value} {params : Arguments} {body : Expr} {scope : Scope} {k i : Nat} {a : Str} {pn : List (Addr × Obj)} {xe : Value → Shared → Prop} {W : WX} {E : XK} {tb : TE} {p1 p2 : Pos}
    (I : Inv X pins σ H s) (L : LamS X.env.scope scope) (hf : s.heap.get? f = some (PySem.W.kla_obj "<lambda>" (X.env.qual ++ "<lambda>") params body scope (cloFrom X.env.cells scope.names []) pm c' ctv)) (hfn : H f = none) (hfr : f ∉ frs X.stack)
    (hbind : bindArgs (PySem.W.kla_fn "<lambda>" (X.env.qual ++ "<lambda>") params body scope (cloFrom X.env.cells scope.names []) pm (.ref c') ctv) ⟨[], []⟩ = pure [])
    (tk : L2N.Takes ((cxOf CXg X.prog X.w X.K X.mg X.base Ng qg sg g cdg X.A X.stack s H Eg).tr pn xe) W) (hW : ∀ cls d σ' H', E cls d H' → W cls d σ' H') (hr : Room (k + 1) (X.A.deeper (envOfC qg sg s.heap.objs.size g cdg)))
    (hbody : ∀ (A : Around) (outer : List PySem.Env) (s : Shared) (H : Hp), Room k (A.deeper (lamEnv X scope s.heap.objs.size f c')) → PE (lamN X A outer s H E scope f c') body tb)
    (hN : Ng[i]? = some a) (hv : Vis sg a) (hd : (a == ("__debug__" : Str)) = false) (hcd : (a == ("__classdict__" : Str)) = false) :
    PE ((cxOf CXg X.prog X.w X.K X.mg X.base Ng qg sg g cdg X.A X.stack s H Eg).tr pn xe) (.Call (.Name a p1) [] [] p2)
      (fun σZ HZ Q => σZ[i]? = some (some (.ref f)) ∧ HZ c' = some (CodeO c' (X.env.qual ++ "<lambda>")) ∧ tb σ HZ Q) := by
  refine ⟨fun pinsZ sZ σZ HZ Q IZ h => ?_⟩
  obtain ⟨hs, hc, ht⟩ := h
  refine wpAny_Call_Name_kw (thn ((pe_var (pos := p1) (i := i) hN hv hd hcd).run pinsZ sZ σZ HZ (fun v H1 => v = .ref f ∧ H1 = HZ) IZ ⟨.ref f, hs, rfl, rfl⟩) fun u s1 ⟨v, H1, I1, r1, q1⟩ => ?_)
  obtain ⟨ev, eH⟩ := q1
  subst ev
  rw [eH] at I1
  obtain rfl : u = Value.ref f := r1
  have of1 : s1.heap.get? f = some (PySem.W.kla_obj "<lambda>" (X.env.qual ++ "<lambda>") params body scope (cloFrom X.env.cells scope.names []) pm c' ctv) := I1.base.keep f _ hf hfn hfr (fun z => nomatch (show f ∈ ([] : List Addr) from z))
  refine PySem.W.callWith_F0 ⟨_, _, _, _, of1⟩ ?_
  have un : Un (frs X.stack) [] H HZ s.heap s1.heap := I1.base
  obtain ⟨⟨oc, vs, t, hoc, hdc, hvc⟩, _, _⟩ := I1.hok c' _ hc
  have rc : codeAny (model X.prog X.w) (X.A.deeper (envOfC qg sg s.heap.objs.size g cdg)) (.call (.ref f) ⟨[], []⟩) (CR (L2N.CX X.prog X.w) (envOfC qg sg s.heap.objs.size g cdg :: X.stack) X.prog X.w HZ s1 Q E) s1 := by
    refine PySem.W.kla_callFunE hr.depth of1 rfl L.co L.gen rfl ⟨c', oc, vs, t, rfl, hoc, hdc, hvc⟩ ?_
    rw [hbind]
    refine wpAny_pure (wpAny_newFunctionEnv (fun y hy => (L.own y hy).2) (fun y hy => absurd hy (by simp)) (fun h₁ hns hsb => ⟨I1.nolimit.fresh _ hsb, ?_⟩) L.kind)
    show codeAny _ _ (.expr body (lamEnv X scope s1.heap.objs.size f c')) _ _
    have kp : ∀ b o, s1.heap.get? b = some o → h₁.get? b = some o := fun b o e => hsb.extBut b o (Nat.ne_of_lt (Heap.lt_size e)) (Heap.get?_push_of_some _ e)
    have J : Inv (lamN X (X.A.deeper (envOfC qg sg s.heap.objs.size g cdg)) (envOfC qg sg s.heap.objs.size g cdg :: X.stack) s1 HZ E scope f c') [] σ HZ { s1 with heap := h₁, toks := s1.toks + ([] : List (Str × Value)).length } :=
      Inv.wish (lam_start2 I L I1.env0 hr.hd un hns kp) _
    refine PySem.W.kla_codeExpr (wpAny_mono ((hbody _ _ s1 HZ (hr.deeper _)).run [] _ _ HZ Q J ht) (fun v s' hq => ?_) fun e s' hq => hq)
    obtain ⟨w', H', J', rv, q⟩ := hq
    exact ⟨w', H', J'.os, J'.bare, J'.base, J'.hok, rv, q⟩
  have hx : Passes (L2N.CX X.prog X.w) ((cxOf CXg X.prog X.w X.K X.mg X.base Ng qg sg g cdg X.A X.stack s H Eg).tr pn xe) E := L2N.passes_call tk hW
  refine wpAny_call (codeAny_mono rc fun r s' hq => ?_)
  cases r with
  | error e => exact hx pinsZ σZ HZ s1 e s' I1 hq
  | ok fl =>
    cases fl with
    | ret u => exact I1.after hq
    | next => exact False.elim hq
    | brk => exact False.elim hq
    | cont => exact False.elim hq
/-- the names of _law_told -/
def toldN : List Str := [("_law_deed" : Str), ("_law_e" : Str)]
/-- what is known of _law_told -/
structure ToldF (K : PySem.W.Frag) (mg : Str → Option Value) (params : Arguments) (p1 p2 p3 p4 p5 p6 p7 p8 p9 p10 : Pos) (sc : Scope) (fd : FuncData) : Prop where
  fd : FunD K ("_law_told" : Str) ("_law_told" : Str) params [.Try [.Return (some (.Call (.Name "_law_deed" p1) [] [] p2)) p3] [.ExceptHandler (some (.Name "NoughtError" p4)) (some "_law_e") [.Return (some (.Call (.Name "_law_word" p5) [.Name "_law_e" p6] [] p7)) p8] p9] [] [] p10] sc [] [] (He.ga K "_law_told") fd
  fs : FnScope toldN [("_law_deed" : Str)] sc
  bind : ∀ (body : List Stmt) (kV doc pm : Value) (an : Option Addr) (cdv ct : Value) (us : List Value), us.length = 1 → bindArgs (PySem.W.fnOf ("_law_told" : Str) ("_law_told" : Str) params body sc .none kV doc pm an cdv ct) ⟨us, []⟩ = pure ([("_law_deed" : Str)].zip us)
  gl : mg "_law_told" = some (.ref (He.ga K "_law_told"))
  ne : mg "NoughtError" = some (.ref (He.ga K "NoughtError"))
  d : sc.names.lookup ("_law_deed" : Str) = some .local
  e : sc.names.lookup ("_law_e" : Str) = some .local
  gne : sc.names.lookup ("NoughtError" : Str) = some .globalImplicit
  gw : sc.names.lookup ("_law_word" : Str) = some .globalImplicit
theorem takes_len {X : Cx} {W : WX} (tk : L2N.Takes X W) : L2N.Takes X fun cls d σ H => σ.length = X.N.length → W cls d σ H := fun u s' ⟨a, B, sI, pins, σ, H, cls, d, e, I, nb, up, sky, na, os, ag, w⟩ =>
  tk u s' ⟨a, B, sI, pins, σ, H, cls, d, e, I, nb, up, sky, na, os, ag, w I.len⟩
section
variable {X : Cx} {c : Cn} {k : Nat}
/-- what is wished of the lambda's exceptions: the word -/
def ETold (K : PySem.W.Frag) (mg : Str → Option Value) (body : List Stmt) (sc : Scope) (Q : VK) : XK := fun cls d H' => d = none ∧ ∃ D name, cls = .ref D ∧ WordOf K mg body sc D name ∧ ∀ H'', Keep H' H'' → Q (.str name) H''
theorem told_ok {wp tp : Arguments} {wb : List Stmt} {ws ts : Scope} {wf tf : FuncData} {p1 p2 p3 p4 p5 p6 p7 p8 p9 p10 : Pos} {P cd : Addr} (hK : X.K = c.K) (FW : WordF X.K X.mg wp wb ws wf) (FT : ToldF X.K X.mg tp p1 p2 p3 p4 p5 p6 p7 p8 p9 p10 ts tf)
    (TB : TabB X.base X.mg cd P) (hcode : X.env.code = .ref cd) (hmT : (P, X.env.qual ++ "<lambda>") ∈ c.T) (hu : ∀ p ∈ c.T, p.1 = P → p.2 = X.env.qual ++ "<lambda>") (hr : Room (k + 2) X.A) (hg : Gl X "_law_told")
    (words : ∀ x : String, c.Φ "_law_word" [.str (x : Str)] ≠ .err → c.Φ "_law_word" [.str (x : Str)] = .ok (.str (x : Str)) ∧ WordOf X.K X.mg wb ws (He.ga X.K (x : Str)) (x : Str)) : ToldP X c k := by
  refine ⟨fun body scope e p lpos pos L hbody => ⟨fun pins s σ H Q I h => ?_⟩⟩
  obtain ⟨ρ, G, S, h⟩ := h
  have h : Wp c.K c.T c.W (match evE c.Φ e ρ with
    | .ok d => .ok d
    | .exc x => c.Φ "_law_word" [.str (x : Str)]
    | .err => .err) G H Q := h
  refine wpAny_Call_Name_kw (ld_glob I hg FT.gl ?_ (by decide))
  refine PySem.W.callWith_K (h₀ := X.base) I.ok.mod.kin FT.fd.kp ?_ (by rfl) (by rfl)
  show wpAny _ _ (spliced ((false, eval (.Lambda ⟨[], [], none, [], [], none, []⟩ body scope lpos) X.env) :: backTo pos (starEach [] X.env))) _ _ s
  refine Calls.spliced_cons (lam_make2 I TB hcode hmT hu S.tb rfl (L.has I.ok) fun f c' pm' ctv H1 s' I1 eN T1 hf hfn hfr hco => ?_)
  refine Calls.spliced_nil ⟨I1.kIn, ?_⟩
  obtain ⟨oc, od, dV, kV, doc, pm, an, cdg, ct, osl, rfl, lk, hcg, hD, _⟩ := FT.fd.ex
  have hdV : dV = .none := by
    rcases hD with ⟨_, z⟩ | ⟨z, _⟩
    · exact z
    · exact absurd rfl z
  subst hdV
  have st1 : Stp c.T G H G H1 := ⟨fun b o e => eN b o (S.sub b o e) (fun ps z => S.nt b ps (by rw [e, z])), fun _ _ e => e, eN, fun _ _ h _ _ => h, T1, id⟩
  have rc : codeAny (model X.prog X.w) X.A (.call (.ref (He.ga X.K "_law_told")) ⟨[.ref f], []⟩) (CR C8.CX0 X.stack X.prog X.w H1 s' Q C8.E0) s' := by
    refine run_ofS (N := toldN) (ps := [("_law_deed" : Str)]) (us := [.ref f]) (vs := [.ref f]) lk hcg FT.fs hr I1.env0 (.of_eq (FT.bind _ _ _ _ _ _ _ [.ref f] rfl)) (.cons rfl .nil) rfl fun hr' => ?_
    refine ⟨_, PSs.nox (pss_one (L2N.ps_try_as (X := (cxOf C8.CX0 X.prog X.w X.K X.mg X.base toldN ("_law_told" : Str) ts (He.ga X.K "_law_told") cdg X.A X.stack s' H1 C8.E0).nox) (i := 1) (c := .ref (He.ga X.K "NoughtError")) (Wout := fun _ _ _ _ => False)
      (tb := fun W D σ1 Hb => (∀ cls d σ' H', σ'.length = 2 → ETold X.K X.mg wb ws Q cls d H' → W cls d σ' H') ∧ σ1[0]? = some (some (.ref f)) ∧ Hb c' = some (CodeO c' (X.env.qual ++ "<lambda>")) ∧ TEv { c with W := ETold X.K X.mg wb ws Q } e σ Hb D.rt)
      (ts := fun a cls d D σ H => σ[1]? = some (some (.ref a)) ∧ ∃ D' name, d = none ∧ cls = .ref D' ∧ WordOf X.K X.mg wb ws D' name ∧ ∀ H', Keep H H' → D.rt (.str name) H')
      rfl rfl FT.fs.nd rfl FT.e ⟨FT.gne, by decide, .inl FT.ne⟩ (fun _ _ x => by
        obtain ⟨_, _, _, _, _, _, _, _, _, _, _, _, _, _, _, _, z⟩ := x
        exact z.elim) (fun W pn xe tk hp => ?_) (fun a oe cls d pn hz hf => ?_))), ?_⟩
    · refine ⟨fun pins s1 σ1 Hb D I' h' => ?_⟩
      obtain ⟨hW, h1, h2, h3⟩ := h'
      have hp := pe_actN (CXg := C8.CX0) (Eg := C8.E0) (Ng := toldN) (p1 := p1) (p2 := p2) (i := 0) (E := ETold X.K X.mg wb ws Q) I1 L hf hfn hfr rfl (takes_len tk) (fun cls d σ' H' z hl => hW cls d σ' H' hl z) hr' (fun A outer s H hr2 => hbody A outer s H _ f c' hr2) rfl (.inl FT.d) (by decide) (by decide)
      exact (pss_one (ps_ret (pos := p3) hp)).run pins s1 σ1 Hb D I' ⟨h1, h2, h3⟩
    · refine ⟨fun pins s1 σ1 Hb D I' h' => ?_⟩
      obtain ⟨h1, D', name, rfl, rfl, Wd, hQ⟩ := h'
      obtain ⟨vs, hv⟩ := hf
      have hd : Held ((cxOf C8.CX0 X.prog X.w X.K X.mg X.base toldN ("_law_told" : Str) ts (He.ga X.K "_law_told") cdg X.A X.stack s' H1 C8.E0).nox.suite a ((a, oe) :: pn)) D' a oe := ⟨List.mem_cons_self, ⟨rfl, vs, hv, hz.2.2 vs hv⟩, hz.zc, Wd.exc⟩
      have hpe := pe_word (X := (cxOf C8.CX0 X.prog X.w X.K X.mg X.base toldN ("_law_told" : Str) ts (He.ga X.K "_law_told") cdg X.A X.stack s' H1 C8.E0).nox.suite a ((a, oe) :: pn)) (p := p5) (p1 := p6) (pos := p7) (i := 1) FW Wd hd (RoomH.mono (k := k + 1) ⟨hr'.dp, hr'.un⟩ (by omega)) FT.gw rfl FT.e
      exact (pss_one (ps_ret (pos := p8) hpe)).run pins s1 σ1 Hb D I' ⟨h1, hQ⟩
    · refine ⟨fun cls d σ' H' hl z => ?_, rfl, hco, ρ, G, S.stp st1, ?_⟩
      · obtain ⟨rfl, D', name, rfl, Wd, hQ⟩ := z
        refine ⟨true, Wd.exm, fun _ a na => ⟨List.getElem?_set_self (by rw [hl]; decide), D', name, rfl, rfl, Wd, hQ⟩, fun z => by cases z⟩
      · have h1 := Wp.stp h st1
        cases ev : evE c.Φ e ρ with
        | ok d => rw [ev] at h1; exact h1
        | exc x =>
          rw [ev] at h1
          intro G2 H2 st2
          have h1 : Wp c.K c.T c.W (c.Φ "_law_word" [.str (x : Str)]) G H1 Q := h1
          have ne : c.Φ "_law_word" [.str (x : Str)] ≠ .err := fun z => by rw [z] at h1; exact h1
          obtain ⟨w1, w2⟩ := words x ne
          rw [w1] at h1
          refine ⟨rfl, He.ga X.K (x : Str), (x : Str), by rw [hK], w2, fun H3 k3 => h1 G2 H3 _ (st2.trans ⟨fun b o e => k3 _ _ (st2.sub _ _ e), fun _ _ e => e, fun b o e _ => k3 _ _ e, fun b o h1 _ _ => h1, st2.tb.ext k3, id⟩) (.str _)⟩
        | err => rw [ev] at h1; exact h1
  refine wpAny_call (codeAny_mono rc fun r s2 hq => ?_)
  cases r with
  | error e => exact (show False from hq).elim
  | ok fl =>
    cases fl with
    | ret u => exact I1.after hq
    | next => exact False.elim hq
    | brk => exact False.elim hq
    | cont => exact False.elim hq
end
end Nz

set_option maxHeartbeats 1000000
/-! NzPl: the plain side: rules for the small language's loops, rewriting of its terms. -/
namespace Nz
open PySem
/-! ### loops -/
theorem whileF_inv {c : Env → R D} {b : Env → Out} (I : Nat → Env → Prop) (P : Env → Prop)
    (step : ∀ m ρ, I m ρ → (c ρ = .ok (.bool true) ∧ ∃ ρ' m', b ρ = .nx ρ' ∧ m' < m ∧ I m' ρ') ∨ (c ρ = .ok (.bool false) ∧ P ρ)) : ∀ (n m : Nat) (ρ : Env), m < n → I m ρ → ∃ ρ', whileF c b n ρ = .nx ρ' ∧ P ρ'
  | 0, m, ρ, h, _ => absurd h (Nat.not_lt_zero _)
  | n + 1, m, ρ, h, i => by
    rcases step m ρ i with ⟨h1, ρ', m', h2, h3, h4⟩ | ⟨h1, h2⟩
    · obtain ⟨ρ2, h5, h6⟩ := whileF_inv I P step n m' ρ' (by omega) h4
      refine ⟨ρ2, ?_, h6⟩
      show Rout (c ρ) _ = _
      rw [h1]
      show (match b ρ with | .nx ρ' => whileF c b n ρ' | r => r) = _
      rw [h2]
      exact h5
    · refine ⟨ρ, ?_, h2⟩
      show Rout (c ρ) _ = _
      rw [h1]; rfl
/-- a for loop that runs through -/
theorem forF_inv {bd : D → Env → R Env} {b : Env → Out} (I : Nat → Env → Prop) : ∀ (l : List D) (k : Nat) (ρ : Env),
    (∀ i (h : i < l.length) ρ, I (k + i) ρ → ∃ ρ1 ρ2, bd l[i] ρ = .ok ρ1 ∧ b ρ1 = .nx ρ2 ∧ I (k + i + 1) ρ2) → I k ρ → ∃ ρ', forF bd b l ρ = .nx ρ' ∧ I (k + l.length) ρ'
  | [], k, ρ, _, i => ⟨ρ, rfl, i⟩
  | x :: xs, k, ρ, step, i => by
    obtain ⟨ρ1, ρ2, h1, h2, h3⟩ := step 0 (by simp) ρ i
    have h1 : bd x ρ = .ok ρ1 := h1
    obtain ⟨ρ3, h4, h5⟩ := forF_inv I xs (k + 1) ρ2 (fun j h ρ hI => by
      have := step (j + 1) (by simpa using h) ρ (by rw [show k + (j + 1) = k + 1 + j by omega]; exact hI)
      simp only [List.getElem_cons_succ] at this
      rw [show k + (j + 1) + 1 = k + 1 + j + 1 by omega] at this
      exact this) h3
    refine ⟨ρ3, ?_, by rw [List.length_cons, show k + (xs.length + 1) = k + 1 + xs.length by omega]; exact h5⟩
    show (match bd x ρ with
      | .ok ρ1 => (match b ρ1 with
        | .nx ρ' => forF bd b xs ρ'
        | r => r)
      | _ => .er) = _
    rw [h1]
    show (match b ρ1 with
        | .nx ρ' => forF bd b xs ρ'
        | r => r) = _
    rw [h2]
    exact h4
/-! ### rewriting -/
section
variable (Φ : String → List D → R D) (ρ : Env)
@[simp] theorem evE_con (d : D) : evE Φ (.con d) ρ = (.ok d) := rfl
@[simp] theorem evE_var (i : Nat) : evE Φ (.var i) ρ = (getV ρ i) := rfl
@[simp] theorem evE_rd (i : Nat) : evE Φ (.rd i) ρ = (getR ρ i) := rfl
@[simp] theorem evE_bin (o : Bop) (a : E) (b : E) : evE Φ (.bin o a b) ρ = ((evE Φ a ρ).bind fun x => (evE Φ b ρ).bind fun y => binD o x y) := rfl
@[simp] theorem evE_neg (a : E) : evE Φ (.neg a) ρ = ((evE Φ a ρ).bind fun x => match x with | .int i => .ok (.int (-i)) | _ => .err) := rfl
@[simp] theorem evE_cmp (o : Cop) (a : E) (b : E) : evE Φ (.cmp o a b) ρ = ((evE Φ a ρ).bind fun x => (evE Φ b ρ).bind fun y => (cmpD o x y).bind fun c => .ok (.bool c)) := rfl
@[simp] theorem evE_cmp2 (o : Cop) (p : Cop) (a : E) (b : E) (c : E) : evE Φ (.cmp2 o p a b c) ρ = ((evE Φ a ρ).bind fun x => (evE Φ b ρ).bind fun y => (cmpD o x y).bind fun k =>
        if k then (evE Φ c ρ).bind fun z => (cmpD p y z).bind fun c => .ok (.bool c) else .ok (.bool false)) := rfl
@[simp] theorem evE_not (a : E) : evE Φ (.not a) ρ = ((evE Φ a ρ).bind fun x => (R.bool x).bind fun c => .ok (.bool (!c))) := rfl
@[simp] theorem evE_and (a : E) (b : E) : evE Φ (.and a b) ρ = ((evE Φ a ρ).bind fun x => (R.bool x).bind fun c => if c then evE Φ b ρ else .ok (.bool false)) := rfl
@[simp] theorem evE_or (a : E) (b : E) : evE Φ (.or a b) ρ = ((evE Φ a ρ).bind fun x => (R.bool x).bind fun c => if c then .ok (.bool true) else evE Φ b ρ) := rfl
@[simp] theorem evE_ife (t : E) (a : E) (b : E) : evE Φ (.ife t a b) ρ = ((evE Φ t ρ).bind fun x => (R.bool x).bind fun c => if c then evE Φ a ρ else evE Φ b ρ) := rfl
@[simp] theorem evE_nil  : evE Φ (.nil) ρ = (.ok (.list [])) := rfl
@[simp] theorem evE_cons (a : E) (as : E) : evE Φ (.cons a as) ρ = ((evE Φ a ρ).bind fun x => (evE Φ as ρ).bind fun y => (R.list y).bind fun l => .ok (.list (x :: l))) := rfl
@[simp] theorem evE_tup (as : E) : evE Φ (.tup as) ρ = ((evE Φ as ρ).bind fun y => (R.list y).bind fun l => if l.length ≤ LINE then .ok (.tuple l) else .err) := rfl
@[simp] theorem evE_lst (as : E) : evE Φ (.lst as) ρ = ((evE Φ as ρ).bind fun y => (R.list y).bind fun l => if l.length ≤ LINE then .ok (.list l) else .err) := rfl
@[simp] theorem evE_dic  : evE Φ (.dic) ρ = (.ok (.dict [])) := rfl
@[simp] theorem evE_idx (a : E) (i : E) : evE Φ (.idx a i) ρ = ((evE Φ a ρ).bind fun x => (evE Φ i ρ).bind fun y => idxD x y) := rfl
@[simp] theorem evE_sli (a : E) (lo : E) (hi : E) : evE Φ (.sli a lo hi) ρ = ((evE Φ a ρ).bind fun x => (partE lo (evE Φ lo ρ)).bind fun l => (partE hi (evE Φ hi ρ)).bind fun h => sliD x l h) := rfl
@[simp] theorem evE_rev (a : E) : evE Φ (.rev a) ρ = ((evE Φ a ρ).bind fun x => (R.list x).bind fun l => .ok (.list l.reverse)) := rfl
@[simp] theorem evE_call (f : String) (as : E) : evE Φ (.call f as) ρ = ((evE Φ as ρ).bind fun y => (R.list y).bind fun l => Φ f l) := rfl
@[simp] theorem evE_blt (f : Blt) (as : E) : evE Φ (.blt f as) ρ = ((evE Φ as ρ).bind fun y => (R.list y).bind fun l => bltD f l) := rfl
@[simp] theorem evE_met (m : PySem.Str) (a : E) (as : E) : evE Φ (.met m a as) ρ = ((evE Φ a ρ).bind fun x => (evE Φ as ρ).bind fun y => (R.list y).bind fun l => metD m x l) := rfl
@[simp] theorem evE_isi (a : E) (ty : Ty) : evE Φ (.isi a ty) ρ = ((evE Φ a ρ).bind fun x => (isiD x ty).bind fun c => .ok (.bool c)) := rfl
@[simp] theorem evE_len (a : E) : evE Φ (.len a) ρ = ((evE Φ a ρ).bind lenD) := rfl
@[simp] theorem evE_srt (a : E) : evE Φ (.srt a) ρ = ((evE Φ a ρ).bind srtD) := rfl
@[simp] theorem evE_ssort (a : E) : evE Φ (.ssort a) ρ = (.err) := rfl
@[simp] theorem evE_slen (a : E) : evE Φ (.slen a) ρ = (.err) := rfl
@[simp] theorem evE_comp (own : List Nat) (pat : Pat) (k : Ik) (src : E) (tst : E) (elt : E) : evE Φ (.comp own pat k src tst elt) ρ = ((evE Φ src ρ).bind fun s => (itD k s).bind fun items =>
        (shut (compL (fun x => bindP pat x (wipeE ρ own)) (fun ρ1 => evE Φ tst ρ1) (fun ρ1 => evE Φ elt ρ1) items)).bind fun l => if l.length ≤ LINE then .ok (.list l) else .err) := rfl
@[simp] theorem evE_told (a : E) : evE Φ (.told a) ρ = (match evE Φ a ρ with
      | .ok d => .ok d
      | .exc c => Φ "_law_word" [.str (c : Str)]
      | .err => .err) := rfl
@[simp] theorem exS_skip  : exS Φ (.skip) ρ = (.nx ρ) := rfl
@[simp] theorem exS_seq (a : S) (b : S) : exS Φ (.seq a b) ρ = ((match exS Φ a ρ with
      | .nx ρ' => exS Φ b ρ'
      | r => r)) := rfl
@[simp] theorem exS_asg (i : Nat) (e : E) : exS Φ (.asg i e) ρ = (Rout (evE Φ e ρ) fun d => .nx (ρ.set i (some (.val d)))) := rfl
@[simp] theorem exS_asgO (i : Nat) (e : E) : exS Φ (.asgO i e) ρ = (Rout (evE Φ e ρ) fun d => .nx (ρ.set i (some (.own d)))) := rfl
@[simp] theorem exS_asgP (p : Pat) (e : E) : exS Φ (.asgP p e) ρ = (Rout (evE Φ e ρ) fun d => match bindP p d ρ with | .ok ρ' => .nx ρ' | _ => .er) := rfl
@[simp] theorem exS_par (i : Nat) (j : Nat) (a : E) (b : E) : exS Φ (.par i j a b) ρ = (Rout (evE Φ a ρ) fun x => Rout (evE Φ b ρ) fun y => .nx ((ρ.set i (some (.val x))).set j (some (.val y)))) := rfl
@[simp] theorem exS_app (i : Nat) (e : E) : exS Φ (.app i e) ρ = ((match getO ρ i with
      | .ok (.list l) => Rout (evE Φ e ρ) fun d => if l.length < LINE then .nx (ρ.set i (some (.own (.list (l ++ [d]))))) else .er
      | _ => .er)) := rfl
@[simp] theorem exS_ext (i : Nat) (e : E) : exS Φ (.ext i e) ρ = ((match getO ρ i with
      | .ok (.list l) => Rout (evE Φ e ρ) fun d => match d with
        | .list m => if l.length + m.length ≤ LINE then .nx (ρ.set i (some (.own (.list (l ++ m))))) else .er
        | _ => .er
      | _ => .er)) := rfl
@[simp] theorem exS_ins (x0 : Nat) (x1 : E) (x2 : E) : exS Φ (.ins x0 x1 x2) ρ = (.er) := rfl
@[simp] theorem exS_put (i : Nat) (k : E) (e : E) : exS Φ (.put i k e) ρ = (Rout (evE Φ e ρ) fun d => (match getO ρ i with
      | .ok (.list l) => Rout (evE Φ k ρ) fun k => match k with
        | .int j => (match L2.ixN l.length j with | some m => .nx (ρ.set i (some (.own (.list (l.set m d))))) | none => .er)
        | _ => .er
      | _ => .er)) := rfl
@[simp] theorem exS_exp (e : E) : exS Φ (.exp e) ρ = (Rout (evE Φ e ρ) fun _ => .nx ρ) := rfl
@[simp] theorem exS_ite (c : E) (a : S) (b : S) : exS Φ (.ite c a b) ρ = (Rout (evE Φ c ρ) fun x => match x with
      | .bool true => exS Φ a ρ
      | .bool false => exS Φ b ρ
      | _ => .er) := rfl
@[simp] theorem exS_whl (c : E) (b : S) : exS Φ (.whl c b) ρ = (whileF (fun ρ => evE Φ c ρ) (fun ρ => exS Φ b ρ) FUEL ρ) := rfl
@[simp] theorem exS_for (p : Pat) (k : Ik) (src : E) (b : S) : exS Φ (.for p k src b) ρ = (Rout ((evE Φ src ρ).bind fun s => itD k s) fun items => forF (fun x ρ => bindP p x ρ) (fun ρ => exS Φ b ρ) items ρ) := rfl
@[simp] theorem exS_ret (e : E) : exS Φ (.ret e) ρ = (Rout (evE Φ e ρ) fun d => .rt d) := rfl
@[simp] theorem exS_rse (c : String) : exS Φ (.rse c) ρ = (.xc c) := rfl
@[simp] theorem exS_frz (is : List Nat) : exS Φ (.frz is) ρ = (.nx (is.foldl frzE ρ)) := rfl
@[simp] theorem Rout_ok {α : Type} (a : α) (f : α → Out) : Rout (.ok a) f = f a := rfl
@[simp] theorem Rout_exc {α : Type} (c : String) (f : α → Out) : Rout (.exc c) f = .xc c := rfl
@[simp] theorem Rout_err {α : Type} (f : α → Out) : Rout (.err) f = .er := rfl
@[simp] theorem Rbool (b : Bool) : R.bool (.bool b) = .ok b := rfl
@[simp] theorem Rlist (b : List D) : R.list (.list b) = .ok b := rfl
@[simp] theorem getV_def (i : Nat) : getV ρ i = (match ρ[i]? with | some (some (.val d)) => .ok d | _ => .err) := rfl
@[simp] theorem getR_def (i : Nat) : getR ρ i = (match ρ[i]? with | some (some (.val d)) => .ok d | some (some (.own d)) => .ok d | _ => .err) := rfl
@[simp] theorem getO_def (i : Nat) : getO ρ i = (match ρ[i]? with | some (some (.own d)) => .ok d | _ => .err) := rfl
@[simp] theorem binD_add : binD .add = addD := rfl
@[simp] theorem binD_sub : binD .sub = subD := rfl
@[simp] theorem binD_mul : binD .mul = mulD := rfl
@[simp] theorem binD_fdiv : binD .fdiv = fdivD := rfl
@[simp] theorem binD_mod : binD .mod = modD := rfl
@[simp] theorem binD_pow : binD .pow = powD := rfl
@[simp] theorem add_int (i j : Int) : addD (.int i) (.int j) = .ok (.int (i + j)) := rfl
@[simp] theorem add_list (a b : List D) : addD (.list a) (.list b) = (if a.length + b.length ≤ LINE then .ok (.list (a ++ b)) else .err) := rfl
@[simp] theorem add_str (a b : PySem.Str) : addD (.str a) (.str b) = (if a.length + b.length ≤ LINE then .ok (.str (a ++ b)) else .err) := rfl
@[simp] theorem sub_int (i j : Int) : subD (.int i) (.int j) = .ok (.int (i - j)) := rfl
@[simp] theorem mul_int (i j : Int) : mulD (.int i) (.int j) = (if okMul i j then .ok (.int (i * j)) else .err) := rfl
@[simp] theorem mul_list (a : List D) (j : Int) : mulD (.list a) (.int j) = (if okRep a.length j then .ok (.list (List.replicate j.toNat a).flatten) else .err) := rfl
@[simp] theorem fdiv_int (i j : Int) : fdivD (.int i) (.int j) = (if okDiv j then .ok (.int (i.fdiv j)) else .err) := rfl
@[simp] theorem mod_int (i j : Int) : modD (.int i) (.int j) = (if j = 0 then .err else .ok (.int (i.fmod j))) := rfl
@[simp] theorem pow_int (i j : Int) : powD (.int i) (.int j) = (if okPow i j then .ok (.int (i ^ j.toNat)) else .err) := rfl
@[simp] theorem cmp_eq (a b : D) : cmpD .eq a b = eqD a b := rfl
@[simp] theorem cmp_ne (a b : D) : cmpD .ne a b = neg (eqD a b) := rfl
@[simp] theorem cmp_lt (i j : Int) : cmpD .lt (.int i) (.int j) = .ok (decide (i < j)) := rfl
@[simp] theorem cmp_le (i j : Int) : cmpD .le (.int i) (.int j) = .ok (decide (i ≤ j)) := rfl
@[simp] theorem cmp_gt (i j : Int) : cmpD .gt (.int i) (.int j) = .ok (decide (j < i)) := rfl
@[simp] theorem cmp_ge (i j : Int) : cmpD .ge (.int i) (.int j) = .ok (decide (j ≤ i)) := rfl
@[simp] theorem cmp_in (a b : D) : cmpD .isin a b = inD a b := rfl
@[simp] theorem cmp_notin (a b : D) : cmpD .notin a b = neg (inD a b) := rfl
@[simp] theorem cmp_is (a b : D) : cmpD .is a b = isD a b := rfl
@[simp] theorem cmp_isnt (a b : D) : cmpD .isnt a b = neg (isD a b) := rfl
@[simp] theorem neg_ok (b : Bool) : neg (.ok b) = .ok (!b) := rfl
@[simp] theorem len_list (l : List D) : lenD (.list l) = .ok (.int l.length) := rfl
@[simp] theorem len_tuple (l : List D) : lenD (.tuple l) = .ok (.int l.length) := rfl
@[simp] theorem bindP_nm (i : Nat) (d : D) : bindP (.nm i) d ρ = .ok (ρ.set i (some (.val d))) := rfl
@[simp] theorem bindP_p2 (a b : Pat) (x y : D) : bindP (.p2 a b) (.tuple [x, y]) ρ = (bindP a x ρ).bind fun ρ1 => bindP b y ρ1 := rfl
end
@[simp] theorem isi_int (i : Int) (t : Ty) : isiD (.int i) t = .ok (match t with | .int => true | _ => false) := by cases t <;> rfl
@[simp] theorem isi_bool (i : Bool) (t : Ty) : isiD (.bool i) t = .ok (match t with | .int => true | .bool => true | _ => false) := by cases t <;> rfl
@[simp] theorem isi_none (t : Ty) : isiD .none t = .ok false := rfl
@[simp] theorem isi_str (x : PySem.Str) (t : Ty) : isiD (.str x) t = .ok (match t with | .str => true | _ => false) := by cases t <;> rfl
@[simp] theorem isi_list (x : List D) (t : Ty) : isiD (.list x) t = .ok (match t with | .list => true | _ => false) := by cases t <;> rfl
@[simp] theorem isi_tuple (x : List D) (t : Ty) : isiD (.tuple x) t = .ok (match t with | .tuple => true | _ => false) := by cases t <;> rfl
theorem run_def (Φ : String → List D → R D) (n : Nat) (b : S) (as : List D) : run Φ n b as = (match exS Φ b (entE n as) with
    | .nx _ => .ok .none
    | .rt d => .ok d
    | .xc c => .exc c
    | .er => .err) := rfl
theorem seq_nx {Φ : String → List D → R D} {a b : S} {ρ ρ' : Env} (h : exS Φ a ρ = .nx ρ') : exS Φ (.seq a b) ρ = exS Φ b ρ' := by rw [exS_seq, h]
theorem seq_rt {Φ : String → List D → R D} {a b : S} {ρ : Env} {d : D} (h : exS Φ a ρ = .rt d) : exS Φ (.seq a b) ρ = .rt d := by rw [exS_seq, h]
theorem run_rt {Φ : String → List D → R D} {n : Nat} {b : S} {as : List D} {d : D} (h : exS Φ b (entE n as) = .rt d) : run Φ n b as = .ok d := by rw [run_def, h]
theorem run_xc {Φ : String → List D → R D} {n : Nat} {b : S} {as : List D} {c : String} (h : exS Φ b (entE n as) = .xc c) : run Φ n b as = .exc c := by rw [run_def, h]
theorem run_nx {Φ : String → List D → R D} {n : Nat} {b : S} {as : List D} {ρ : Env} (h : exS Φ b (entE n as) = .nx ρ) : run Φ n b as = .ok .none := by rw [run_def, h]
@[simp] theorem mul_str (a : PySem.Str) (j : Int) : mulD (.str a) (.int j) = (if okRep a.length j then .ok (.str (Txt.mul a j)) else .err) := rfl
theorem int_str {x : PySem.Str} {n : Int} (h : x.length ≤ 640) (h2 : PySem.intText? x = some n) : bltD .int [.str x] = .ok (.int n) := by
  have e : bltD .int [.str x] = (if x.length ≤ 640 then (match PySem.intText? x with | some n => .ok (.int n) | none => .err) else .err) := rfl
  rw [e, if_pos h, h2]
/-! ### tests of the defs -/
def s_is_count : S := (.seq (.ret (.and (.isi (.var 0) .int) (.and (.not (.isi (.var 0) .bool)) (.cmp2 .le .le (.var 1) (.var 0) (.var 2))))) .skip)
def isCnt (d : D) (lo hi : Int) : R D := match d with
  | .int i => .ok (.bool (decide (lo ≤ i) && decide (i ≤ hi)))
  | .dict _ => .err
  | _ => .ok (.bool false)
theorem is_count_run (Φ : String → List D → R D) (d : D) (lo hi : Int) (h : isCnt d lo hi ≠ .err) : run Φ 3 s_is_count [d, .int lo, .int hi] = isCnt d lo hi := by
  cases d with
  | int i =>
    by_cases h : lo ≤ i
    · simp [run_def, entE, s_is_count, isCnt, h]
    · simp [run_def, entE, s_is_count, isCnt, h]
  | dict _ => exact absurd rfl h
  | _ => simp [run_def, entE, s_is_count, isCnt]
end Nz

set_option maxHeartbeats 1000000
/-! NzNum: the plain laws of the numbers' defs. -/
namespace Nz
open PySem
/-! ### limits -/
theorem okMul_l {i j : Int} (h : i.natAbs < 2 ^ 64) : okMul i j = true := by simp [okMul, h]
theorem okMul_r {i j : Int} (h : j.natAbs < 2 ^ 64) : okMul i j = true := by simp [okMul, h]
theorem log2_lt {n k : Nat} (h : n < 2 ^ (k + 1)) : n.log2 < k + 1 := by
  by_cases z : n = 0
  · subst z; simp
  · exact (Nat.log2_lt z).mpr h
theorem okMul_b {i j : Int} (h : i.natAbs < 2 ^ 400000) (h2 : j.natAbs < 2 ^ 400000) : okMul i j = true := by
  have a := log2_lt (k := 399999) h
  have b := log2_lt (k := 399999) h2
  simp [okMul]; right; omega
theorem okDiv_s {j : Int} (h0 : j ≠ 0) (h : j.natAbs < 2 ^ 9000) : okDiv j = true := by
  have a := log2_lt (k := 8999) h
  simp [okDiv, h0]; omega
/-! ### the root by halving -/
def s_root_below : S := (.seq (.par 1 2 (.con (.int 0)) (.bin .add (.var 0) (.con (.int 1)))) (.seq (.whl (.cmp .gt (.bin .sub (.var 2) (.var 1)) (.con (.int 1))) (.seq (.asg 3 (.bin .fdiv (.bin .add (.var 1) (.var 2)) (.con (.int 2)))) (.seq (.ite (.cmp .le (.bin .mul (.var 3) (.var 3)) (.var 0)) (.seq (.asg 1 (.var 3)) .skip) (.seq (.asg 2 (.var 3)) .skip)) .skip))) (.seq (.ret (.var 1)) .skip)))
def IsRoot (s r : Int) : Prop := 0 ≤ r ∧ r * r ≤ s ∧ s < (r + 1) * (r + 1)
theorem IsRoot.uniq {s r t : Int} (a : IsRoot s r) (b : IsRoot s t) : r = t := by
  obtain ⟨a0, a1, a2⟩ := a
  obtain ⟨b0, b1, b2⟩ := b
  have key : ∀ {x y : Int}, 0 ≤ x → 0 ≤ y → x * x ≤ s → s < (y + 1) * (y + 1) → x ≤ y := fun {x y} hx hy h1 h2 => by
    by_cases h : x ≤ y
    · exact h
    · have h3 : y + 1 ≤ x := by omega
      have := Int.mul_le_mul h3 h3 (by omega) (by omega)
      omega
  have p := key a0 b0 a1 b2
  have q := key b0 a0 b1 a2
  omega
theorem root_below_run (Φ : String → List D → R D) (s : Int) (h0 : 0 ≤ s) (hb : s.natAbs < 2 ^ 300000) : ∃ r, IsRoot s r ∧ run Φ 4 s_root_below [.int s] = .ok (.int r) := by
  have loop := whileF_inv (c := fun ρ => evE Φ (.cmp .gt (.bin .sub (.var 2) (.var 1)) (.con (.int 1))) ρ) (b := fun ρ => exS Φ (.seq (.asg 3 (.bin .fdiv (.bin .add (.var 1) (.var 2)) (.con (.int 2)))) (.seq (.ite (.cmp .le (.bin .mul (.var 3) (.var 3)) (.var 0)) (.seq (.asg 1 (.var 3)) .skip) (.seq (.asg 2 (.var 3)) .skip)) .skip)) ρ)
    (fun m ρ => ∃ lo hi x, ρ = [some (.val (.int s)), some (.val (.int lo)), some (.val (.int hi)), x] ∧ 0 ≤ lo ∧ lo < hi ∧ hi ≤ s + 1 ∧ lo * lo ≤ s ∧ s < hi * hi ∧ hi - lo ≤ 2 ^ m)
    (fun ρ => ∃ lo x y, ρ = [some (.val (.int s)), some (.val (.int lo)), x, y] ∧ IsRoot s lo) ?_ FUEL 300001 [some (.val (.int s)), some (.val (.int 0)), some (.val (.int (s + 1))), none] (by unfold FUEL; omega) ?_
  · obtain ⟨ρ', h1, lo, x, y, rfl, h2⟩ := loop
    refine ⟨lo, h2, ?_⟩
    simp [run_def, entE, s_root_below] at h1 ⊢
    rw [h1]
    simp
  · rintro m ρ ⟨lo, hi, x, rfl, h1, h2, h3, h4, h5, h6⟩
    by_cases hg : 1 < hi - lo
    · left
      refine ⟨by simp [hg], ?_⟩
      have hm : 0 < m := by
        rcases Nat.eq_zero_or_pos m with z | z
        · subst z; simp at h6; omega
        · exact z
      obtain ⟨m', rfl⟩ : ∃ m', m = m' + 1 := ⟨m - 1, by omega⟩
      have e2 : (lo + hi).fdiv 2 = (lo + hi) / 2 := Int.fdiv_eq_ediv_of_nonneg _ (by decide)
      have hp : (2 : Int) ^ (m' + 1) = 2 * 2 ^ m' := by rw [Int.pow_succ]; omega
      rw [hp] at h6
      generalize hmid : (lo + hi) / 2 = mid at *
      have b1 : mid.natAbs < 2 ^ 400000 := by
        have : mid.natAbs ≤ s.natAbs + 1 := by omega
        have e : (2 : Nat) ^ 300000 + 1 ≤ 2 ^ 400000 := by
          have : (2 : Nat) ^ 300001 ≤ 2 ^ 400000 := Nat.pow_le_pow_right (by decide) (by decide)
          have e3 : (2 : Nat) ^ 300001 = 2 * 2 ^ 300000 := by rw [Nat.pow_succ]; omega
          have : 1 ≤ (2 : Nat) ^ 300000 := Nat.one_le_two_pow
          omega
        omega
      have om := okMul_b b1 b1
      by_cases hc : mid * mid ≤ s
      · refine ⟨[some (.val (.int s)), some (.val (.int mid)), some (.val (.int hi)), some (.val (.int mid))], m', by simp [e2, om, hc, show okDiv 2 = true by decide], by omega, mid, hi, _, rfl, by omega, by omega, h3, hc, h5, by omega⟩
      · refine ⟨[some (.val (.int s)), some (.val (.int lo)), some (.val (.int mid)), some (.val (.int mid))], m', by simp [e2, om, hc, show okDiv 2 = true by decide], by omega, lo, mid, _, rfl, h1, by omega, by omega, h4, by omega, by omega⟩
    · right
      refine ⟨by simp [hg], lo, _, _, rfl, h1, h4, ?_⟩
      have : hi = lo + 1 := by omega
      rw [← this]; exact h5
  · refine ⟨0, s + 1, none, rfl, by omega, by omega, by omega, by omega, ?_, ?_⟩
    · have : (s + 1) * 1 ≤ (s + 1) * (s + 1) := Int.mul_le_mul_of_nonneg_left (by omega) (by omega)
      omega
    · have e : ((2 : Nat) ^ 300001 : Nat) = 2 * 2 ^ 300000 := by rw [Nat.pow_succ]; omega
      have e3 : (2 : Int) ^ 300001 = ((2 ^ 300001 : Nat) : Int) := by simp
      rw [e3, e]
      omega
end Nz

set_option maxHeartbeats 1000000
/-! NzNum2: the tests, the plain form, the digits. -/
namespace Nz
open PySem
/-! ### comprehensions -/
theorem compL_map {b : D → R Env} {t e : Env → R D} {g : D → Env} {p : D → Bool} {f : D → D} : ∀ {l : List D}, (∀ x ∈ l, b x = .ok (g x)) → (∀ x ∈ l, t (g x) = .ok (.bool (p x))) → (∀ x ∈ l, p x = true → e (g x) = .ok (f x)) → compL b t e l = .ok ((l.filter p).map f)
  | [], _, _, _ => rfl
  | x :: xs, hb, ht, he => by
    have ih := compL_map (l := xs) (fun y hy => hb y (List.mem_cons_of_mem _ hy)) (fun y hy => ht y (List.mem_cons_of_mem _ hy)) (fun y hy => he y (List.mem_cons_of_mem _ hy))
    show ((b x).bind fun ρ => (t ρ).bind fun c => match c with
      | .bool true => (e ρ).bind fun y => (compL b t e xs).bind fun ys => .ok (y :: ys)
      | .bool false => compL b t e xs
      | _ => .err) = _
    rw [hb x List.mem_cons_self]
    show ((t (g x)).bind fun c => match c with
      | .bool true => (e (g x)).bind fun y => (compL b t e xs).bind fun ys => .ok (y :: ys)
      | .bool false => compL b t e xs
      | _ => .err) = _
    rw [ht x List.mem_cons_self]
    cases hp : p x with
    | true =>
      show ((e (g x)).bind fun y => (compL b t e xs).bind fun ys => .ok (y :: ys)) = _
      rw [he x List.mem_cons_self hp, ih]
      simp [hp]
    | false =>
      show compL b t e xs = _
      rw [ih]; simp [hp]
theorem boolsD_map {α : Type} (f : α → Bool) : ∀ l : List α, boolsD (l.map fun x => .bool (f x)) = some (l.map f)
  | [] => rfl
  | x :: l => by simp [boolsD, boolsD_map f l]
theorem intsD_map {α : Type} (f : α → Int) : ∀ l : List α, intsD (l.map fun x => .int (f x)) = some (l.map f)
  | [] => rfl
  | x :: l => by simp [intsD, intsD_map f l]
/-! ### the tests -/
def needD (r : R D) (c : String) : R D := r.bind fun b => match b with
  | .bool true => .ok .none
  | .bool false => .exc c
  | _ => .err
def s_need_count : S := (.seq (.ite (.not (.call "is_count" (.cons (.var 0) (.cons (.var 1) (.cons (.var 2) .nil))))) (.seq (.rse "BadNumber") .skip) .skip) .skip)
theorem need_count_run (Φ : String → List D → R D) (d : D) (lo hi : Int) (h : Φ "is_count" [d, .int lo, .int hi] = isCnt d lo hi) : run Φ 3 s_need_count [d, .int lo, .int hi] = needD (isCnt d lo hi) "BadNumber" := by
  cases d with
  | int i =>
    by_cases h1 : lo ≤ i <;> by_cases h2 : i ≤ hi <;> simp [run_def, entE, s_need_count, h, isCnt, needD, h1, h2]
  | _ => simp [run_def, entE, s_need_count, h, isCnt, needD]
def isNum (d : D) : R D := match d with
  | .tuple [a, b] => (isCnt a (-99) 99).bind fun x => match x with
    | .bool true => isCnt b 1 99
    | .bool false => .ok (.bool false)
    | _ => .err
  | .dict _ => .err
  | _ => .ok (.bool false)
theorem isCnt_cases (d : D) (lo hi : Int) : isCnt d lo hi = .err ∨ ∃ b, isCnt d lo hi = .ok (.bool b) := by
  cases d <;> first | exact .inl rfl | exact .inr ⟨_, rfl⟩
theorem isNum_cases (d : D) : isNum d = .err ∨ ∃ b, isNum d = .ok (.bool b) := by
  unfold isNum
  split
  · rename_i a b
    rcases isCnt_cases a (-99) 99 with h | ⟨x, h⟩
    · rw [h]; exact .inl rfl
    · rw [h]
      cases x with
      | true => exact isCnt_cases b 1 99
      | false => exact .inr ⟨_, rfl⟩
  · exact .inl rfl
  · exact .inr ⟨_, rfl⟩
def s_is_number : S := (.seq (.asg 1 (.and (.isi (.var 0) .tuple) (.cmp .eq (.len (.rd 0)) (.con (.int 2))))) (.seq (.ret (.and (.var 1) (.and (.call "is_count" (.cons (.idx (.rd 0) (.con (.int 0))) (.cons (.bin .sub (.con (.int 0)) (.con (.int 99))) (.cons (.con (.int 99)) .nil)))) (.call "is_count" (.cons (.idx (.rd 0) (.con (.int 1))) (.cons (.con (.int 1)) (.cons (.con (.int 99)) .nil))))))) .skip))
@[simp] theorem eq_int (i j : Int) : eqD (.int i) (.int j) = .ok (decide (i = j)) := by
  show (if (shp (.int i) && shp (.int j)) then R.ok (PyData.eqv (.int i) (.int j)) else .err) = _
  rw [if_pos (by simp [shp, SeqAt.shaped, PyData.canLay0, PyData.depth])]
  congr 1
theorem eq_str {i j : PySem.Str} (hi : PyData.strOk i = true) (hj : PyData.strOk j = true) : eqD (.str i) (.str j) = .ok (i == j) := by
  show (if (shp (.str i) && shp (.str j)) then R.ok (PyData.eqv (.str i) (.str j)) else .err) = _
  rw [if_pos (by simp [shp, SeqAt.shaped, PyData.canLay0, PyData.depth, hi, hj])]
  congr 1
theorem shp_ints (l : List Int) : shp (.list (l.map .int)) = true := by
  have h1 := ints_lay l
  have h2 := ints_depth l
  simp [shp, SeqAt.shaped, PyData.canLay0, PyData.depth, h1]; omega
theorem eqvAll_ints : ∀ l m : List Int, PyData.eqvAll (l.map .int) (m.map .int) = decide (l = m)
  | [], [] => rfl
  | [], _ :: _ => by simp [PyData.eqvAll]
  | _ :: _, [] => by simp [PyData.eqvAll]
  | x :: l, y :: m => by
    simp only [List.map_cons, PyData.eqvAll, PyData.eqv, eqvAll_ints l m, List.cons.injEq]
    by_cases h : x = y <;> by_cases h2 : l = m <;> simp [h, h2]
theorem eq_ints (l m : List Int) : eqD (.list (l.map .int)) (.list (m.map .int)) = .ok (decide (l = m)) := by
  show (if (shp (.list (l.map .int)) && shp (.list (m.map .int))) then R.ok (PyData.eqv (.list (l.map .int)) (.list (m.map .int))) else .err) = _
  rw [if_pos (by simp [shp_ints]), PyData.eqv, eqvAll_ints]
theorem is_number_run (Φ : String → List D → R D) (d : D) (h : ∀ x lo hi, isCnt x lo hi ≠ .err → Φ "is_count" [x, .int lo, .int hi] = isCnt x lo hi) (hd : isNum d ≠ .err) : run Φ 2 s_is_number [d] = isNum d := by
  have ix : ∀ (l : List D) (i : Int), idxD (.tuple l) (.int i) = (match L2.atI l i with | some d => .ok d | none => .err) := fun _ _ => rfl
  cases d with
  | tuple l =>
    match l with
    | [] => simp [run_def, entE, s_is_number, isNum]
    | [a] => simp [run_def, entE, s_is_number, isNum]
    | [a, b] =>
      have hd : ((isCnt a (-99) 99).bind fun x => match x with
        | .bool true => isCnt b 1 99
        | .bool false => .ok (.bool false)
        | _ => .err) ≠ .err := hd
      have h1 : isCnt a (-99) 99 ≠ .err := fun z => by rw [z] at hd; exact hd rfl
      have e1 := h a (-99) 99 h1
      rcases isCnt_cases a (-99) 99 with z | ⟨x, z⟩
      · exact absurd z h1
      · rw [z] at e1 hd
        cases x with
        | true =>
          have h2 : isCnt b 1 99 ≠ .err := hd
          have e2 := h b 1 99 h2
          rcases isCnt_cases b 1 99 with z2 | ⟨y, z2⟩
          · exact absurd z2 h2
          · rw [z2] at e2
            simp [run_def, entE, s_is_number, isNum, ix, L2.atI, L2.ixN, e1, e2, z, z2]
        | false => simp [run_def, entE, s_is_number, isNum, ix, L2.atI, L2.ixN, e1, z]
    | a :: b :: c :: l =>
      have : ¬ ((l.length : Int) + 1 + 1 + 1 = 2) := by omega
      simp [run_def, entE, s_is_number, isNum, this]
  | dict _ => exact absurd rfl hd
  | _ => simp [run_def, entE, s_is_number, isNum]
def s_need_number : S := (.seq (.ite (.not (.call "is_number" (.cons (.var 0) .nil))) (.seq (.rse "BadNumber") .skip) .skip) .skip)
theorem need_number_run (Φ : String → List D → R D) (d : D) (h : isNum d ≠ .err → Φ "is_number" [d] = isNum d) (hd : isNum d ≠ .err) : run Φ 1 s_need_number [d] = needD (isNum d) "BadNumber" := by
  have e := h hd
  rcases isNum_cases d with z | ⟨b, z⟩
  · exact absurd z hd
  · rw [z] at e
    cases b <;> simp [run_def, entE, s_need_number, e, z, needD]
/-! ### rows, times -/
/-- every test gives a Bool -/
def allD (f : D → R D) (l : List D) : R D := match l with
  | [] => .ok (.bool true)
  | x :: r => match f x, allD f r with
    | .ok (.bool a), .ok (.bool b) => .ok (.bool (a && b))
    | _, _ => .err
theorem allD_ok {f : D → R D} : ∀ {l : List D}, allD f l ≠ .err → ∃ g : D → Bool, (∀ x ∈ l, f x = .ok (.bool (g x))) ∧ allD f l = .ok (.bool (l.all g))
  | [], _ => ⟨fun _ => true, by simp, rfl⟩
  | x :: r, h => by
    unfold allD at h
    split at h
    · rename_i a b h1 h2
      obtain ⟨g, h3, h4⟩ := allD_ok (l := r) (by rw [h2]; simp)
      have hb : r.all g = b := by rw [h4] at h2; cases h2; rfl
      refine ⟨fun y => match f y with | .ok (.bool c) => c | _ => false, fun y hy => ?_, ?_⟩
      · rcases List.mem_cons.mp hy with e | hy
        · subst e; simp [h1]
        · simp [h3 y hy]
      · unfold allD
        rw [h1, h2]
        have : (r.all fun y => match f y with | .ok (.bool c) => c | _ => false) = r.all g := by
          rw [Bool.eq_iff_iff, List.all_eq_true, List.all_eq_true]
          exact ⟨fun z y hy => by have := z y hy; simpa [h3 y hy] using this, fun z y hy => by simp [h3 y hy, z y hy]⟩
        simp [h1, this, hb]
    · exact absurd rfl h
end Nz

set_option maxHeartbeats 1000000
/-! NzNum3: rows, times, the plain form, the digits. -/
namespace Nz
open PySem
def s_need_row : S := (.seq (.ite (.or (.not (.isi (.var 0) .list)) (.or (.not (.cmp2 .le .le (.con (.int 1)) (.len (.rd 0)) (.con (.int 5)))) (.not (.blt .all (.cons (.comp [1] (.nm 1) .lst (.var 0) (.con (.bool true)) (.call "is_number" (.cons (.var 1) .nil))) .nil))))) (.seq (.rse "BadRow") .skip) .skip) .skip)
def needRow (d : D) : R D := match d with
  | .list l => if 1 ≤ l.length ∧ l.length ≤ 5 then needD (allD isNum l) "BadRow" else .exc "BadRow"
  | .dict _ => .err
  | _ => .exc "BadRow"
theorem filter_true {α : Type} (l : List α) : l.filter (fun _ => true) = l := by simp
theorem comp_all {Φ : String → List D → R D} {ρ : Env} {own : List Nat} {pat : Pat} {src elt : E} {l : List D} {g : D → Env} {f : D → Bool} (hs : evE Φ src ρ = .ok (.list l)) (hb : ∀ x ∈ l, bindP pat x (wipeE ρ own) = .ok (g x)) (he : ∀ x ∈ l, evE Φ elt (g x) = .ok (.bool (f x))) (hl : l.length ≤ LINE) :
    evE Φ (.comp own pat .lst src (.con (.bool true)) elt) ρ = .ok (.list (l.map fun x => .bool (f x))) := by
  rw [evE_comp, hs]
  show (((R.ok l : R (List D)).bind fun items => _)) = _
  show ((shut (compL _ _ _ l)).bind _) = _
  rw [compL_map (g := g) (p := fun _ => true) (f := fun x => .bool (f x)) hb (fun x _ => by simp) (fun x hx _ => he x hx)]
  rw [filter_true]
  show (if (l.map fun x => PyData.bool (f x)).length ≤ LINE then _ else _) = _
  rw [if_pos (by rw [List.length_map]; exact hl)]
@[simp] theorem blt_all (f : D → Bool) (l : List D) : bltD .all [.list (l.map fun x => .bool (f x))] = .ok (.bool (l.all f)) := by
  show (match boolsD (l.map fun x => PyData.bool (f x)) with | some is => R.ok (PyData.bool (is.all id)) | none => .err) = _
  rw [boolsD_map]
  simp [List.all_map]
theorem need_row_run (Φ : String → List D → R D) (d : D) (h : ∀ x, isNum x ≠ .err → Φ "is_number" [x] = isNum x) (hd : needRow d ≠ .err) : run Φ 2 s_need_row [d] = needRow d := by
  cases d with
  | list l =>
    by_cases hl : 1 ≤ l.length ∧ l.length ≤ 5
    · have hd : (if 1 ≤ l.length ∧ l.length ≤ 5 then needD (allD isNum l) "BadRow" else .exc "BadRow") ≠ .err := hd
      rw [if_pos hl] at hd
      have ha : allD isNum l ≠ .err := fun z => by rw [z] at hd; exact hd rfl
      obtain ⟨g, h1, h2⟩ := allD_ok ha
      have hc := comp_all (Φ := Φ) (ρ := [some (.val (.list l)), none]) (own := [1]) (pat := .nm 1) (src := .var 0) (elt := .call "is_number" (.cons (.var 1) .nil)) (l := l) (g := fun x => [some (.val (.list l)), some (.val x)]) (f := g) (by simp) (fun x _ => by simp [wipeE]) (fun x hx => by simp [h x (by rw [h1 x hx]; simp), h1 x hx]) (by unfold LINE; omega)
      have c1 : (1 : Int) ≤ l.length := by omega
      have c2 : (l.length : Int) ≤ 5 := by omega
      have e : needRow (.list l) = needD (.ok (.bool (l.all g))) "BadRow" := by
        show (if 1 ≤ l.length ∧ l.length ≤ 5 then needD (allD isNum l) "BadRow" else .exc "BadRow") = _
        rw [if_pos hl, h2]
      rw [e]
      simp only [run_def, entE, s_need_row]
      simp [-evE_comp, hc, c1, c2]
      cases hg : l.all g with
      | true => simp [hg, needD]
      | false => simp [hg, needD]
    · have e : needRow (.list l) = .exc "BadRow" := if_neg hl
      rw [e]
      by_cases c1 : (1 : Int) ≤ l.length
      · have c2 : ¬ (l.length : Int) ≤ 5 := by omega
        simp [run_def, entE, s_need_row, c1, c2]
      · simp [run_def, entE, s_need_row, c1]
  | dict _ => exact absurd rfl hd
  | _ => simp [run_def, entE, s_need_row, needRow]
def s_need_times : S := (.seq (.asg 2 (.and (.isi (.var 1) .list) (.cmp .eq (.len (.rd 1)) (.len (.rd 0))))) (.seq (.ite (.or (.not (.var 2)) (.not (.blt .all (.cons (.comp [3] (.nm 3) .lst (.var 1) (.con (.bool true)) (.call "is_count" (.cons (.var 3) (.cons (.bin .sub (.con (.int 0)) (.con (.int 1000))) (.cons (.con (.int 1000)) .nil))))) .nil)))) (.seq (.rse "BadRow") .skip) .skip) .skip))
def needTimes (n : Nat) (d : D) : R D := match d with
  | .list l => if l.length = n then needD (allD (fun x => isCnt x (-1000) 1000) l) "BadRow" else .exc "BadRow"
  | .dict _ => .err
  | _ => .exc "BadRow"
theorem need_times_run (Φ : String → List D → R D) (r : List D) (d : D) (hr : r.length ≤ 1000) (h : ∀ x lo hi, isCnt x lo hi ≠ .err → Φ "is_count" [x, .int lo, .int hi] = isCnt x lo hi) (hd : needTimes r.length d ≠ .err) : run Φ 4 s_need_times [.list r, d] = needTimes r.length d := by
  cases d with
  | list l =>
    by_cases hl : l.length = r.length
    · have hd : (if l.length = r.length then needD (allD (fun x => isCnt x (-1000) 1000) l) "BadRow" else .exc "BadRow") ≠ .err := hd
      rw [if_pos hl] at hd
      have ha : allD (fun x => isCnt x (-1000) 1000) l ≠ .err := fun z => by rw [z] at hd; exact hd rfl
      obtain ⟨g, h1, h2⟩ := allD_ok ha
      have hc := comp_all (Φ := Φ) (ρ := [some (.val (.list r)), some (.val (.list l)), some (.val (.bool true)), none]) (own := [3]) (pat := .nm 3) (src := .var 1) (elt := .call "is_count" (.cons (.var 3) (.cons (.bin .sub (.con (.int 0)) (.con (.int 1000))) (.cons (.con (.int 1000)) .nil)))) (l := l)
        (g := fun x => [some (.val (.list r)), some (.val (.list l)), some (.val (.bool true)), some (.val x)]) (f := g) (by simp) (fun x _ => by simp [wipeE]) (fun x hx => by simp [h x (-1000) 1000 (by rw [h1 x hx]; simp), h1 x hx]) (by unfold LINE; omega)
      have c1 : (l.length : Int) = r.length := by omega
      have e : needTimes r.length (.list l) = needD (.ok (.bool (l.all g))) "BadRow" := by
        show (if l.length = r.length then needD (allD (fun x => isCnt x (-1000) 1000) l) "BadRow" else .exc "BadRow") = _
        rw [if_pos hl, h2]
      rw [e]
      simp only [run_def, entE, s_need_times]
      simp [-evE_comp, c1, hc]
      cases hg : l.all g with
      | true => simp [hg, needD]
      | false => simp [hg, needD]
    · have e : needTimes r.length (.list l) = .exc "BadRow" := if_neg hl
      rw [e]
      have c1 : ¬ (l.length : Int) = r.length := by omega
      simp [run_def, entE, s_need_times, c1]
  | dict _ => exact absurd rfl hd
  | _ => simp [run_def, entE, s_need_times, needTimes]
/-! ### the plain form -/
def s_plain_of : S := (.seq (.asgP (.p2 (.nm 1) (.nm 2)) (.var 0)) (.seq (.asg 3 (.con (.int 2))) (.seq (.whl (.cmp .le (.bin .mul (.var 3) (.var 3)) (.var 2)) (.seq (.ite (.cmp .eq (.bin .mod (.var 2) (.bin .mul (.var 3) (.var 3))) (.con (.int 0))) (.seq (.par 1 2 (.bin .mul (.var 1) (.var 3)) (.bin .fdiv (.var 2) (.bin .mul (.var 3) (.var 3)))) .skip) (.seq (.asg 3 (.bin .add (.var 3) (.con (.int 1)))) .skip)) .skip)) (.seq (.ret (.ife (.cmp .ne (.var 1) (.con (.int 0))) (.tup (.cons (.var 1) (.cons (.var 2) .nil))) (.tup (.cons (.con (.int 0)) (.cons (.con (.int 1)) .nil))))) .skip))))
/-- the square part's root and the rest, by the loop -/
def sqL : Nat → Nat → Nat → Nat → Nat × Nat
  | 0, _, f, u => (f, u)
  | n + 1, b, f, u => if b * b ≤ u then (if u % (b * b) = 0 then sqL n b (f * b) (u / (b * b)) else sqL n (b + 1) f u) else (f, u)
def sqF (u : Nat) : Nat × Nat := sqL 20 2 1 u
/-- (t, u) in plain form -/
def plainT (t u : Int) : Int × Int := if t = 0 then (0, 1) else (t * (sqF u.toNat).1, (sqF u.toNat).2)
end Nz

set_option maxHeartbeats 1000000
/-! NzNum4: the plain form, powers, digits. -/
namespace Nz
open PySem
def sqOk : Nat → Nat → Nat → Bool
  | 0, _, _ => false
  | n + 1, b, u => if b * b ≤ u then (if u % (b * b) = 0 then sqOk n b (u / (b * b)) else sqOk n (b + 1) u) else true
theorem sqOk_all : ∀ u, u < 100 → 1 ≤ u → sqOk 20 2 u = true := by decide +kernel
theorem sqF_all : ∀ u, u < 100 → 1 ≤ u → (sqF u).1 * (sqF u).1 * (sqF u).2 = u ∧ 1 ≤ (sqF u).1 ∧ 1 ≤ (sqF u).2 ∧ (sqF u).1 ≤ 99 ∧ (sqF u).2 ≤ 99 ∧ (∀ b, b < 10 → 2 ≤ b → (sqF u).2 % (b * b) ≠ 0) := by decide +kernel
theorem okDiv_n {k : Nat} (h : 0 < k) (h2 : k < 2 ^ 64) : okDiv (k : Int) = true := by
  refine okDiv_s (by omega) ?_
  have : (2 : Nat) ^ 64 ≤ 2 ^ 9000 := Nat.pow_le_pow_right (by decide) (by decide)
  simp; omega
theorem plain_of_run (Φ : String → List D → R D) (t u : Int) (h1 : 1 ≤ u) (h2 : u ≤ 99) : run Φ 4 s_plain_of [.tuple [.int t, .int u]] = .ok (.tuple [.int (plainT t u).1, .int (plainT t u).2]) := by
  obtain ⟨n, rfl⟩ := Int.eq_ofNat_of_zero_le (show 0 ≤ u by omega)
  have hn : n < 100 := by omega
  have hn1 : 1 ≤ n := by omega
  have loop := whileF_inv (c := fun ρ => evE Φ (.cmp .le (.bin .mul (.var 3) (.var 3)) (.var 2)) ρ) (b := fun ρ => exS Φ (.seq (.ite (.cmp .eq (.bin .mod (.var 2) (.bin .mul (.var 3) (.var 3))) (.con (.int 0))) (.seq (.par 1 2 (.bin .mul (.var 1) (.var 3)) (.bin .fdiv (.var 2) (.bin .mul (.var 3) (.var 3)))) .skip) (.seq (.asg 3 (.bin .add (.var 3) (.con (.int 1)))) .skip)) .skip) ρ)
    (fun m ρ => ∃ b f v : Nat, ρ = [some (.val (.tuple [.int t, .int (n : Int)])), some (.val (.int (t * f))), some (.val (.int v)), some (.val (.int b))] ∧ sqL m b f v = sqF n ∧ sqOk m b v = true ∧ 2 ≤ b ∧ v ≤ 99 ∧ b ≤ 10)
    (fun ρ => ∃ x, ρ = [some (.val (.tuple [.int t, .int (n : Int)])), some (.val (.int (t * (sqF n).1))), some (.val (.int (sqF n).2)), x]) ?_ FUEL 20 [some (.val (.tuple [.int t, .int (n : Int)])), some (.val (.int t)), some (.val (.int n)), some (.val (.int 2))] (by unfold FUEL; omega) ?_
  · obtain ⟨ρ', e1, x, rfl⟩ := loop
    simp [run_def, entE, s_plain_of] at e1 ⊢
    rw [e1]
    have q := sqF_all n hn hn1
    by_cases ht : t = 0
    · subst ht
      simp [plainT, show (2 : Nat) ≤ LINE by decide]
    · have hf : t * ((sqF n).1 : Int) ≠ 0 := by
        refine Int.mul_ne_zero ht ?_
        have := q.2.1
        omega
      simp [plainT, ht, hf, show (2 : Nat) ≤ LINE by decide]
  · rintro m ρ ⟨b, f, v, rfl, hs, ho, hb, hv, hb10⟩
    cases m with
    | zero => cases ho
    | succ m =>
      unfold sqL at hs
      unfold sqOk at ho
      by_cases hc : b * b ≤ v
      · left
        rw [if_pos hc] at hs ho
        have hb9 : b ≤ 9 := by
          by_cases z : b ≤ 9
          · exact z
          · have := Nat.mul_le_mul (show 10 ≤ b by omega) (show 10 ≤ b by omega)
            omega
        have c1 : ((b : Int) * b ≤ v) := by exact_mod_cast hc
        have om : okMul (b : Int) (b : Int) = true := okMul_l (by simp; omega)
        have om2 : okMul (t * (f : Int)) (b : Int) = true := okMul_r (by simp; omega)
        have bb : 0 < b * b := Nat.mul_pos (by omega) (by omega)
        have bb2 : b * b < 2 ^ 64 := by
          have := Nat.mul_le_mul hb9 hb9
          omega
        have od : okDiv ((b : Int) * (b : Int)) = true := by
          have := okDiv_n bb bb2
          simpa using this
        have nz : ¬ ((b : Int) * b = 0) := by
          have : ((b * b : Nat) : Int) ≠ 0 := by omega
          simpa using this
        refine ⟨by simp [om, c1], ?_⟩
        have em : (v : Int).fmod ((b : Int) * b) = ((v % (b * b) : Nat) : Int) := by
          rw [Int.fmod_eq_emod_of_nonneg _ (by exact_mod_cast Nat.zero_le (b * b))]
          simp
        have ed : (v : Int).fdiv ((b : Int) * b) = ((v / (b * b) : Nat) : Int) := by
          rw [Int.fdiv_eq_ediv_of_nonneg _ (by exact_mod_cast Nat.zero_le (b * b))]
          simp
        by_cases hr : v % (b * b) = 0
        · rw [if_pos hr] at hs ho
          refine ⟨_, m, ?_, Nat.lt_succ_self m, b, f * b, v / (b * b), rfl, hs, ho, hb, ?_, hb10⟩
          · have em0 : (v : Int).fmod ((b : Int) * b) = 0 := by rw [em, hr]; rfl
            simp [om, om2, od, nz, em0, ed]
            rw [Int.mul_assoc]
          · exact Nat.le_trans (Nat.div_le_self _ _) hv
        · rw [if_neg hr] at hs ho
          have em0 : ¬ (v : Int).fmod ((b : Int) * b) = 0 := by rw [em]; omega
          refine ⟨_, m, ?_, Nat.lt_succ_self m, b + 1, f, v, rfl, hs, ho, by omega, hv, by omega⟩
          simp [om, nz, em0]
      · right
        rw [if_neg hc] at hs
        have c1 : ¬ ((b : Int) * b ≤ v) := by
          intro z; exact hc (by exact_mod_cast z)
        have om : okMul (b : Int) (b : Int) = true := okMul_l (by simp; omega)
        refine ⟨by simp [om, c1], some (.val (.int b)), ?_⟩
        have hs : (f, v) = sqF n := hs
        rw [← hs]
  · exact ⟨2, 1, n, by simp, rfl, sqOk_all n hn hn1, by omega, by omega, by omega⟩
end Nz

set_option maxHeartbeats 1000000
/-! NzNum5: powers, digits. -/
namespace Nz
open PySem
/-- a loop over range(n) -/
theorem exS_rng {Φ : String → List D → R D} {p : Pat} {src : E} {b : S} {n : Int} {ρ : Env} (I : Nat → Env → Prop) (hs : evE Φ src ρ = .ok (.list [.int n])) (h0 : 0 ≤ n) (h1 : n < 2 ^ 62) (h2 : I 0 ρ)
    (step : ∀ i, i < n.toNat → ∀ ρ, I i ρ → ∃ ρ1 ρ2, bindP p (.int (i : Int)) ρ = .ok ρ1 ∧ exS Φ b ρ1 = .nx ρ2 ∧ I (i + 1) ρ2) : ∃ ρ', exS Φ (.for p .rng1 src b) ρ = .nx ρ' ∧ I n.toNat ρ' := by
  have e : itD .rng1 (.list [.int n]) = .ok ((List.range n.toNat).map fun (i : Nat) => .int (0 + (i : Int))) := by
    show (if n.natAbs < 2 ^ 62 then _ else _) = _
    rw [if_pos (by omega)]
  obtain ⟨ρ', h3, h4⟩ := forF_inv (bd := fun x ρ => bindP p x ρ) (b := fun ρ => exS Φ b ρ) I ((List.range n.toNat).map fun (i : Nat) => PyData.int (0 + (i : Int))) 0 ρ (fun i hi ρ hI => by
    have hi' : i < n.toNat := by simpa using hi
    rw [Nat.zero_add] at hI
    obtain ⟨ρ1, ρ2, a1, a2, a3⟩ := step i hi' ρ hI
    refine ⟨ρ1, ρ2, ?_, a2, by rw [Nat.zero_add]; exact a3⟩
    simp only [List.getElem_map, List.getElem_range, Int.zero_add]
    exact a1) h2
  refine ⟨ρ', ?_, by simpa using h4⟩
  rw [exS_for, hs]
  show Rout (itD .rng1 (.list [.int n])) _ = _
  rw [e]
  exact h3
def s_power_of : S := (.seq (.asg 1 (.con (.int 1))) (.seq (.for (.nm 2) .rng1 (.cons (.var 0) .nil) (.seq (.asg 1 (.bin .mul (.var 1) (.con (.int 10)))) .skip)) (.seq (.ret (.var 1)) .skip)))
theorem power_of_run (Φ : String → List D → R D) (n : Int) (h0 : 0 ≤ n) (h1 : n < 2 ^ 62) : run Φ 3 s_power_of [.int n] = .ok (.int (10 ^ n.toNat)) := by
  obtain ⟨ρ', e1, x, rfl⟩ := exS_rng (Φ := Φ) (p := .nm 2) (src := .cons (.var 0) .nil) (b := .seq (.asg 1 (.bin .mul (.var 1) (.con (.int 10)))) .skip) (n := n) (ρ := [some (.val (.int n)), some (.val (.int 1)), none])
    (fun i ρ => ∃ x, ρ = [some (.val (.int n)), some (.val (.int (10 ^ i))), x]) (by simp) h0 h1 ⟨none, by simp⟩ (fun i hi ρ ⟨x, e⟩ => by
      subst e
      refine ⟨_, _, rfl, by simp [show okMul ((10 : Int) ^ i) 10 = true from okMul_r (by decide)]; rfl, _, by rw [Int.pow_succ]⟩)
  simp only [run_def, entE, s_power_of]
  simp [-exS_for, e1]
noncomputable def rootI (s : Int) : Int := open Classical in if h : ∃ r, IsRoot s r then h.choose else 0
theorem rootI_of {s r : Int} (h : IsRoot s r) : rootI s = r := by
  unfold rootI
  have e : ∃ r, IsRoot s r := ⟨r, h⟩
  rw [dif_pos e]
  exact e.choose_spec.uniq h
theorem rootI_ok {s r : Int} (h : IsRoot s r) : IsRoot s (rootI s) := by rw [rootI_of h]; exact h
theorem root_below_eq (Φ : String → List D → R D) (s : Int) (h0 : 0 ≤ s) (hb : s.natAbs < 2 ^ 300000) : run Φ 4 s_root_below [.int s] = .ok (.int (rootI s)) ∧ IsRoot s (rootI s) := by
  obtain ⟨r, h1, h2⟩ := root_below_run Φ s h0 hb
  rw [h2, rootI_of h1]
  exact ⟨rfl, h1⟩
/-- t·t·u·100^p -/
def sqv (t u p : Int) : Int := t * t * u * 10 ^ (2 * p).toNat
theorem sqv_bound {t u p : Int} (ht : t.natAbs ≤ 99) (hu : u.natAbs ≤ 99) (hp : p ≤ 30) (hp0 : 0 ≤ p) : (sqv t u p).natAbs < 2 ^ 300 := by
  unfold sqv
  have e : (10 : Int) ^ (2 * p).toNat = ((10 ^ (2 * p).toNat : Nat) : Int) := by simp
  have h1 : (10 : Nat) ^ (2 * p).toNat ≤ 10 ^ 60 := Nat.pow_le_pow_right (by decide) (by omega)
  rw [Int.natAbs_mul, Int.natAbs_mul, Int.natAbs_mul, e, Int.natAbs_natCast]
  have := Nat.mul_le_mul (Nat.mul_le_mul (Nat.mul_le_mul ht ht) hu) h1
  have d : 99 * 99 * 99 * 10 ^ 60 < 2 ^ 300 := by decide
  omega
theorem sqv_nonneg {t u p : Int} (hu : 0 ≤ u) : 0 ≤ sqv t u p := Int.mul_nonneg (Int.mul_nonneg (by
  rcases Int.le_total 0 t with h | h
  · exact Int.mul_nonneg h h
  · exact Int.mul_nonneg_of_nonpos_of_nonpos h h) hu) (Int.pow_nonneg (by decide))
theorem p300 {n : Nat} (h : n < 2 ^ 300) : n < 2 ^ 300000 := Nat.lt_of_lt_of_le h (Nat.pow_le_pow_right (by decide) (by decide))
theorem p300' {n : Nat} (h : n < 2 ^ 300) : n < 2 ^ 400000 := Nat.lt_of_lt_of_le h (Nat.pow_le_pow_right (by decide) (by decide))
noncomputable def digI (t u p : Int) : Int := if 0 ≤ t then rootI (sqv t u p) else if rootI (sqv t u p) * rootI (sqv t u p) = sqv t u p then 0 - rootI (sqv t u p) else 0 - rootI (sqv t u p) - 1
def s_digits_of : S := (.seq (.asgP (.p2 (.nm 2) (.nm 3)) (.var 0)) (.seq (.asg 4 (.bin .mul (.bin .mul (.bin .mul (.var 2) (.var 2)) (.var 3)) (.call "power_of" (.cons (.bin .mul (.con (.int 2)) (.var 1)) .nil)))) (.seq (.asg 5 (.call "root_below" (.cons (.var 4) .nil))) (.seq (.ite (.cmp .ge (.var 2) (.con (.int 0))) (.seq (.ret (.var 5)) .skip) .skip) (.seq (.ret (.ife (.cmp .eq (.bin .mul (.var 5) (.var 5)) (.var 4)) (.bin .sub (.con (.int 0)) (.var 5)) (.bin .sub (.bin .sub (.con (.int 0)) (.var 5)) (.con (.int 1))))) .skip)))))
theorem root_small {s r : Int} (h : IsRoot s r) (hb : s.natAbs < 2 ^ 300) : r.natAbs < 2 ^ 300 := by
  obtain ⟨h0, h1, h2⟩ := h
  have : r ≤ r * r := by
    rcases Int.lt_or_le 0 r with z | z
    · have := Int.mul_le_mul_of_nonneg_left (show 1 ≤ r by omega) h0
      omega
    · have : r = 0 := by omega
      subst this; simp
  omega
theorem digits_of_run (Φ : String → List D → R D) (t u p : Int) (ht : t.natAbs ≤ 99) (hu : u.natAbs ≤ 99) (hu0 : 0 ≤ u) (hp0 : 0 ≤ p) (hp : p ≤ 30) (h1 : Φ "power_of" [.int (2 * p)] = .ok (.int (10 ^ (2 * p).toNat))) (h2 : Φ "root_below" [.int (sqv t u p)] = .ok (.int (rootI (sqv t u p)))) :
    run Φ 6 s_digits_of [.tuple [.int t, .int u], .int p] = .ok (.int (digI t u p)) := by
  have hb := sqv_bound ht hu hp hp0
  obtain ⟨_, hr⟩ := root_below_eq Φ (sqv t u p) (sqv_nonneg hu0) (p300 hb)
  have rs := root_small hr hb
  have o1 : okMul t t = true := okMul_l (by omega)
  have o2 : okMul (t * t) u = true := okMul_r (by omega)
  have o3 : okMul (t * t * u) (10 ^ (2 * p).toNat) = true := by
    refine okMul_l ?_
    rw [Int.natAbs_mul, Int.natAbs_mul]
    have := Nat.mul_le_mul (Nat.mul_le_mul ht ht) hu
    omega
  have o4 : okMul 2 p = true := okMul_l (by decide)
  have o5 := okMul_b (p300' rs) (p300' rs)
  have e : t * t * u * 10 ^ (2 * p).toNat = sqv t u p := rfl
  by_cases z : 0 ≤ t
  · simp [run_def, entE, s_digits_of, o1, o2, o3, o4, h1, h2, e, z, digI]
  · by_cases z2 : rootI (sqv t u p) * rootI (sqv t u p) = sqv t u p
    · simp [run_def, entE, s_digits_of, o1, o2, o3, o4, o5, h1, h2, e, z, z2, digI]
    · simp [run_def, entE, s_digits_of, o1, o2, o3, o4, o5, h1, h2, e, z, z2, digI]
end Nz

set_option maxHeartbeats 1000000
/-! NzNum6: the law's own defs: cells, drawn numbers, ten, the root by Newton. -/
namespace Nz
open PySem
def s__law_cell : S := (.seq (.ite (.cmp .eq (.var 0) (.lst .nil)) (.seq (.ret (.bin .mul (.var 1) (.con (.int 7919)))) .skip) .skip) (.seq (.ret (.bin .add (.idx (.rd 0) (.bin .mod (.var 1) (.len (.rd 0)))) (.bin .mul (.bin .fdiv (.var 1) (.len (.rd 0))) (.con (.int 104729))))) .skip))
def cellI (ns : List Int) (k : Nat) : Int := if ns = [] then k * 7919 else ns.getD (k % ns.length) 0 + (k / ns.length : Nat) * 104729
theorem cell_run (Φ : String → List D → R D) (ns : List Int) (k : Nat) (hl : ns.length ≤ 63) : run Φ 2 s__law_cell [scrD ns, .int k] = .ok (.int (cellI ns k)) := by
  have e0 : eqD (scrD ns) (.list []) = .ok ns.isEmpty := by
    show R.ok (ns.map PyData.int).isEmpty = _
    simp
  have e1 : lenD (scrD ns) = .ok (.int ns.length) := by
    show R.ok (PyData.int ((ns.map PyData.int).length : Nat)) = _
    rw [List.length_map]
  have e2 : ∀ i, idxD (scrD ns) (.int i) = (match L2.atI (ns.map PyData.int) i with | some d => .ok d | none => .err) := fun _ => rfl
  by_cases h : ns = []
  · subst h
    have o : okMul (k : Int) 7919 = true := okMul_r (by decide)
    simp [run_def, entE, s__law_cell, e0, o, cellI, show (0 : Nat) ≤ LINE by decide]
  · have hp : 0 < ns.length := List.length_pos_iff.mpr h
    have z : ns.isEmpty = false := by simpa using h
    rw [z] at e0
    have nz : ¬ ((ns.length : Int) = 0) := by omega
    have em : (k : Int).fmod ns.length = ((k % ns.length : Nat) : Int) := by rw [Int.fmod_eq_emod_of_nonneg _ (by omega)]; simp
    have ed : (k : Int).fdiv ns.length = ((k / ns.length : Nat) : Int) := by rw [Int.fdiv_eq_ediv_of_nonneg _ (by omega)]; simp
    have od : okDiv (ns.length : Int) = true := okDiv_n hp (by omega)
    have hm := Nat.mod_lt k hp
    unfold cellI
    rw [if_neg h]
    generalize k % ns.length = j at em hm ⊢
    generalize k / ns.length = q at ed ⊢
    have ai : L2.atI (ns.map PyData.int) (j : Int) = some (.int (ns.getD j 0)) := by
      unfold L2.atI L2.ixN
      rw [if_pos (by omega), if_pos (by rw [List.length_map]; omega)]
      simp [List.getElem?_eq_getElem hm]
    have om : okMul (q : Int) 104729 = true := okMul_r (by decide)
    simp only [run_def, entE, s__law_cell]
    simp [h, e0, e1, nz, em, ed, od, om, e2, ai, show (0 : Nat) ≤ LINE by decide]
def s__law_drawn : S := (.seq (.asg 2 (.bin .mod (.bin .add (.bin .mul (.var 0) (.con (.int 6364136223846793005))) (.bin .mul (.bin .add (.var 1) (.con (.int 1))) (.con (.int 1442695040888963407)))) (.con (.int 340282366920938463463374607431768211507)))) (.seq (.asg 2 (.bin .mod (.bin .mul (.var 2) (.var 2)) (.con (.int 340282366920938463463374607431768211297)))) (.seq (.asg 2 (.bin .mul (.bin .mul (.bin .add (.bin .mod (.var 2) (.con (.int 18446744073709551557))) (.con (.int 1))) (.bin .add (.bin .fdiv (.var 2) (.con (.int 18446744073709551557))) (.con (.int 1)))) (.var 2))) (.seq (.ret (.bin .mod (.var 2) (.con (.int 340282366920938463463374607431768211507)))) .skip))))
def drawnI (c k : Int) : Int :=
  let a := (c * 6364136223846793005 + (k + 1) * 1442695040888963407).fmod 340282366920938463463374607431768211507
  let b := (a * a).fmod 340282366920938463463374607431768211297
  ((b.fmod 18446744073709551557 + 1) * (b.fdiv 18446744073709551557 + 1) * b).fmod 340282366920938463463374607431768211507
theorem fmod_rng (a : Int) {b : Int} (h : 0 < b) : 0 ≤ a.fmod b ∧ a.fmod b < b := by
  rw [Int.fmod_eq_emod_of_nonneg _ (by omega)]
  exact ⟨Int.emod_nonneg _ (by omega), Int.emod_lt_of_pos _ h⟩
theorem drawn_rng (c k : Int) : 0 ≤ drawnI c k ∧ drawnI c k < 340282366920938463463374607431768211507 := fmod_rng _ (by decide)
theorem drawn_run (Φ : String → List D → R D) (c k : Int) : run Φ 3 s__law_drawn [.int c, .int k] = .ok (.int (drawnI c k)) := by
  have o1 : okMul c 6364136223846793005 = true := okMul_r (by decide)
  have o2 : okMul (k + 1) 1442695040888963407 = true := okMul_r (by decide)
  have r1 := fmod_rng (c * 6364136223846793005 + (k + 1) * 1442695040888963407) (b := 340282366920938463463374607431768211507) (by decide)
  unfold drawnI
  simp only [run_def, entE, s__law_drawn]
  generalize ha : (c * 6364136223846793005 + (k + 1) * 1442695040888963407).fmod 340282366920938463463374607431768211507 = a at *
  have b1 : a.natAbs < 2 ^ 300 := by omega
  have o3 := okMul_b (p300' b1) (p300' b1)
  have r2 := fmod_rng (a * a) (b := 340282366920938463463374607431768211297) (by decide)
  simp only [evE_bin, evE_var, evE_con, exS_seq, exS_asg, exS_ret, exS_skip]
  simp [o1, o2, ha, o3]
  generalize hb : (a * a).fmod 340282366920938463463374607431768211297 = b at *
  have r3 := fmod_rng b (b := 18446744073709551557) (by decide)
  have e4 : b.fdiv 18446744073709551557 = b / 18446744073709551557 := Int.fdiv_eq_ediv_of_nonneg _ (by decide)
  have od : okDiv 18446744073709551557 = true := okDiv_n (k := 18446744073709551557) (by decide) (by decide)
  generalize hc : b.fmod 18446744073709551557 = c2 at *
  generalize hd : b.fdiv 18446744073709551557 = d2 at *
  have o4 : okMul (c2 + 1) (d2 + 1) = true := okMul_b (p300' (by omega)) (p300' (by omega))
  have o5 : okMul ((c2 + 1) * (d2 + 1)) b = true := by
    refine okMul_b (p300' ?_) (p300' (by omega))
    rw [Int.natAbs_mul]
    have h1 : (c2 + 1).natAbs ≤ 2 ^ 64 := by omega
    have h2 : (d2 + 1).natAbs ≤ 2 ^ 65 := by omega
    have := Nat.mul_le_mul h1 h2
    have e : (2 : Nat) ^ 64 * 2 ^ 65 < 2 ^ 300 := by decide
    omega
  simp [od, o4, o5, hc, hd]
end Nz

set_option maxHeartbeats 1000000
/-! NzNum7: powers of ten by texts, the root by Newton. -/
namespace Nz
open PySem PyProof.Rows
theorem LINE_big : 1000 ≤ LINE := by unfold LINE; decide
theorem zero_str : ("0" : PySem.Str) = ⟨#[48]⟩ := by decide +kernel
theorem one_str : ("1" : PySem.Str) = ⟨#[49]⟩ := by decide +kernel
theorem ten_cps (k : Nat) : (("1" : PySem.Str) ++ Txt.mul ("0" : PySem.Str) (k : Int)).cps.toList = 49 :: List.replicate k 48 := by
  rw [PySem.Str.cps_append, Array.toList_append, zero_str, mul_one_list, one_str]
  simp
theorem val_zeros (k : Nat) : PySem.NumText.digitsVal (49 :: List.replicate k 48) = 10 ^ k := by
  induction k with
  | zero => rfl
  | succ k ih =>
    have e : (49 :: List.replicate (k + 1) 48 : List Nat) = (49 :: List.replicate k 48) ++ [48] := by
      rw [List.replicate_succ']; rfl
    rw [e]
    unfold PySem.NumText.digitsVal at ih ⊢
    rw [List.foldl_append, ih, Nat.pow_succ]
    rfl
theorem ten_txt (k : Nat) (hk : k < 321) : PySem.intText? (("1" : PySem.Str) ++ Txt.mul ("0" : PySem.Str) (k : Int)) = some ((10 : Int) ^ k) ∧ (("1" : PySem.Str) ++ Txt.mul ("0" : PySem.Str) (k : Int)).length ≤ 640 ∧ (Txt.mul ("0" : PySem.Str) (k : Int)).length ≤ 640 := by
  have c := ten_cps k
  have l : (("1" : PySem.Str) ++ Txt.mul ("0" : PySem.Str) (k : Int)).length = k + 1 := by
    have : (("1" : PySem.Str) ++ Txt.mul ("0" : PySem.Str) (k : Int)).cps.toList.length = k + 1 := by rw [c]; simp
    exact Array.length_toList.symm.trans this
  have l2 : (Txt.mul ("0" : PySem.Str) (k : Int)).length = k := by
    have : (Txt.mul ("0" : PySem.Str) (k : Int)).cps.toList.length = k := by rw [zero_str, mul_one_list]; simp
    exact Array.length_toList.symm.trans this
  refine ⟨?_, by omega, by omega⟩
  have ad : PySem.NumText.AllDigits (("1" : PySem.Str) ++ Txt.mul ("0" : PySem.Str) (k : Int)).cps.toList := by
    rw [c]
    intro d hd
    rcases List.mem_cons.mp hd with e | hd
    · omega
    · have := List.eq_of_mem_replicate hd; omega
  have e := PySem.intText_digits ad (by rw [c]; simp) (by omega)
  rw [e, c, val_zeros]
  simp
theorem ten_ev {Φ : String → List D → R D} {ρ : Env} {e : E} {k : Nat} (h : evE Φ e ρ = .ok (.int k)) (hk : k < 321) : evE Φ (.blt .int (.cons (.bin .add (.con (.str ("1" : PySem.Str))) (.bin .mul (.con (.str ("0" : PySem.Str))) e)) .nil)) ρ = .ok (.int (10 ^ k)) := by
  obtain ⟨h1, h2, h3⟩ := ten_txt k hk
  have o : okRep ("0" : PySem.Str).length (k : Int) = true := by
    have : ("0" : PySem.Str).length = 1 := by decide +kernel
    simp only [okRep, Bool.and_eq_true, decide_eq_true_eq, this]
    refine ⟨by omega, ?_⟩
    have z : (k : Int).toNat = k := by omega
    rw [z]
    have := LINE_big
    omega
  have m : mulD (.str ("0" : PySem.Str)) (.int k) = .ok (.str (Txt.mul ("0" : PySem.Str) (k : Int))) := by
    rw [mul_str, if_pos o]
  have l1 : ("1" : PySem.Str).length = 1 := by decide +kernel
  have a : addD (.str ("1" : PySem.Str)) (.str (Txt.mul ("0" : PySem.Str) (k : Int))) = .ok (.str (("1" : PySem.Str) ++ Txt.mul ("0" : PySem.Str) (k : Int))) := by
    rw [add_str, if_pos (by rw [l1]; have := LINE_big; omega)]
  have b : bltD .int [.str (("1" : PySem.Str) ++ Txt.mul ("0" : PySem.Str) (k : Int))] = .ok (.int (10 ^ k)) := by
    exact int_str h2 h1
  simp only [evE_blt, evE_cons, evE_bin, evE_con, evE_nil, h, binD_add, binD_mul, R.bind, m, a, Rlist, b]
def s__law_ten : S := (.seq (.ret (.blt .int (.cons (.bin .add (.con (.str ("1" : PySem.Str))) (.bin .mul (.con (.str ("0" : PySem.Str))) (.var 0))) .nil))) .skip)
theorem ten_run (Φ : String → List D → R D) (n : Int) (h0 : 0 ≤ n) (h1 : n < 321) : run Φ 1 s__law_ten [.int n] = .ok (.int (10 ^ n.toNat)) := by
  obtain ⟨k, rfl⟩ := Int.eq_ofNat_of_zero_le h0
  have hk : k < 321 := by omega
  have e := ten_ev (Φ := Φ) (ρ := [some (.val (.int (k : Int)))]) (e := .var 0) (k := k) (by simp) hk
  have e2 : exS Φ s__law_ten [some (.val (.int (k : Int)))] = .rt (.int (10 ^ k)) := by
    unfold s__law_ten
    rw [exS_seq, exS_ret, e]; rfl
  rw [Int.toNat_natCast]
  exact run_rt e2
/-! ### Newton -/
theorem newton_ge {s f r : Int} (h : IsRoot s r) (hf : 0 < f) : r ≤ (f + s / f) / 2 := by
  obtain ⟨h0, h1, h2⟩ := h
  have hq : s < (s / f + 1) * f := by
    have := Int.lt_ediv_add_one_mul_self s hf
    exact this
  by_cases z : r ≤ (f + s / f) / 2
  · exact z
  · have : s / f + 1 ≤ 2 * r - f := by omega
    have h3 := Int.mul_le_mul_of_nonneg_right this (by omega : 0 ≤ f)
    have e : (2 * r - f) * f = r * r - (r - f) * (r - f) := by grind
    have e2 : 0 ≤ (r - f) * (r - f) := by
      rcases Int.le_total 0 (r - f) with h | h
      · exact Int.mul_nonneg h h
      · exact Int.mul_nonneg_of_nonpos_of_nonpos h h
    omega
theorem newton_le {s f r : Int} (h : IsRoot s r) (hf : r < f) : s / f ≤ r := by
  obtain ⟨h0, h1, h2⟩ := h
  have h3 := Int.mul_le_mul_of_nonneg_left (show r + 1 ≤ f by omega) (show 0 ≤ r + 1 by omega)
  have : s < (r + 1) * f := by omega
  have := Int.ediv_lt_of_lt_mul (show 0 < f by omega) this
  omega
def s__law_root : S := (.seq (.ite (.cmp .lt (.var 0) (.con (.int 2))) (.seq (.ret (.var 0)) .skip) .skip) (.seq (.asg 1 (.blt .int (.cons (.bin .add (.con (.str ("1" : PySem.Str))) (.bin .mul (.con (.str ("0" : PySem.Str))) (.bin .fdiv (.bin .add (.len (.blt .str (.cons (.var 0) .nil))) (.con (.int 1))) (.con (.int 2))))) .nil))) (.seq (.asg 2 (.bin .fdiv (.bin .add (.var 1) (.bin .fdiv (.var 0) (.var 1))) (.con (.int 2)))) (.seq (.whl (.cmp .lt (.var 2) (.var 1)) (.seq (.asg 1 (.var 2)) (.seq (.asg 2 (.bin .fdiv (.bin .add (.var 1) (.bin .fdiv (.var 0) (.var 1))) (.con (.int 2)))) .skip))) (.seq (.ret (.var 1)) .skip)))))
theorem str_len (n : Nat) : (PySem.Str.ofString (toString ((n : Nat) : Int))).length = (Nat.toDigits 10 n).length := by
  have e := PySem.W.KIN.signs_num n
  have : (PySem.Str.ofString (toString ((n : Nat) : Int))).cps.toList.length = ((Nat.toDigits 10 n).map Char.toNat).length := by rw [e]
  rw [List.length_map] at this
  rw [← this]
  exact Array.length_toList.symm
theorem root_exists (s : Int) (h0 : 0 ≤ s) (hb : s.natAbs < 2 ^ 1900) : IsRoot s (rootI s) := (root_below_eq (fun _ _ => .err) s h0 (Nat.lt_of_lt_of_le hb (Nat.pow_le_pow_right (by decide) (by decide)))).2
end Nz

set_option maxHeartbeats 1000000
/-! NzNum8: the law's root. -/
namespace Nz
open PySem PyProof.Rows
theorem log2_1920 {n : Nat} (h : n < 2 ^ 1900) : n.log2 < 1920 := by
  by_cases z : n = 0
  · subst z; simp
  · exact (Nat.log2_lt z).mpr (Nat.lt_of_lt_of_le h (Nat.pow_le_pow_right (by decide) (by decide)))
theorem str_int {i : Int} (h : i.natAbs.log2 < 1920) : bltD .str [.int i] = .ok (.str (PySem.Str.ofString (toString i))) := by
  have e : bltD .str [.int i] = (if i.natAbs.log2 < 1920 then .ok (.str (PySem.Str.ofString (toString i))) else .err) := rfl
  rw [e, if_pos h]
theorem len_str {x : PySem.Str} (h : x.length ≤ LINE) : lenD (.str x) = .ok (.int x.length) := by
  have e : lenD (.str x) = (if x.length ≤ LINE then .ok (.int x.length) else .err) := rfl
  rw [e, if_pos h]
theorem lt_of_sq {a b : Int} (hb : 0 ≤ b) (h : a * a < b * b) : a < b := by
  by_cases z : a < b
  · exact z
  · have := Int.mul_le_mul (show b ≤ a by omega) (show b ≤ a by omega) hb (by omega)
    omega
theorem law_root_run (Φ : String → List D → R D) (s : Int) (h0 : 0 ≤ s) (hb : s.natAbs < 10 ^ 300) : run Φ 3 s__law_root [.int s] = .ok (.int (rootI s)) := by
  have hb2 : s.natAbs < 2 ^ 1900 := Nat.lt_of_lt_of_le hb (by
    have : (10 : Nat) ^ 300 ≤ (2 ^ 4) ^ 300 := Nat.pow_le_pow_left (by decide) 300
    rw [← Nat.pow_mul] at this
    exact Nat.le_trans this (Nat.pow_le_pow_right (by decide) (by decide)))
  have hr := root_exists s h0 hb2
  by_cases h2 : s < 2
  · have : rootI s = s := by
      refine rootI_of ⟨h0, ?_, ?_⟩
      · rcases (show s = 0 ∨ s = 1 by omega) with e | e <;> subst e <;> decide
      · rcases (show s = 0 ∨ s = 1 by omega) with e | e <;> subst e <;> decide
    refine run_rt ?_
    simp [entE, s__law_root, h2, this]
  · obtain ⟨n, rfl⟩ := Int.eq_ofNat_of_zero_le h0
    have hn : n < 10 ^ 300 := by simpa using hb
    generalize hL : (Nat.toDigits 10 n).length = L
    have hL0 : 0 < L := by rw [← hL]; exact Nat.length_toDigits_pos
    have hL1 : n < 10 ^ L := (Nat.length_toDigits_le_iff (by decide) hL0).mp (Nat.le_of_eq hL)
    have hL2 : L ≤ 300 := by rw [← hL]; exact (Nat.length_toDigits_le_iff (by decide) (by decide)).mpr hn
    generalize hrr : rootI (n : Int) = r at *
    obtain ⟨r0, r1, r2⟩ := id hr
    have hlen : (PySem.Str.ofString (toString (n : Int))).length = L := by rw [str_len, hL]
    -- the first guess
    have ek : ((L : Int) + 1).fdiv 2 = (((L + 1) / 2 : Nat) : Int) := by rw [Int.fdiv_eq_ediv_of_nonneg _ (by decide)]; omega
    generalize hk : (L + 1) / 2 = k at ek
    have hk1 : k < 321 := by omega
    have hf0 : r < (10 : Int) ^ k := by
      refine lt_of_sq (Int.pow_nonneg (by decide)) ?_
      have e : (10 : Int) ^ k * 10 ^ k = ((10 ^ (k + k) : Nat) : Int) := by rw [← Int.pow_add]; simp
      have : (10 : Nat) ^ L ≤ 10 ^ (k + k) := Nat.pow_le_pow_right (by decide) (by omega)
      rw [e]; omega
    have hfb : (10 : Int) ^ k < 2 ^ 1100 := by
      have : (10 : Nat) ^ k ≤ 10 ^ 151 := Nat.pow_le_pow_right (by decide) (by omega)
      have e : (10 : Int) ^ k = ((10 ^ k : Nat) : Int) := by simp
      have e2 : (2 : Int) ^ 1100 = ((2 ^ 1100 : Nat) : Int) := by simp
      have e3 : (10 : Nat) ^ 151 ≤ (2 ^ 4) ^ 151 := Nat.pow_le_pow_left (by decide) 151
      rw [← Nat.pow_mul] at e3
      have e4 : (2 : Nat) ^ (4 * 151) < 2 ^ 1100 := Nat.pow_lt_pow_right (by decide) (by decide)
      rw [e, e2]; omega
    have loop := whileF_inv (c := fun ρ => evE Φ (.cmp .lt (.var 2) (.var 1)) ρ) (b := fun ρ => exS Φ (.seq (.asg 1 (.var 2)) (.seq (.asg 2 (.bin .fdiv (.bin .add (.var 1) (.bin .fdiv (.var 0) (.var 1))) (.con (.int 2)))) .skip)) ρ)
      (fun m ρ => ∃ f : Int, ρ = [some (.val (.int (n : Int))), some (.val (.int f)), some (.val (.int ((f + n / f) / 2)))] ∧ r ≤ f ∧ 0 < f ∧ f - r < 2 ^ m ∧ f < 2 ^ 1100)
      (fun ρ => ∃ x, ρ = [some (.val (.int (n : Int))), some (.val (.int r)), x]) ?_ FUEL 1100 [some (.val (.int (n : Int))), some (.val (.int (10 ^ k))), some (.val (.int ((10 ^ k + n / 10 ^ k) / 2)))] (by unfold FUEL; omega) ⟨10 ^ k, rfl, by omega, by omega, by omega, hfb⟩
    · obtain ⟨ρ', e1, x, rfl⟩ := loop
      have te := ten_ev (Φ := Φ) (ρ := [some (.val (.int (n : Int))), none, none]) (e := .bin .fdiv (.bin .add (.len (.blt .str (.cons (.var 0) .nil))) (.con (.int 1))) (.con (.int 2))) (k := k) (by
        have l1 : (n : Int).natAbs.log2 < 1920 := log2_1920 hb2
        have l2 : (PySem.Str.ofString (toString (n : Int))).length ≤ LINE := by rw [hlen]; have := LINE_big; omega
        have a : evE Φ (.blt .str (.cons (.var 0) .nil)) [some (.val (.int (n : Int))), none, none] = .ok (.str (PySem.Str.ofString (toString (n : Int)))) := by
          rw [evE_blt]
          simp only [evE_cons, evE_var, evE_nil, getV_def, List.getElem?_cons_zero, R.bind, Rlist]
          exact str_int l1
        have b : evE Φ (.len (.blt .str (.cons (.var 0) .nil))) [some (.val (.int (n : Int))), none, none] = .ok (.int (L : Int)) := by
          rw [evE_len, a]
          show lenD (.str _) = _
          rw [len_str l2, hlen]
        simp [-evE_len, b, ek, show okDiv 2 = true by decide]) hk1
      have od : okDiv ((10 : Int) ^ k) = true := by
        refine okDiv_s (by omega) ?_
        have e : (2 : Int) ^ 1100 = ((2 ^ 1100 : Nat) : Int) := by simp
        have e2 : (2 : Nat) ^ 1100 < 2 ^ 9000 := Nat.pow_lt_pow_right (by decide) (by decide)
        omega
      have ef : (n : Int).fdiv (10 ^ k) = n / 10 ^ k := Int.fdiv_eq_ediv_of_nonneg _ (by omega)
      have eg : ((10 : Int) ^ k + n / 10 ^ k).fdiv 2 = (10 ^ k + n / 10 ^ k) / 2 := Int.fdiv_eq_ediv_of_nonneg _ (by decide)
      refine run_rt ?_
      unfold s__law_root
      rw [exS_seq]
      have h2' : ¬ ((n : Int) < 2) := h2
      have s1 : exS Φ (.ite (.cmp .lt (.var 0) (.con (.int 2))) (.seq (.ret (.var 0)) .skip) .skip) (entE 3 [.int (n : Int)]) = .nx [some (.val (.int (n : Int))), none, none] := by
        simp [entE, h2']
      rw [s1]
      show (match exS Φ (.asg 1 _) [some (.val (.int (n : Int))), none, none] with | .nx ρ' => exS Φ _ ρ' | r => r) = _
      rw [exS_asg, te]
      simp only [Rout_ok]
      simp [-exS_whl, od, ef, eg, show okDiv 2 = true by decide]
      simp at e1
      simp [e1]
    · rintro m ρ ⟨f, rfl, h3, h4, h5, h6⟩
      have od : okDiv f = true := by
        refine okDiv_s (by omega) ?_
        have e : (2 : Int) ^ 1100 = ((2 ^ 1100 : Nat) : Int) := by simp
        have e2 : (2 : Nat) ^ 1100 < 2 ^ 9000 := Nat.pow_lt_pow_right (by decide) (by decide)
        omega
      have hg := newton_ge hr h4
      by_cases hc : (f + n / f) / 2 < f
      · left
        refine ⟨by simp [hc], ?_⟩
        have hrf : r < f := by
          by_cases z : r < f
          · exact z
          · have : f = r := by omega
            omega
        have hl := newton_le hr hrf
        cases m with
        | zero => exfalso; have : f - r < 1 := by simpa using h5
                  omega
        | succ m =>
          have e2 : (2 : Int) ^ (m + 1) = 2 * 2 ^ m := by rw [Int.pow_succ]; omega
          rw [e2] at h5
          generalize hg2 : (f + (n : Int) / f) / 2 = g at *
          have g0 : 0 < g := by
            rcases Int.lt_or_le 0 g with z | z
            · exact z
            · exfalso
              have : r = 0 := by omega
              subst this
              omega
          have od2 : okDiv g = true := by
            refine okDiv_s (by omega) ?_
            have e : (2 : Int) ^ 1100 = ((2 ^ 1100 : Nat) : Int) := by simp
            have e2 : (2 : Nat) ^ 1100 < 2 ^ 9000 := Nat.pow_lt_pow_right (by decide) (by decide)
            omega
          have ef : (n : Int).fdiv g = n / g := Int.fdiv_eq_ediv_of_nonneg _ (by omega)
          have eg : (g + (n : Int) / g).fdiv 2 = (g + n / g) / 2 := Int.fdiv_eq_ediv_of_nonneg _ (by decide)
          refine ⟨_, m, ?_, Nat.lt_succ_self m, g, rfl, hg, g0, by omega, by omega⟩
          simp [od2, ef, eg, show okDiv 2 = true by decide]
      · right
        refine ⟨by simp [hc], ?_⟩
        have : f = r := by
          by_cases z : r < f
          · have := newton_le hr z
            omega
          · omega
        rw [this]
        exact ⟨_, rfl⟩
end Nz

set_option maxHeartbeats 1000000
/-! NzNum9: spans, rows. -/
namespace Nz
open PySem PyProof.Rows
def s__law_spans : S := (.seq (.asgP (.p2 (.nm 2) (.nm 3)) (.var 0)) (.seq (.asg 4 (.bin .mul (.bin .mul (.bin .mul (.var 2) (.var 2)) (.var 3)) (.call "_law_ten" (.cons (.bin .mul (.con (.int 2)) (.var 1)) .nil)))) (.seq (.asg 5 (.call "_law_root" (.cons (.var 4) .nil))) (.seq (.asgP (.p2 (.nm 6) (.nm 7)) (.ife (.cmp .eq (.bin .mul (.var 5) (.var 5)) (.var 4)) (.tup (.cons (.var 5) (.cons (.var 5) .nil))) (.tup (.cons (.var 5) (.cons (.bin .add (.var 5) (.con (.int 1))) .nil))))) (.seq (.ret (.ife (.cmp .ge (.var 2) (.con (.int 0))) (.tup (.cons (.var 6) (.cons (.var 7) .nil))) (.tup (.cons (.bin .sub (.con (.int 0)) (.var 7)) (.cons (.bin .sub (.con (.int 0)) (.var 6)) .nil))))) .skip)))))
noncomputable def hiR (s : Int) : Int := if rootI s * rootI s = s then rootI s else rootI s + 1
noncomputable def spanI (t u p : Int) : Int × Int := if 0 ≤ t then (rootI (sqv t u p), hiR (sqv t u p)) else (0 - hiR (sqv t u p), 0 - rootI (sqv t u p))
theorem span_dig (t u p : Int) : (spanI t u p).1 = digI t u p := by
  unfold spanI digI hiR
  by_cases h : 0 ≤ t
  · simp [h]
  · by_cases h2 : rootI (sqv t u p) * rootI (sqv t u p) = sqv t u p
    · simp [h, h2]
    · simp [h, h2]; omega
theorem hiR_ok {s : Int} (h : IsRoot s (rootI s)) : rootI s ≤ hiR s ∧ s ≤ hiR s * hiR s ∧ 0 ≤ hiR s ∧ hiR s ≤ rootI s + 1 := by
  obtain ⟨h0, h1, h2⟩ := h
  unfold hiR
  split
  · rename_i e; exact ⟨Int.le_refl _, by omega, h0, by omega⟩
  · exact ⟨by omega, by omega, by omega, Int.le_refl _⟩
theorem two_LINE : ((2 : Nat) ≤ LINE) = True := eq_true (by have := LINE_big; omega)
theorem spans_run (Φ : String → List D → R D) (t u p : Int) (ht : t.natAbs ≤ 99) (hu : u.natAbs ≤ 99) (hu0 : 0 ≤ u) (hp0 : 0 ≤ p) (hp : p ≤ 30) (h1 : Φ "_law_ten" [.int (2 * p)] = .ok (.int (10 ^ (2 * p).toNat))) (h2 : Φ "_law_root" [.int (sqv t u p)] = .ok (.int (rootI (sqv t u p)))) :
    run Φ 8 s__law_spans [.tuple [.int t, .int u], .int p] = .ok (.tuple [.int (spanI t u p).1, .int (spanI t u p).2]) := by
  have hb := sqv_bound ht hu hp hp0
  obtain ⟨_, hr⟩ := root_below_eq Φ (sqv t u p) (sqv_nonneg hu0) (p300 hb)
  have rs := root_small hr hb
  have o1 : okMul t t = true := okMul_l (by omega)
  have o2 : okMul (t * t) u = true := okMul_r (by omega)
  have o3 : okMul (t * t * u) (10 ^ (2 * p).toNat) = true := by
    refine okMul_l ?_
    rw [Int.natAbs_mul, Int.natAbs_mul]
    have := Nat.mul_le_mul (Nat.mul_le_mul ht ht) hu
    omega
  have o4 : okMul 2 p = true := okMul_l (by decide)
  have o5 := okMul_b (p300' rs) (p300' rs)
  have e : t * t * u * 10 ^ (2 * p).toNat = sqv t u p := rfl
  unfold spanI hiR
  by_cases z : 0 ≤ t <;> by_cases z2 : rootI (sqv t u p) * rootI (sqv t u p) = sqv t u p <;> simp [run_def, entE, s__law_spans, o1, o2, o3, o4, o5, h1, h2, e, z, z2, two_LINE]
/-! ### a row -/
def s__law_row : S := (.seq (.asgO 2 (.lst .nil)) (.seq (.for (.nm 3) .rng1 (.cons (.bin .add (.con (.int 1)) (.bin .mod (.var 0) (.var 1))) .nil) (.seq (.asg 4 (.call "_law_drawn" (.cons (.var 0) (.cons (.var 3) .nil)))) (.seq (.asg 5 (.idx (.lst (.cons (.con (.int 1)) (.cons (.con (.int 2)) (.cons (.con (.int 8)) (.cons (.con (.int 1)) (.cons (.con (.int 3)) (.cons (.con (.int 12)) (.cons (.con (.int 27)) (.cons (.con (.int 2)) (.cons (.con (.int 5)) (.cons (.con (.int 50)) (.cons (.con (.int 99)) (.cons (.bin .add (.con (.int 1)) (.bin .mod (.bin .fdiv (.var 4) (.bin .pow (.con (.int 2)) (.con (.int 20)))) (.con (.int 99)))) .nil))))))))))))) (.bin .mod (.var 4) (.con (.int 12))))) (.seq (.asg 6 (.idx (.lst (.cons (.bin .sub (.bin .mod (.bin .fdiv (.var 4) (.con (.int 64))) (.con (.int 9))) (.con (.int 4))) (.cons (.bin .sub (.bin .mod (.bin .fdiv (.var 4) (.con (.int 64))) (.con (.int 199))) (.con (.int 99))) (.cons (.bin .add (.con (.int 1)) (.bin .mod (.bin .fdiv (.var 4) (.con (.int 64))) (.con (.int 3)))) .nil)))) (.bin .mod (.bin .fdiv (.var 4) (.con (.int 16))) (.con (.int 3))))) (.seq (.app 2 (.tup (.cons (.var 6) (.cons (.var 5) .nil)))) .skip))))) (.seq (.seq (.frz [2]) (.ret (.var 2))) .skip)))
def undI (h : Int) : Int := ([1, 2, 8, 1, 3, 12, 27, 2, 5, 50, 99, 1 + (h.fdiv 1048576).fmod 99] : List Int).getD (h.fmod 12).toNat 1
def timI (h : Int) : Int := ([(h.fdiv 64).fmod 9 - 4, (h.fdiv 64).fmod 199 - 99, 1 + (h.fdiv 64).fmod 3] : List Int).getD ((h.fdiv 16).fmod 3).toNat 1
theorem und_rng (h : Int) : 1 ≤ undI h ∧ undI h ≤ 99 := by
  unfold undI
  have r1 := fmod_rng h (b := 12) (by decide)
  have r2 := fmod_rng (h.fdiv 1048576) (b := 99) (by decide)
  generalize h.fmod 12 = i at *
  generalize (h.fdiv 1048576).fmod 99 = j at *
  have : i = 0 ∨ i = 1 ∨ i = 2 ∨ i = 3 ∨ i = 4 ∨ i = 5 ∨ i = 6 ∨ i = 7 ∨ i = 8 ∨ i = 9 ∨ i = 10 ∨ i = 11 := by omega
  rcases this with e | e | e | e | e | e | e | e | e | e | e | e <;> subst e <;> simp <;> omega
theorem tim_rng (h : Int) : -99 ≤ timI h ∧ timI h ≤ 99 := by
  unfold timI
  have r1 := fmod_rng (h.fdiv 16) (b := 3) (by decide)
  have r2 := fmod_rng (h.fdiv 64) (b := 9) (by decide)
  have r3 := fmod_rng (h.fdiv 64) (b := 199) (by decide)
  have r4 := fmod_rng (h.fdiv 64) (b := 3) (by decide)
  generalize (h.fdiv 16).fmod 3 = i at *
  have : i = 0 ∨ i = 1 ∨ i = 2 := by omega
  rcases this with e | e | e <;> subst e <;> simp <;> omega
def numD (t u : Int) : D := .tuple [.int t, .int u]
def rowN (m : Int) (n : Nat) : List (Int × Int) := (List.range n).map fun (j : Nat) => (timI (drawnI m (j : Int)), undI (drawnI m (j : Int)))
def numsD (l : List (Int × Int)) : List D := l.map fun x => numD x.1 x.2
theorem at_ev {l : List D} {i : Int} {d : D} (h0 : 0 ≤ i) (h : l[i.toNat]? = some d) : idxD (.list l) (.int i) = .ok d := by
  have hl : i.toNat < l.length := (List.getElem?_eq_some_iff.mp h).1
  show (match L2.atI l i with | some d => R.ok d | none => .err) = _
  unfold L2.atI L2.ixN
  rw [if_pos h0, if_pos (by omega)]
  simp [h]
theorem row_run (Φ : String → List D → R D) (m : Int) (hd : ∀ j : Nat, Φ "_law_drawn" [.int m, .int j] = .ok (.int (drawnI m j))) : run Φ 7 s__law_row [.int m, .int 5] = .ok (.list (numsD (rowN m (1 + (m.fmod 5).toNat)))) := by
  have r5 := fmod_rng m (b := 5) (by decide)
  obtain ⟨ρ', e1, x3, x4, x5, x6, rfl⟩ := exS_rng (Φ := Φ) (p := .nm 3) (src := .cons (.bin .add (.con (.int 1)) (.bin .mod (.var 0) (.var 1))) .nil) (b := (.seq (.asg 4 (.call "_law_drawn" (.cons (.var 0) (.cons (.var 3) .nil)))) (.seq (.asg 5 (.idx (.lst (.cons (.con (.int 1)) (.cons (.con (.int 2)) (.cons (.con (.int 8)) (.cons (.con (.int 1)) (.cons (.con (.int 3)) (.cons (.con (.int 12)) (.cons (.con (.int 27)) (.cons (.con (.int 2)) (.cons (.con (.int 5)) (.cons (.con (.int 50)) (.cons (.con (.int 99)) (.cons (.bin .add (.con (.int 1)) (.bin .mod (.bin .fdiv (.var 4) (.bin .pow (.con (.int 2)) (.con (.int 20)))) (.con (.int 99)))) .nil))))))))))))) (.bin .mod (.var 4) (.con (.int 12))))) (.seq (.asg 6 (.idx (.lst (.cons (.bin .sub (.bin .mod (.bin .fdiv (.var 4) (.con (.int 64))) (.con (.int 9))) (.con (.int 4))) (.cons (.bin .sub (.bin .mod (.bin .fdiv (.var 4) (.con (.int 64))) (.con (.int 199))) (.con (.int 99))) (.cons (.bin .add (.con (.int 1)) (.bin .mod (.bin .fdiv (.var 4) (.con (.int 64))) (.con (.int 3)))) .nil)))) (.bin .mod (.bin .fdiv (.var 4) (.con (.int 16))) (.con (.int 3))))) (.seq (.app 2 (.tup (.cons (.var 6) (.cons (.var 5) .nil)))) .skip)))))
    (n := 1 + m.fmod 5) (ρ := [some (.val (.int m)), some (.val (.int 5)), some (.own (.list [])), none, none, none, none])
    (fun i ρ => ∃ x3 x4 x5 x6, ρ = [some (.val (.int m)), some (.val (.int 5)), some (.own (.list (numsD (rowN m i)))), x3, x4, x5, x6]) (by simp) (by omega) (by omega) ⟨none, none, none, none, by simp [rowN, numsD]⟩ (fun i hi ρ ⟨x3, x4, x5, x6, e⟩ => by
      subst e
      have hh := hd i
      generalize hdr : drawnI m i = h at *
      have a1 := fmod_rng h (b := 12) (by decide)
      have a2 := fmod_rng (h.fdiv 16) (b := 3) (by decide)
      have op : okPow 2 20 = true := by decide
      have od20 : okDiv ((2 : Int) ^ 20) = true := okDiv_n (k := 2 ^ 20) (by decide) (by decide)
      have i1 : idxD (.list [.int 1, .int 2, .int 8, .int 1, .int 3, .int 12, .int 27, .int 2, .int 5, .int 50, .int 99, .int (1 + (h.fdiv 1048576).fmod 99)]) (.int (h.fmod 12)) = .ok (.int (undI h)) := by
        refine at_ev a1.1 ?_
        unfold undI
        generalize h.fmod 12 = i at *
        have : i = 0 ∨ i = 1 ∨ i = 2 ∨ i = 3 ∨ i = 4 ∨ i = 5 ∨ i = 6 ∨ i = 7 ∨ i = 8 ∨ i = 9 ∨ i = 10 ∨ i = 11 := by omega
        rcases this with e | e | e | e | e | e | e | e | e | e | e | e <;> subst e <;> simp
      have i2 : idxD (.list [.int ((h.fdiv 64).fmod 9 - 4), .int ((h.fdiv 64).fmod 199 - 99), .int (1 + (h.fdiv 64).fmod 3)]) (.int ((h.fdiv 16).fmod 3)) = .ok (.int (timI h)) := by
        refine at_ev a2.1 ?_
        unfold timI
        generalize (h.fdiv 16).fmod 3 = i at *
        have : i = 0 ∨ i = 1 ∨ i = 2 := by omega
        rcases this with e | e | e <;> subst e <;> simp
      have ll : (numsD (rowN m i)).length < LINE := by
        have := LINE_big
        simp [numsD, rowN]
        omega
      have L12 : ((12 : Nat) ≤ LINE) = True := eq_true (by have := LINE_big; omega)
      have L3 : ((3 : Nat) ≤ LINE) = True := eq_true (by have := LINE_big; omega)
      refine ⟨[some (.val (.int m)), some (.val (.int 5)), some (.own (.list (numsD (rowN m i)))), some (.val (.int i)), x4, x5, x6], [some (.val (.int m)), some (.val (.int 5)), some (.own (.list (numsD (rowN m (i + 1))))), some (.val (.int i)), some (.val (.int h)), some (.val (.int (undI h))), some (.val (.int (timI h)))], rfl, ?_, _, _, _, _, rfl⟩
      have er : numsD (rowN m (i + 1)) = numsD (rowN m i) ++ [numD (timI h) (undI h)] := by
        simp [numsD, rowN, List.range_succ, hdr]
      rw [er]
      simp [hh, op, od20, L12, L3, i1, i2, ll, two_LINE, show okDiv 64 = true by decide, show okDiv 16 = true by decide, show okDiv 1048576 = true by decide, numD])
  refine run_rt ?_
  unfold s__law_row
  have s1 : exS Φ (.asgO 2 (.lst .nil)) (entE 7 [.int m, .int 5]) = .nx [some (.val (.int m)), some (.val (.int 5)), some (.own (.list [])), none, none, none, none] := by
    simp [entE, show (0 : Nat) ≤ LINE by decide]
  rw [seq_nx s1, seq_nx e1]
  have : (1 + m.fmod 5).toNat = 1 + (m.fmod 5).toNat := by omega
  rw [this]
  simp [frzE]
end Nz

set_option maxHeartbeats 2000000
/-! K10Phi: what the defs of the law k10 give, and that their terms give it. -/
namespace Nz
namespace K10
open PySem PyProof.Rows
def bnS : PySem.Str := "BadNumber"
def brS : PySem.Str := "BadRow"
def btS : PySem.Str := "BadText"
def numB (d : D) : Bool := match isNum d with
  | .ok (.bool true) => true
  | _ => false
def plainS (d : D) : R D := match isNum d with
  | .ok (.bool true) => (match d with
    | .tuple [.int t, .int u] => .ok (.tuple [.int (plainT t u).1, .int (plainT t u).2])
    | _ => .err)
  | .ok (.bool false) => .exc "BadNumber"
  | _ => .err
noncomputable def digitsS (d p : D) : R D := match isNum d with
  | .ok (.bool true) => (match isCnt p 0 30 with
    | .ok (.bool true) => (match d, p with
      | .tuple [.int t, .int u], .int q => .ok (.int (digI t u q))
      | _, _ => .err)
    | .ok (.bool false) => .exc "BadNumber"
    | _ => .err)
  | .ok (.bool false) => .exc "BadNumber"
  | _ => .err
abbrev rngN (t u : Int) : Prop := t.natAbs ≤ 99 ∧ 1 ≤ u ∧ u ≤ 99
noncomputable def Phi (f : String) (ds : List D) : R D :=
  if f = "is_count" then (match ds with | [d, .int lo, .int hi] => isCnt d lo hi | _ => .err)
  else if f = "need_count" then (match ds with | [d, .int lo, .int hi] => needD (isCnt d lo hi) "BadNumber" | _ => .err)
  else if f = "is_number" then (match ds with | [d] => isNum d | _ => .err)
  else if f = "need_number" then (match ds with | [d] => needD (isNum d) "BadNumber" | _ => .err)
  else if f = "need_row" then (match ds with | [d] => needRow d | _ => .err)
  else if f = "need_times" then (match ds with | [.list r, d] => (if r.length ≤ 1000 then needTimes r.length d else .err) | _ => .err)
  else if f = "plain_of" then (match ds with | [.tuple [.int t, .int u]] => (if 1 ≤ u ∧ u ≤ 99 then .ok (.tuple [.int (plainT t u).1, .int (plainT t u).2]) else .err) | _ => .err)
  else if f = "plain" then (match ds with | [d] => plainS d | _ => .err)
  else if f = "root_below" then (match ds with | [.int s] => (if 0 ≤ s ∧ s.natAbs < 2 ^ 300 then .ok (.int (rootI s)) else .err) | _ => .err)
  else if f = "power_of" then (match ds with | [.int n] => (if 0 ≤ n ∧ n < 2 ^ 62 then .ok (.int (10 ^ n.toNat)) else .err) | _ => .err)
  else if f = "digits_of" then (match ds with | [.tuple [.int t, .int u], .int p] => (if rngN t u ∧ 0 ≤ p ∧ p ≤ 30 then .ok (.int (digI t u p)) else .err) | _ => .err)
  else if f = "digits" then (match ds with | [d, p] => digitsS d p | _ => .err)
  else if f = "_law_cell" then (match ds with | [.dict [(.none, .list l)], .int k] => (match intsD l with | some ns => (if 0 ≤ k ∧ ns.length ≤ 63 then .ok (.int (cellI ns k.toNat)) else .err) | none => .err) | _ => .err)
  else if f = "_law_drawn" then (match ds with | [.int c, .int k] => .ok (.int (drawnI c k)) | _ => .err)
  else if f = "_law_word" then (match ds with | [.str x] => (if x = bnS ∨ x = brS ∨ x = btS then .ok (.str x) else .err) | _ => .err)
  else if f = "_law_root" then (match ds with | [.int s] => (if 0 ≤ s ∧ s.natAbs < 10 ^ 300 then .ok (.int (rootI s)) else .err) | _ => .err)
  else if f = "_law_ten" then (match ds with | [.int n] => (if 0 ≤ n ∧ n < 321 then .ok (.int (10 ^ n.toNat)) else .err) | _ => .err)
  else if f = "_law_spans" then (match ds with | [.tuple [.int t, .int u], .int p] => (if rngN t u ∧ 0 ≤ p ∧ p ≤ 30 then .ok (.tuple [.int (spanI t u p).1, .int (spanI t u p).2]) else .err) | _ => .err)
  else if f = "_law_row" then (match ds with | [.int m, .int n] => (if n = 5 then .ok (.list (numsD (rowN m (1 + (m.fmod 5).toNat)))) else .err) | _ => .err)
  else if f = "_law_refused" then (match ds with | [.list r] => (if 1 ≤ r.length ∧ r.length ≤ 5 ∧ r.all numB = true then .ok (.bool true) else .err) | _ => .err)
  else if f = "law" then (match ds with | [.dict [(.none, .list l)]] => (match intsD l with | some ns => (if ns.length ≤ 63 then .ok (.bool true) else .err) | none => .err) | _ => .err)
  else .err
section
variable (d p : D) (lo hi t u k m s n : Int)
@[simp] theorem P_is_count : Phi "is_count" [d, .int lo, .int hi] = isCnt d lo hi := by simp [Phi]
@[simp] theorem P_need_count : Phi "need_count" [d, .int lo, .int hi] = needD (isCnt d lo hi) "BadNumber" := by simp [Phi]
@[simp] theorem P_is_number : Phi "is_number" [d] = isNum d := by simp [Phi]
@[simp] theorem P_need_number : Phi "need_number" [d] = needD (isNum d) "BadNumber" := by simp [Phi]
@[simp] theorem P_need_row : Phi "need_row" [d] = needRow d := by simp [Phi]
@[simp] theorem P_need_times (r : List D) : Phi "need_times" [.list r, d] = (if r.length ≤ 1000 then needTimes r.length d else .err) := by simp [Phi]
@[simp] theorem P_plain_of : Phi "plain_of" [.tuple [.int t, .int u]] = (if 1 ≤ u ∧ u ≤ 99 then .ok (.tuple [.int (plainT t u).1, .int (plainT t u).2]) else .err) := by simp [Phi]
@[simp] theorem P_plain : Phi "plain" [d] = plainS d := by simp [Phi]
theorem P_root_below : Phi "root_below" [.int s] = (if 0 ≤ s ∧ s.natAbs < 2 ^ 300 then .ok (.int (rootI s)) else .err) := by simp [Phi]
theorem P_power_of : Phi "power_of" [.int n] = (if 0 ≤ n ∧ n < 2 ^ 62 then .ok (.int (10 ^ n.toNat)) else .err) := by simp [Phi]
theorem P_digits_of : Phi "digits_of" [.tuple [.int t, .int u], .int n] = (if rngN t u ∧ 0 ≤ n ∧ n ≤ 30 then .ok (.int (digI t u n)) else .err) := by simp [Phi]
@[simp] theorem P_digits : Phi "digits" [d, p] = digitsS d p := by simp [Phi]
theorem P_cell (l : List D) : Phi "_law_cell" [.dict [(.none, .list l)], .int k] = (match intsD l with | some ns => (if 0 ≤ k ∧ ns.length ≤ 63 then .ok (.int (cellI ns k.toNat)) else .err) | none => .err) := by simp [Phi]
@[simp] theorem P_drawn : Phi "_law_drawn" [.int m, .int k] = .ok (.int (drawnI m k)) := by simp [Phi]
theorem P_word (x : PySem.Str) : Phi "_law_word" [.str x] = (if x = bnS ∨ x = brS ∨ x = btS then .ok (.str x) else .err) := by simp [Phi]
theorem P_root : Phi "_law_root" [.int s] = (if 0 ≤ s ∧ s.natAbs < 10 ^ 300 then .ok (.int (rootI s)) else .err) := by simp [Phi]
theorem P_ten : Phi "_law_ten" [.int n] = (if 0 ≤ n ∧ n < 321 then .ok (.int (10 ^ n.toNat)) else .err) := by simp [Phi]
theorem P_spans : Phi "_law_spans" [.tuple [.int t, .int u], .int n] = (if rngN t u ∧ 0 ≤ n ∧ n ≤ 30 then .ok (.tuple [.int (spanI t u n).1, .int (spanI t u n).2]) else .err) := by simp [Phi]
theorem P_row : Phi "_law_row" [.int m, .int n] = (if n = 5 then .ok (.list (numsD (rowN m (1 + (m.fmod 5).toNat)))) else .err) := by simp [Phi]
theorem P_refused (r : List D) : Phi "_law_refused" [.list r] = (if 1 ≤ r.length ∧ r.length ≤ 5 ∧ r.all numB = true then .ok (.bool true) else .err) := by simp [Phi]
theorem P_law (l : List D) : Phi "law" [.dict [(.none, .list l)]] = (match intsD l with | some ns => (if ns.length ≤ 63 then .ok (.bool true) else .err) | none => .err) := by simp [Phi]
end
end K10
end Nz

set_option maxHeartbeats 2000000
/-! K10Spec: each def's term gives what Phi tells. -/
namespace Nz
namespace K10
open PySem PyProof.Rows
theorem isCnt_ne {d : D} {lo hi : Int} (h : isCnt d lo hi ≠ .err) : Phi "is_count" [d, .int lo, .int hi] = isCnt d lo hi := P_is_count d lo hi
theorem sp_is_count (ds : List D) (hl : ds.length = 3) (hn : Phi "is_count" ds ≠ .err) : run Phi 3 s_is_count ds = Phi "is_count" ds := by
  match ds, hl with
  | [d, lo, hi], _ =>
    cases lo <;> first | (simp [Phi] at hn; done) | skip
    cases hi <;> first | (simp [Phi] at hn; done) | skip
    rw [P_is_count] at hn ⊢
    exact is_count_run Phi d _ _ hn
theorem sp_need_count (ds : List D) (hl : ds.length = 3) (hn : Phi "need_count" ds ≠ .err) : run Phi 3 s_need_count ds = Phi "need_count" ds := by
  match ds, hl with
  | [d, lo, hi], _ =>
    cases lo <;> first | (simp [Phi] at hn; done) | skip
    cases hi <;> first | (simp [Phi] at hn; done) | skip
    rw [P_need_count] at hn ⊢
    exact need_count_run Phi d _ _ (P_is_count d _ _)
theorem sp_is_number (ds : List D) (hl : ds.length = 1) (hn : Phi "is_number" ds ≠ .err) : run Phi 2 s_is_number ds = Phi "is_number" ds := by
  match ds, hl with
  | [d], _ =>
    rw [P_is_number] at hn ⊢
    exact is_number_run Phi d (fun x lo hi _ => P_is_count x lo hi) hn
theorem sp_need_number (ds : List D) (hl : ds.length = 1) (hn : Phi "need_number" ds ≠ .err) : run Phi 1 s_need_number ds = Phi "need_number" ds := by
  match ds, hl with
  | [d], _ =>
    rw [P_need_number] at hn ⊢
    exact need_number_run Phi d (fun _ => P_is_number d) (fun z => by rw [z] at hn; exact hn rfl)
theorem sp_need_row (ds : List D) (hl : ds.length = 1) (hn : Phi "need_row" ds ≠ .err) : run Phi 2 s_need_row ds = Phi "need_row" ds := by
  match ds, hl with
  | [d], _ =>
    rw [P_need_row] at hn ⊢
    exact need_row_run Phi d (fun x _ => P_is_number x) hn
theorem sp_need_times (ds : List D) (hl : ds.length = 2) (hn : Phi "need_times" ds ≠ .err) : run Phi 4 s_need_times ds = Phi "need_times" ds := by
  match ds, hl with
  | [r, d], _ =>
    cases r <;> first | (simp [Phi] at hn; done) | skip
    rename_i r hx
    rw [P_need_times] at hn ⊢
    by_cases h : r.length ≤ 1000
    · rw [if_pos h] at hn ⊢
      exact need_times_run Phi r d h (fun x lo hi _ => P_is_count x lo hi) hn
    · rw [if_neg h] at hn; exact absurd rfl hn
theorem sp_plain_of (ds : List D) (hl : ds.length = 1) (hn : Phi "plain_of" ds ≠ .err) : run Phi 4 s_plain_of ds = Phi "plain_of" ds := by
  match ds, hl with
  | [d], _ =>
    have key : ∃ t u : Int, d = .tuple [.int t, .int u] := by
      cases d <;> first | (simp [Phi] at hn; done) | skip
      rename_i l hx
      match l with
      | [] => simp [Phi] at hn
      | [a] => cases a <;> simp [Phi] at hn
      | [a, b] => cases a <;> first | (simp [Phi] at hn; done) | (cases b <;> first | (simp [Phi] at hn; done) | exact ⟨_, _, rfl⟩)
      | a :: b :: c :: l => cases a <;> first | (simp [Phi] at hn; done) | (cases b <;> simp [Phi] at hn)
    obtain ⟨t, u, rfl⟩ := key
    rw [P_plain_of] at hn ⊢
    by_cases h : 1 ≤ u ∧ u ≤ 99
    · rw [if_pos h]; exact plain_of_run Phi t u h.1 h.2
    · rw [if_neg h] at hn; exact absurd rfl hn
def s_plain : S := (.seq (.exp (.call "need_number" (.cons (.var 0) .nil))) (.seq (.ret (.call "plain_of" (.cons (.var 0) .nil))) .skip))
theorem isCnt_true {d : D} {lo hi : Int} (h : isCnt d lo hi = .ok (.bool true)) : ∃ i : Int, d = .int i ∧ lo ≤ i ∧ i ≤ hi := by
  cases d <;> simp [isCnt] at h
  exact ⟨_, rfl, h.1, h.2⟩
theorem isNum_true {d : D} (h : isNum d = .ok (.bool true)) : ∃ t u : Int, d = .tuple [.int t, .int u] ∧ rngN t u := by
  unfold isNum at h
  split at h
  · rename_i a b
    rcases isCnt_cases a (-99) 99 with z | ⟨x, z⟩
    · rw [z] at h; cases h
    · rw [z] at h
      cases x with
      | true =>
        obtain ⟨t, rfl, h1, h2⟩ := isCnt_true z
        obtain ⟨u, rfl, h3, h4⟩ := isCnt_true (show isCnt b 1 99 = .ok (.bool true) from h)
        exact ⟨t, u, rfl, by omega, h3, h4⟩
      | false => cases h
  · cases h
  · cases h
theorem sp_plain (ds : List D) (hl : ds.length = 1) (hn : Phi "plain" ds ≠ .err) : run Phi 1 s_plain ds = Phi "plain" ds := by
  match ds, hl with
  | [d], _ =>
    rw [P_plain] at hn ⊢
    unfold plainS at hn ⊢
    rcases isNum_cases d with z | ⟨b, z⟩
    · rw [z] at hn; exact absurd rfl hn
    · cases b with
      | true =>
        obtain ⟨t, u, rfl, h1, h2, h3⟩ := isNum_true z
        rw [z]
        simp [run_def, entE, s_plain, z, needD, h2, h3]
      | false =>
        rw [z]
        simp [run_def, entE, s_plain, z, needD]
def s_digits : S := (.seq (.exp (.call "need_number" (.cons (.var 0) .nil))) (.seq (.exp (.call "need_count" (.cons (.var 1) (.cons (.con (.int 0)) (.cons (.con (.int 30)) .nil))))) (.seq (.ret (.call "digits_of" (.cons (.var 0) (.cons (.var 1) .nil)))) .skip)))
theorem sp_digits (ds : List D) (hl : ds.length = 2) (hn : Phi "digits" ds ≠ .err) : run Phi 2 s_digits ds = Phi "digits" ds := by
  match ds, hl with
  | [d, p], _ =>
    rw [P_digits] at hn ⊢
    unfold digitsS at hn ⊢
    rcases isNum_cases d with z | ⟨b, z⟩
    · rw [z] at hn; exact absurd rfl hn
    · cases b with
      | true =>
        obtain ⟨t, u, rfl, h1, h2, h3⟩ := isNum_true z
        rw [z] at hn ⊢
        rcases isCnt_cases p 0 30 with y | ⟨c, y⟩
        · rw [y] at hn; exact absurd rfl hn
        · rw [y]
          cases c with
          | true =>
            obtain ⟨q, rfl, h4, h5⟩ := isCnt_true y
            have hr : rngN t u := ⟨h1, h2, h3⟩
            have e : Phi "digits_of" [.tuple [.int t, .int u], .int q] = .ok (.int (digI t u q)) := by rw [P_digits_of, if_pos ⟨hr, h4, h5⟩]
            simp [run_def, entE, s_digits, z, y, needD, e]
          | false =>
            simp [run_def, entE, s_digits, z, y, needD]
      | false =>
        rw [z]
        simp [run_def, entE, s_digits, z, needD]
theorem sp_root_below (ds : List D) (hl : ds.length = 1) (hn : Phi "root_below" ds ≠ .err) : run Phi 4 s_root_below ds = Phi "root_below" ds := by
  match ds, hl with
  | [d], _ =>
    cases d <;> first | (simp [Phi] at hn; done) | skip
    rename_i s hx
    rw [P_root_below] at hn ⊢
    by_cases h : 0 ≤ s ∧ s.natAbs < 2 ^ 300
    · rw [if_pos h]; exact (root_below_eq Phi s h.1 (p300 h.2)).1
    · rw [if_neg h] at hn; exact absurd rfl hn
theorem sp_power_of (ds : List D) (hl : ds.length = 1) (hn : Phi "power_of" ds ≠ .err) : run Phi 3 s_power_of ds = Phi "power_of" ds := by
  match ds, hl with
  | [d], _ =>
    cases d <;> first | (simp [Phi] at hn; done) | skip
    rename_i n hx
    rw [P_power_of] at hn ⊢
    by_cases h : 0 ≤ n ∧ n < 2 ^ 62
    · rw [if_pos h]; exact power_of_run Phi n h.1 h.2
    · rw [if_neg h] at hn; exact absurd rfl hn
theorem num_shape {f : String} {d p : D} (h : ∀ d p : D, (∀ t u q : Int, ¬ (d = .tuple [.int t, .int u] ∧ p = .int q)) → Phi f [d, p] = .err) (hn : Phi f [d, p] ≠ .err) : ∃ t u q : Int, d = .tuple [.int t, .int u] ∧ p = .int q := by
  apply Classical.byContradiction
  intro z
  exact hn (h d p fun t u q e => z ⟨t, u, q, e⟩)
theorem shape_err {d p : D} {g : Int → Int → Int → R D} (h : ∀ t u q : Int, ¬ (d = .tuple [.int t, .int u] ∧ p = .int q)) : (match [d, p] with | [.tuple [.int t, .int u], .int q] => g t u q | _ => .err) = .err := by
  split
  · rename_i e; cases e; exact absurd ⟨rfl, rfl⟩ (h _ _ _)
  · rfl
theorem sp_digits_of (ds : List D) (hl : ds.length = 2) (hn : Phi "digits_of" ds ≠ .err) : run Phi 6 s_digits_of ds = Phi "digits_of" ds := by
  match ds, hl with
  | [d, p], _ =>
    obtain ⟨t, u, q, rfl, rfl⟩ := num_shape (f := "digits_of") (fun d p h => by
      have := shape_err (g := fun t u q => if rngN t u ∧ 0 ≤ q ∧ q ≤ 30 then .ok (.int (digI t u q)) else .err) h
      simp only [Phi, String.reduceEq, if_false, if_true, reduceIte]
      exact this) hn
    rw [P_digits_of] at hn ⊢
    by_cases h : rngN t u ∧ 0 ≤ q ∧ q ≤ 30
    · rw [if_pos h]
      obtain ⟨⟨h1, h2, h3⟩, h4, h5⟩ := h
      have hb := sqv_bound h1 (by omega : u.natAbs ≤ 99) h5 h4
      refine digits_of_run Phi t u q h1 (by omega) (by omega) h4 h5 ?_ ?_
      · rw [P_power_of, if_pos ⟨by omega, by omega⟩]
      · rw [P_root_below, if_pos ⟨sqv_nonneg (by omega), hb⟩]
    · rw [if_neg h] at hn; exact absurd rfl hn
end K10
end Nz

set_option maxHeartbeats 2000000
/-! K10Spec2: the law's own defs. -/
namespace Nz
namespace K10
open PySem PyProof.Rows
theorem intsD_ok : ∀ {l : List D} {ns : List Int}, intsD l = some ns → l = ns.map .int
  | [], ns, h => by simp [intsD] at h; subst h; rfl
  | d :: l, ns, h => by
    cases d <;> simp [intsD] at h
    obtain ⟨ms, h1, h2⟩ := h
    subst h2
    rw [intsD_ok h1]; rfl
theorem scr_shape {d : D} (h : ∀ ns : List Int, d ≠ scrD ns) : (∀ l, d = .dict [(.none, .list l)] → intsD l = none) := fun l e => by
  cases q : intsD l with
  | none => rfl
  | some ns => rw [intsD_ok q] at e; exact absurd e (h ns)
theorem sp_cell (ds : List D) (hl : ds.length = 2) (hn : Phi "_law_cell" ds ≠ .err) : run Phi 2 s__law_cell ds = Phi "_law_cell" ds := by
  match ds, hl with
  | [d, k], _ =>
    have key : ∃ (l : List D) (k' : Int), d = .dict [(.none, .list l)] ∧ k = .int k' := by
      apply Classical.byContradiction
      intro z
      apply hn
      simp only [Phi, String.reduceEq, if_false, if_true, reduceIte]
      split
      · rename_i e; cases e; exact absurd ⟨_, _, rfl, rfl⟩ z
      · rfl
    obtain ⟨l, k, rfl, rfl⟩ := key
    rw [P_cell] at hn ⊢
    cases q : intsD l with
    | none => rw [q] at hn; exact absurd rfl hn
    | some ns =>
      rw [q] at hn
      have hn : (if 0 ≤ k ∧ ns.length ≤ 63 then R.ok (PyData.int (cellI ns k.toNat)) else .err) ≠ .err := hn
      have e := intsD_ok q
      subst e
      by_cases h : 0 ≤ k ∧ ns.length ≤ 63
      · show run Phi 2 s__law_cell [scrD ns, .int k] = (if 0 ≤ k ∧ ns.length ≤ 63 then R.ok (PyData.int (cellI ns k.toNat)) else .err)
        rw [if_pos h]
        obtain ⟨m, rfl⟩ := Int.eq_ofNat_of_zero_le h.1
        exact cell_run Phi ns m h.2
      · rw [if_neg h] at hn; exact absurd rfl hn
theorem sp_drawn (ds : List D) (hl : ds.length = 2) (hn : Phi "_law_drawn" ds ≠ .err) : run Phi 3 s__law_drawn ds = Phi "_law_drawn" ds := by
  match ds, hl with
  | [c, k], _ =>
    cases c <;> first | (simp [Phi] at hn; done) | skip
    cases k <;> first | (simp [Phi] at hn; done) | skip
    rw [P_drawn]
    exact drawn_run Phi _ _
theorem sp_root (ds : List D) (hl : ds.length = 1) (hn : Phi "_law_root" ds ≠ .err) : run Phi 3 s__law_root ds = Phi "_law_root" ds := by
  match ds, hl with
  | [d], _ =>
    cases d <;> first | (simp [Phi] at hn; done) | skip
    rename_i s hx
    rw [P_root] at hn ⊢
    by_cases h : 0 ≤ s ∧ s.natAbs < 10 ^ 300
    · rw [if_pos h]; exact law_root_run Phi s h.1 h.2
    · rw [if_neg h] at hn; exact absurd rfl hn
theorem sp_ten (ds : List D) (hl : ds.length = 1) (hn : Phi "_law_ten" ds ≠ .err) : run Phi 1 s__law_ten ds = Phi "_law_ten" ds := by
  match ds, hl with
  | [d], _ =>
    cases d <;> first | (simp [Phi] at hn; done) | skip
    rename_i n hx
    rw [P_ten] at hn ⊢
    by_cases h : 0 ≤ n ∧ n < 321
    · rw [if_pos h]; exact ten_run Phi n h.1 h.2
    · rw [if_neg h] at hn; exact absurd rfl hn
theorem sp_spans (ds : List D) (hl : ds.length = 2) (hn : Phi "_law_spans" ds ≠ .err) : run Phi 8 s__law_spans ds = Phi "_law_spans" ds := by
  match ds, hl with
  | [d, p], _ =>
    obtain ⟨t, u, q, rfl, rfl⟩ := num_shape (f := "_law_spans") (fun d p h => by
      have := shape_err (g := fun t u q => if rngN t u ∧ 0 ≤ q ∧ q ≤ 30 then .ok (.tuple [.int (spanI t u q).1, .int (spanI t u q).2]) else .err) h
      simp only [Phi, String.reduceEq, if_false, if_true, reduceIte]
      exact this) hn
    rw [P_spans] at hn ⊢
    by_cases h : rngN t u ∧ 0 ≤ q ∧ q ≤ 30
    · rw [if_pos h]
      obtain ⟨⟨h1, h2, h3⟩, h4, h5⟩ := h
      have hb := sqv_bound h1 (by omega : u.natAbs ≤ 99) h5 h4
      refine spans_run Phi t u q h1 (by omega) (by omega) h4 h5 ?_ ?_
      · rw [P_ten, if_pos ⟨by omega, by omega⟩]
      · rw [P_root, if_pos ⟨sqv_nonneg (by omega), Nat.lt_of_lt_of_le hb (by decide)⟩]
    · rw [if_neg h] at hn; exact absurd rfl hn
theorem sp_row (ds : List D) (hl : ds.length = 2) (hn : Phi "_law_row" ds ≠ .err) : run Phi 7 s__law_row ds = Phi "_law_row" ds := by
  match ds, hl with
  | [m, n], _ =>
    cases m <;> first | (simp [Phi] at hn; done) | skip
    cases n <;> first | (simp [Phi] at hn; done) | skip
    rename_i m n hx
    rw [P_row] at hn ⊢
    by_cases h : n = 5
    · rw [if_pos h]; subst h; exact row_run Phi m (fun j => P_drawn _ _)
    · rw [if_neg h] at hn; exact absurd rfl hn
def s__law_refused : S := (.seq (.asg 1 (.lst (.cons (.con .none) (.cons (.tup .nil) (.cons (.tup (.cons (.con (.int 1)) .nil)) (.cons (.lst (.cons (.con (.int 1)) (.cons (.con (.int 2)) .nil))) (.cons (.tup (.cons (.con (.int 1)) (.cons (.con (.int 0)) .nil))) (.cons (.tup (.cons (.con (.int 1)) (.cons (.con (.int 100)) .nil))) (.cons (.tup (.cons (.con (.int 100)) (.cons (.con (.int 1)) .nil))) (.cons (.tup (.cons (.neg (.con (.int 100))) (.cons (.con (.int 1)) .nil))) (.cons (.tup (.cons (.con (.bool true)) (.cons (.con (.int 1)) .nil))) (.cons (.tup (.cons (.con (.int 1)) (.cons (.con (.bool true)) .nil))) .nil)))))))))))) (.seq (.for (.nm 2) .lst (.bin .add (.var 1) (.lst (.cons (.tup (.cons (.con (.int 1)) (.cons (.con .none) .nil))) (.cons (.tup (.cons (.con (.int 1)) (.cons (.con (.int 2)) (.cons (.con (.int 3)) .nil)))) .nil)))) (.seq (.asgO 3 (.lst (.cons (.told (.call "plain" (.cons (.var 2) .nil))) .nil))) (.seq (.app 3 (.told (.call "digits" (.cons (.var 2) (.cons (.con .none) .nil))))) (.seq (.seq (.frz [3]) (.ite (.or (.cmp .ne (.var 3) (.bin .mul (.lst (.cons (.con (.str ("BadNumber" : PySem.Str))) .nil)) (.con (.int 2)))) (.cmp .ne (.told (.call "need_row" (.cons (.lst (.cons (.var 2) .nil)) .nil))) (.con (.str ("BadRow" : PySem.Str))))) (.seq (.ret (.con (.bool false))) .skip) .skip)) .skip)))) (.seq (.for (.nm 2) .lst (.lst (.cons (.neg (.con (.int 1))) (.cons (.con (.int 31)) (.cons (.con .none) (.cons (.con (.bool true)) .nil))))) (.seq (.ite (.cmp .ne (.told (.call "digits" (.cons (.tup (.cons (.con (.int 1)) (.cons (.con (.int 2)) .nil))) (.cons (.var 2) .nil)))) (.con (.str ("BadNumber" : PySem.Str)))) (.seq (.ret (.con (.bool false))) .skip) .skip) .skip)) (.seq (.for (.nm 2) .lst (.lst (.cons (.con .none) (.cons (.tup .nil) (.cons (.lst .nil) (.cons (.blt .tuple (.cons (.var 0) .nil)) (.cons (.bin .mul (.lst (.cons (.tup (.cons (.con (.int 1)) (.cons (.con (.int 1)) .nil))) .nil)) (.con (.int 6))) .nil)))))) (.seq (.ite (.cmp .ne (.told (.call "need_row" (.cons (.var 2) .nil))) (.con (.str ("BadRow" : PySem.Str)))) (.seq (.ret (.con (.bool false))) .skip) .skip) .skip)) (.seq (.asg 4 (.len (.rd 0))) (.seq (.for (.nm 2) .lst (.lst (.cons (.con .none) (.cons (.bin .mul (.tup (.cons (.con (.int 0)) .nil)) (.var 4)) (.cons (.bin .mul (.lst (.cons (.con (.int 0)) .nil)) (.bin .add (.var 4) (.con (.int 1)))) (.cons (.bin .mul (.lst (.cons (.con (.int 1001)) .nil)) (.var 4)) (.cons (.bin .mul (.lst (.cons (.con (.bool true)) .nil)) (.var 4)) (.cons (.bin .mul (.lst (.cons (.con .none) .nil)) (.var 4)) .nil))))))) (.seq (.ite (.cmp .ne (.told (.call "need_times" (.cons (.var 0) (.cons (.var 2) .nil)))) (.con (.str ("BadRow" : PySem.Str)))) (.seq (.ret (.con (.bool false))) .skip) .skip) .skip)) (.seq (.asg 5 (.bin .mul (.lst (.cons (.neg (.con (.int 1000))) .nil)) (.len (.rd 0)))) (.seq (.ret (.and (.cmp .is (.call "need_row" (.cons (.var 0) .nil)) (.con .none)) (.and (.cmp .is (.call "need_times" (.cons (.var 0) (.cons (.var 5) .nil))) (.con .none)) (.cmp .eq (.var 5) (.bin .mul (.lst (.cons (.neg (.con (.int 1000))) .nil)) (.len (.rd 0))))))) .skip))))))))
def s_law : S := (.seq (.for (.nm 1) .rng1 (.cons (.blt .max (.cons (.con (.int 1)) (.cons (.blt .min (.cons (.con (.int 4)) (.cons (.len (.rd 0)) .nil))) .nil))) .nil) (.seq (.asg 2 (.call "_law_drawn" (.cons (.call "_law_cell" (.cons (.var 0) (.cons (.var 1) .nil))) (.cons (.var 1) .nil)))) (.seq (.asg 3 (.call "_law_row" (.cons (.bin .fdiv (.var 2) (.con (.int 64))) (.cons (.con (.int 5)) .nil)))) (.seq (.for (.nm 4) .lst (.bin .add (.var 3) (.lst (.cons (.tup (.cons (.con (.int 99)) (.cons (.con (.int 99)) .nil))) (.cons (.tup (.cons (.neg (.con (.int 99))) (.cons (.con (.int 98)) .nil))) (.cons (.tup (.cons (.con (.int 0)) (.cons (.con (.int 50)) .nil))) (.cons (.tup (.cons (.con (.int 7)) (.cons (.con (.int 64)) .nil))) .nil)))))) (.seq (.asgP (.p2 (.nm 5) (.nm 6)) (.call "plain" (.cons (.var 4) .nil))) (.seq (.ite (.or (.cmp .ne (.bin .mul (.bin .mul (.var 5) (.var 5)) (.var 6)) (.bin .mul (.bin .mul (.idx (.rd 4) (.con (.int 0))) (.idx (.rd 4) (.con (.int 0)))) (.idx (.rd 4) (.con (.int 1))))) (.cmp .lt (.bin .mul (.var 5) (.idx (.rd 4) (.con (.int 0)))) (.con (.int 0)))) (.seq (.ret (.con (.bool false))) .skip) .skip) (.seq (.ite (.or (.cmp .ne (.comp [7] (.nm 7) .rng2 (.cons (.con (.int 2)) (.cons (.con (.int 10)) .nil)) (.cmp .eq (.bin .mod (.var 6) (.bin .mul (.var 7) (.var 7))) (.con (.int 0))) (.var 7)) (.lst .nil)) (.and (.cmp .eq (.var 5) (.con (.int 0))) (.cmp .ne (.var 6) (.con (.int 1))))) (.seq (.ret (.con (.bool false))) .skip) .skip) (.seq (.for (.nm 8) .lst (.lst (.cons (.con (.int 0)) (.cons (.con (.int 1)) (.cons (.con (.int 30)) (.cons (.bin .mod (.var 2) (.con (.int 31))) .nil))))) (.seq (.asgP (.p2 (.nm 9) (.nm 10)) (.call "_law_spans" (.cons (.var 4) (.cons (.var 8) .nil)))) (.seq (.ite (.cmp .ne (.call "digits" (.cons (.var 4) (.cons (.var 8) .nil))) (.var 9)) (.seq (.ret (.con (.bool false))) .skip) .skip) (.seq (.asg 11 (.bin .mul (.bin .mul (.bin .mul (.idx (.rd 4) (.con (.int 0))) (.idx (.rd 4) (.con (.int 0)))) (.idx (.rd 4) (.con (.int 1)))) (.call "_law_ten" (.cons (.bin .mul (.con (.int 2)) (.var 8)) .nil)))) (.seq (.ite (.or (.cmp .gt (.idx (.srt (.lst (.cons (.bin .mul (.var 9) (.var 9)) (.cons (.bin .mul (.var 10) (.var 10)) .nil)))) (.con (.int 0))) (.var 11)) (.cmp .lt (.idx (.srt (.lst (.cons (.bin .mul (.var 9) (.var 9)) (.cons (.bin .mul (.var 10) (.var 10)) .nil)))) (.con (.int 1))) (.var 11))) (.seq (.ret (.con (.bool false))) .skip) .skip) .skip))))) .skip))))) (.seq (.ite (.not (.call "_law_refused" (.cons (.var 3) .nil))) (.seq (.ret (.con (.bool false))) .skip) .skip) .skip))))) (.seq (.ret (.con (.bool true))) .skip))
end K10
end Nz

set_option maxHeartbeats 4000000
/-! K10Ref: what is refused. -/
namespace Nz
theorem exS_lst {Φ : String → List D → R D} {p : Pat} {src : E} {b : S} {l : List D} {ρ : Env} (I : Nat → Env → Prop) (hs : evE Φ src ρ = .ok (.list l)) (h2 : I 0 ρ)
    (step : ∀ i (h : i < l.length) ρ, I i ρ → ∃ ρ1 ρ2, bindP p l[i] ρ = .ok ρ1 ∧ exS Φ b ρ1 = .nx ρ2 ∧ I (i + 1) ρ2) : ∃ ρ', exS Φ (.for p .lst src b) ρ = .nx ρ' ∧ I l.length ρ' := by
  obtain ⟨ρ', h3, h4⟩ := forF_inv (bd := fun x ρ => bindP p x ρ) (b := fun ρ => exS Φ b ρ) I l 0 ρ (fun i hi ρ hI => by
    rw [Nat.zero_add] at hI ⊢
    exact step i hi ρ hI) h2
  refine ⟨ρ', ?_, by simpa using h4⟩
  rw [exS_for, hs]
  exact h3
theorem ite_no {Φ : String → List D → R D} {c : E} {a b : S} {ρ : Env} (h : evE Φ c ρ = .ok (.bool false)) : exS Φ (.ite c a b) ρ = exS Φ b ρ := by rw [exS_ite, h]; rfl
theorem ite_yes {Φ : String → List D → R D} {c : E} {a b : S} {ρ : Env} (h : evE Φ c ρ = .ok (.bool true)) : exS Φ (.ite c a b) ρ = exS Φ a ρ := by rw [exS_ite, h]; rfl
theorem allD_rep (f : D → R D) (d : D) (b : Bool) (h : f d = .ok (.bool b)) : ∀ n : Nat, allD f (List.replicate n d) = .ok (.bool (n == 0 || b))
  | 0 => by simp [allD]
  | n + 1 => by
    rw [List.replicate_succ]
    unfold allD
    rw [h, allD_rep f d b h n]
    cases b <;> simp
theorem flat1 (d : D) : ∀ n : Nat, (List.replicate n [d]).flatten = List.replicate n d
  | 0 => rfl
  | n + 1 => by rw [List.replicate_succ, List.flatten_cons, flat1 d n]; rfl
namespace K10
open PySem PyProof.Rows
theorem w_bn : Phi "_law_word" [.str ("BadNumber" : PySem.Str)] = .ok (.str ("BadNumber" : PySem.Str)) := by rw [P_word, if_pos (.inl rfl)]
theorem w_br : Phi "_law_word" [.str ("BadRow" : PySem.Str)] = .ok (.str ("BadRow" : PySem.Str)) := by rw [P_word, if_pos (.inr (.inl rfl))]
theorem e_bn : eqD (.str ("BadNumber" : PySem.Str)) (.str ("BadNumber" : PySem.Str)) = .ok true := by rw [eq_str (by decide +kernel) (by decide +kernel)]; simp
theorem e_br : eqD (.str ("BadRow" : PySem.Str)) (.str ("BadRow" : PySem.Str)) = .ok true := by rw [eq_str (by decide +kernel) (by decide +kernel)]; simp
theorem e_bn2 : eqD (.list [.str ("BadNumber" : PySem.Str), .str ("BadNumber" : PySem.Str)]) (.list [.str ("BadNumber" : PySem.Str), .str ("BadNumber" : PySem.Str)]) = .ok true := by
  show (if (shp (.list [.str ("BadNumber" : PySem.Str), .str ("BadNumber" : PySem.Str)]) && shp (.list [.str ("BadNumber" : PySem.Str), .str ("BadNumber" : PySem.Str)])) then R.ok (PyData.eqv _ _) else .err) = _
  have : shp (.list [.str ("BadNumber" : PySem.Str), .str ("BadNumber" : PySem.Str)]) = true := by
    have : PyData.strOk ("BadNumber" : PySem.Str) = true := by decide +kernel
    simp [shp, SeqAt.shaped, PyData.canLay0, PyData.canLayAll0, PyData.depth, PyData.depthAll, this]
  rw [this]
  simp [PyData.eqv, PyData.eqvAll]
theorem bad_plain {d : D} (h : isNum d = .ok (.bool false)) : plainS d = .exc "BadNumber" := by simp [plainS, h]
theorem bad_digits {d p : D} (h : isNum d = .ok (.bool false)) : digitsS d p = .exc "BadNumber" := by simp [digitsS, h]
theorem bad_row1 {d : D} (h : isNum d = .ok (.bool false)) : needRow (.list [d]) = .exc "BadRow" := by simp [needRow, allD, h, needD]
theorem L_le (n : Nat) (h : n ≤ 1000) : (n ≤ LINE) = True := eq_true (by have := LINE_big; omega)
/-- one turn of the first loop -/
theorem turn1 {r l y z4 z5 : Option Sl} {b : D} (h : isNum b = .ok (.bool false)) : exS Phi (.seq (.asgO 3 (.lst (.cons (.told (.call "plain" (.cons (.var 2) .nil))) .nil))) (.seq (.app 3 (.told (.call "digits" (.cons (.var 2) (.cons (.con .none) .nil))))) (.seq (.seq (.frz [3]) (.ite (.or (.cmp .ne (.var 3) (.bin .mul (.lst (.cons (.con (.str ("BadNumber" : PySem.Str))) .nil)) (.con (.int 2)))) (.cmp .ne (.told (.call "need_row" (.cons (.lst (.cons (.var 2) .nil)) .nil))) (.con (.str ("BadRow" : PySem.Str))))) (.seq (.ret (.con (.bool false))) .skip) .skip)) .skip)))
    [r, l, some (.val b), y, z4, z5] = .nx [r, l, some (.val b), some (.val (.list [.str ("BadNumber" : PySem.Str), .str ("BadNumber" : PySem.Str)])), z4, z5] := by
  have e1 : Phi "plain" [b] = .exc "BadNumber" := by rw [P_plain, bad_plain h]
  have e2 : Phi "digits" [b, .none] = .exc "BadNumber" := by rw [P_digits, bad_digits h]
  have e3 : Phi "need_row" [.list [b]] = .exc "BadRow" := by rw [P_need_row, bad_row1 h]
  simp [-P_plain, -P_digits, -P_need_row, e1, e2, e3, w_bn, w_br, e_br, e_bn2, L_le, frzE, show okRep 1 2 = true by decide, show (1 : Nat) < LINE by decide]
theorem turn2 {r l y z4 z5 : Option Sl} {b : D} (h : isCnt b 0 30 = .ok (.bool false)) : exS Phi (.seq (.ite (.cmp .ne (.told (.call "digits" (.cons (.tup (.cons (.con (.int 1)) (.cons (.con (.int 2)) .nil))) (.cons (.var 2) .nil)))) (.con (.str ("BadNumber" : PySem.Str)))) (.seq (.ret (.con (.bool false))) .skip) .skip) .skip) [r, l, some (.val b), y, z4, z5] = .nx [r, l, some (.val b), y, z4, z5] := by
  have e1 : Phi "digits" [.tuple [.int 1, .int 2], b] = .exc "BadNumber" := by
    rw [P_digits]
    have : isNum (.tuple [.int 1, .int 2]) = .ok (.bool true) := by simp [isNum, isCnt]
    simp [digitsS, this, h]
  simp [-P_digits, e1, w_bn, e_bn, L_le]
theorem turn3 {r l y z4 z5 : Option Sl} {b : D} (h : needRow b = .exc "BadRow") : exS Phi (.seq (.ite (.cmp .ne (.told (.call "need_row" (.cons (.var 2) .nil))) (.con (.str ("BadRow" : PySem.Str)))) (.seq (.ret (.con (.bool false))) .skip) .skip) .skip) [r, l, some (.val b), y, z4, z5] = .nx [r, l, some (.val b), y, z4, z5] := by
  have e1 : Phi "need_row" [b] = .exc "BadRow" := by rw [P_need_row, h]
  simp [-P_need_row, e1, w_br, e_br]
theorem turn4 {l y z4 z5 : Option Sl} {r : List D} {b : D} (hr : r.length ≤ 5) (h : needTimes r.length b = .exc "BadRow") : exS Phi (.seq (.ite (.cmp .ne (.told (.call "need_times" (.cons (.var 0) (.cons (.var 2) .nil)))) (.con (.str ("BadRow" : PySem.Str)))) (.seq (.ret (.con (.bool false))) .skip) .skip) .skip) [some (.val (.list r)), l, some (.val b), y, z4, z5] = .nx [some (.val (.list r)), l, some (.val b), y, z4, z5] := by
  have e1 : Phi "need_times" [.list r, b] = .exc "BadRow" := by rw [P_need_times, if_pos (by omega), h]
  simp [-P_need_times, e1, w_br, e_br]
end K10
end Nz

set_option maxHeartbeats 4000000
/-! K10Ref2: what is refused, joined. -/
namespace Nz
@[simp] theorem mul_tuple (a : List D) (j : Int) : mulD (.tuple a) (.int j) = (if a.length ≤ 1000 ∧ a.isEmpty = false ∧ 1 ≤ j ∧ j.natAbs ≤ 1000 then .ok (.tuple (List.replicate j.toNat a).flatten) else .err) := rfl
@[simp] theorem blt_tuple (a : List D) : bltD .tuple [.list a] = .ok (.tuple a) := rfl
@[simp] theorem blt_max (i j : Int) : bltD .max [.int i, .int j] = .ok (.int (if j > i then j else i)) := rfl
@[simp] theorem blt_min (i j : Int) : bltD .min [.int i, .int j] = .ok (.int (if j < i then j else i)) := rfl
namespace K10
open PySem PyProof.Rows
theorem rep_ok {n : Nat} (h : n ≤ 7) : okRep 1 (n : Int) = true := by
  simp only [okRep, Bool.and_eq_true, decide_eq_true_eq]
  refine ⟨by omega, ?_⟩
  have := LINE_big
  have e : (n : Int).toNat = n := by omega
  rw [e]; omega
theorem rep_ok1 {n : Nat} (h : n ≤ 5) : okRep 1 ((n : Int) + 1) = true := by
  have := rep_ok (n := n + 1) (by omega)
  simpa using this
theorem rep1 (d : D) {n : Nat} (h : n ≤ 7) : mulD (.list [d]) (.int (n : Int)) = .ok (.list (List.replicate n d)) := by
  have o : okRep ([d] : List D).length (n : Int) = true := rep_ok h
  rw [mul_list, if_pos o, Int.toNat_natCast, flat1]
theorem rep1' (d : D) {n : Nat} (h : n ≤ 5) : mulD (.list [d]) (.int ((n : Int) + 1)) = .ok (.list (List.replicate (n + 1) d)) := by
  have := rep1 d (n := n + 1) (by omega)
  simpa [-mul_list] using this
theorem rep6 (d : D) : mulD (.list [d]) (.int 6) = .ok (.list (List.replicate 6 d)) := rep1 d (n := 6) (by decide)
def base : List D := [.none, .tuple [], .tuple [.int 1], .list [.int 1, .int 2], .tuple [.int 1, .int 0], .tuple [.int 1, .int 100], .tuple [.int 100, .int 1], .tuple [.int (-100), .int 1], .tuple [.bool true, .int 1], .tuple [.int 1, .bool true]]
def base2 : List D := base ++ [.tuple [.int 1, .none], .tuple [.int 1, .int 2, .int 3]]
theorem base2_bad : ∀ d ∈ base2, isNum d = .ok (.bool false) := by
  intro d hd
  simp only [base2, base, List.cons_append, List.nil_append, List.mem_cons, List.not_mem_nil, or_false] at hd
  rcases hd with e | e | e | e | e | e | e | e | e | e | e | e <;> subst e <;> simp [isNum, isCnt]
def base3 : List D := [.int (-1), .int 31, .none, .bool true]
theorem base3_bad : ∀ d ∈ base3, isCnt d 0 30 = .ok (.bool false) := by
  intro d hd
  simp only [base3, List.mem_cons, List.not_mem_nil, or_false] at hd
  rcases hd with e | e | e | e <;> subst e <;> simp [isCnt]
def base4 (r : List D) : List D := [.none, .tuple [], .list [], .tuple r, .list [.tuple [.int 1, .int 1], .tuple [.int 1, .int 1], .tuple [.int 1, .int 1], .tuple [.int 1, .int 1], .tuple [.int 1, .int 1], .tuple [.int 1, .int 1]]]
theorem base4_bad (r : List D) : ∀ d ∈ base4 r, needRow d = .exc "BadRow" := by
  intro d hd
  simp only [base4, List.mem_cons, List.not_mem_nil, or_false] at hd
  rcases hd with e | e | e | e | e <;> subst e <;> simp [needRow]
def base5 (n : Nat) : List D := [.none, .tuple (List.replicate n (.int 0)), .list (List.replicate (n + 1) (.int 0)), .list (List.replicate n (.int 1001)), .list (List.replicate n (.bool true)), .list (List.replicate n .none)]
theorem base5_bad (n : Nat) (h : 1 ≤ n) : ∀ d ∈ base5 n, needTimes n d = .exc "BadRow" := by
  intro d hd
  simp only [base5, List.mem_cons, List.not_mem_nil, or_false] at hd
  have hz : (n == 0) = false := by simp; omega
  rcases hd with e | e | e | e | e | e <;> subst e
  · simp [needTimes]
  · simp [needTimes]
  · simp [needTimes]
  · simp [needTimes, allD_rep (fun x => isCnt x (-1000) 1000) (.int 1001) false (by simp [isCnt]) n, needD, hz]
  · simp [needTimes, allD_rep (fun x => isCnt x (-1000) 1000) (.bool true) false (by simp [isCnt]) n, needD, hz]
  · simp [needTimes, allD_rep (fun x => isCnt x (-1000) 1000) .none false (by simp [isCnt]) n, needD, hz]
theorem allD_num {r : List D} (h : r.all numB = true) : allD isNum r = .ok (.bool true) := by
  induction r with
  | nil => rfl
  | cons d r ih =>
    simp only [List.all_cons, Bool.and_eq_true] at h
    have e : isNum d = .ok (.bool true) := by
      have := h.1
      unfold numB at this
      rcases isNum_cases d with z | ⟨b, z⟩
      · rw [z] at this; cases this
      · rw [z] at this
        cases b with
        | true => exact z
        | false => cases this
    unfold allD
    rw [e, ih h.2]
    rfl
theorem ref0 (r : List D) : exS Phi (.asg 1 (.lst (.cons (.con .none) (.cons (.tup .nil) (.cons (.tup (.cons (.con (.int 1)) .nil)) (.cons (.lst (.cons (.con (.int 1)) (.cons (.con (.int 2)) .nil))) (.cons (.tup (.cons (.con (.int 1)) (.cons (.con (.int 0)) .nil))) (.cons (.tup (.cons (.con (.int 1)) (.cons (.con (.int 100)) .nil))) (.cons (.tup (.cons (.con (.int 100)) (.cons (.con (.int 1)) .nil))) (.cons (.tup (.cons (.neg (.con (.int 100))) (.cons (.con (.int 1)) .nil))) (.cons (.tup (.cons (.con (.bool true)) (.cons (.con (.int 1)) .nil))) (.cons (.tup (.cons (.con (.int 1)) (.cons (.con (.bool true)) .nil))) .nil)))))))))))) (entE 6 [.list r]) = .nx [some (.val (.list r)), some (.val (.list base)), none, none, none, none] := by
  simp [entE, L_le, base]
theorem ref1 (r : List D) : ∃ x2 x3, exS Phi (.for (.nm 2) .lst (.bin .add (.var 1) (.lst (.cons (.tup (.cons (.con (.int 1)) (.cons (.con .none) .nil))) (.cons (.tup (.cons (.con (.int 1)) (.cons (.con (.int 2)) (.cons (.con (.int 3)) .nil)))) .nil)))) (.seq (.asgO 3 (.lst (.cons (.told (.call "plain" (.cons (.var 2) .nil))) .nil))) (.seq (.app 3 (.told (.call "digits" (.cons (.var 2) (.cons (.con .none) .nil))))) (.seq (.seq (.frz [3]) (.ite (.or (.cmp .ne (.var 3) (.bin .mul (.lst (.cons (.con (.str ("BadNumber" : PySem.Str))) .nil)) (.con (.int 2)))) (.cmp .ne (.told (.call "need_row" (.cons (.lst (.cons (.var 2) .nil)) .nil))) (.con (.str ("BadRow" : PySem.Str))))) (.seq (.ret (.con (.bool false))) .skip) .skip)) .skip))))
    [some (.val (.list r)), some (.val (.list base)), none, none, none, none] = .nx [some (.val (.list r)), some (.val (.list base)), x2, x3, none, none] := by
  obtain ⟨ρ1, b1, x2, x3, rfl⟩ := exS_lst (Φ := Phi) (p := .nm 2) (src := .bin .add (.var 1) (.lst (.cons (.tup (.cons (.con (.int 1)) (.cons (.con .none) .nil))) (.cons (.tup (.cons (.con (.int 1)) (.cons (.con (.int 2)) (.cons (.con (.int 3)) .nil)))) .nil)))) (l := base2) (ρ := [some (.val (.list r)), some (.val (.list base)), none, none, none, none])
    (b := .seq (.asgO 3 (.lst (.cons (.told (.call "plain" (.cons (.var 2) .nil))) .nil))) (.seq (.app 3 (.told (.call "digits" (.cons (.var 2) (.cons (.con .none) .nil))))) (.seq (.seq (.frz [3]) (.ite (.or (.cmp .ne (.var 3) (.bin .mul (.lst (.cons (.con (.str ("BadNumber" : PySem.Str))) .nil)) (.con (.int 2)))) (.cmp .ne (.told (.call "need_row" (.cons (.lst (.cons (.var 2) .nil)) .nil))) (.con (.str ("BadRow" : PySem.Str))))) (.seq (.ret (.con (.bool false))) .skip) .skip)) .skip)))
    (fun _ ρ => ∃ x2 x3, ρ = [some (.val (.list r)), some (.val (.list base)), x2, x3, none, none]) (by simp [L_le, base, base2]) ⟨_, _, rfl⟩
    (fun i hi ρ ⟨x2, x3, e⟩ => by subst e; exact ⟨_, _, rfl, turn1 (base2_bad _ (List.getElem_mem hi)), _, _, rfl⟩)
  exact ⟨x2, x3, b1⟩
theorem ref2 (r : List D) (x2 x3 : Option Sl) : ∃ y2 y3, exS Phi (.for (.nm 2) .lst (.lst (.cons (.neg (.con (.int 1))) (.cons (.con (.int 31)) (.cons (.con .none) (.cons (.con (.bool true)) .nil))))) (.seq (.ite (.cmp .ne (.told (.call "digits" (.cons (.tup (.cons (.con (.int 1)) (.cons (.con (.int 2)) .nil))) (.cons (.var 2) .nil)))) (.con (.str ("BadNumber" : PySem.Str)))) (.seq (.ret (.con (.bool false))) .skip) .skip) .skip))
    [some (.val (.list r)), some (.val (.list base)), x2, x3, none, none] = .nx [some (.val (.list r)), some (.val (.list base)), y2, y3, none, none] := by
  obtain ⟨ρ2, b2, y2, y3, rfl⟩ := exS_lst (Φ := Phi) (p := .nm 2) (src := .lst (.cons (.neg (.con (.int 1))) (.cons (.con (.int 31)) (.cons (.con .none) (.cons (.con (.bool true)) .nil))))) (l := base3) (ρ := [some (.val (.list r)), some (.val (.list base)), x2, x3, none, none])
    (b := .seq (.ite (.cmp .ne (.told (.call "digits" (.cons (.tup (.cons (.con (.int 1)) (.cons (.con (.int 2)) .nil))) (.cons (.var 2) .nil)))) (.con (.str ("BadNumber" : PySem.Str)))) (.seq (.ret (.con (.bool false))) .skip) .skip) .skip)
    (fun _ ρ => ∃ x2 x3, ρ = [some (.val (.list r)), some (.val (.list base)), x2, x3, none, none]) (by simp [L_le, base3]) ⟨_, _, rfl⟩
    (fun i hi ρ ⟨x2, x3, e⟩ => by subst e; exact ⟨_, _, rfl, turn2 (base3_bad _ (List.getElem_mem hi)), _, _, rfl⟩)
  exact ⟨y2, y3, b2⟩
theorem ref3 (r : List D) (y2 y3 : Option Sl) : ∃ z2 z3, exS Phi (.for (.nm 2) .lst (.lst (.cons (.con .none) (.cons (.tup .nil) (.cons (.lst .nil) (.cons (.blt .tuple (.cons (.var 0) .nil)) (.cons (.bin .mul (.lst (.cons (.tup (.cons (.con (.int 1)) (.cons (.con (.int 1)) .nil))) .nil)) (.con (.int 6))) .nil)))))) (.seq (.ite (.cmp .ne (.told (.call "need_row" (.cons (.var 2) .nil))) (.con (.str ("BadRow" : PySem.Str)))) (.seq (.ret (.con (.bool false))) .skip) .skip) .skip))
    [some (.val (.list r)), some (.val (.list base)), y2, y3, none, none] = .nx [some (.val (.list r)), some (.val (.list base)), z2, z3, none, none] := by
  obtain ⟨ρ3, b3, z2, z3, rfl⟩ := exS_lst (Φ := Phi) (p := .nm 2) (src := .lst (.cons (.con .none) (.cons (.tup .nil) (.cons (.lst .nil) (.cons (.blt .tuple (.cons (.var 0) .nil)) (.cons (.bin .mul (.lst (.cons (.tup (.cons (.con (.int 1)) (.cons (.con (.int 1)) .nil))) .nil)) (.con (.int 6))) .nil)))))) (l := base4 r) (ρ := [some (.val (.list r)), some (.val (.list base)), y2, y3, none, none])
    (b := .seq (.ite (.cmp .ne (.told (.call "need_row" (.cons (.var 2) .nil))) (.con (.str ("BadRow" : PySem.Str)))) (.seq (.ret (.con (.bool false))) .skip) .skip) .skip)
    (fun _ ρ => ∃ x2 x3, ρ = [some (.val (.list r)), some (.val (.list base)), x2, x3, none, none]) (by
      simp [-mul_list, L_le, base4, rep6]) ⟨_, _, rfl⟩
    (fun i hi ρ ⟨x2, x3, e⟩ => by subst e; exact ⟨_, _, rfl, turn3 (base4_bad r _ (List.getElem_mem hi)), _, _, rfl⟩)
  exact ⟨z2, z3, b3⟩
theorem ref4 (r : List D) (z2 z3 : Option Sl) (h1 : 1 ≤ r.length) (h2 : r.length ≤ 5) : ∃ w2 w3, exS Phi (.for (.nm 2) .lst (.lst (.cons (.con .none) (.cons (.bin .mul (.tup (.cons (.con (.int 0)) .nil)) (.var 4)) (.cons (.bin .mul (.lst (.cons (.con (.int 0)) .nil)) (.bin .add (.var 4) (.con (.int 1)))) (.cons (.bin .mul (.lst (.cons (.con (.int 1001)) .nil)) (.var 4)) (.cons (.bin .mul (.lst (.cons (.con (.bool true)) .nil)) (.var 4)) (.cons (.bin .mul (.lst (.cons (.con .none) .nil)) (.var 4)) .nil))))))) (.seq (.ite (.cmp .ne (.told (.call "need_times" (.cons (.var 0) (.cons (.var 2) .nil)))) (.con (.str ("BadRow" : PySem.Str)))) (.seq (.ret (.con (.bool false))) .skip) .skip) .skip))
    [some (.val (.list r)), some (.val (.list base)), z2, z3, some (.val (.int r.length)), none] = .nx [some (.val (.list r)), some (.val (.list base)), w2, w3, some (.val (.int r.length)), none] := by
  obtain ⟨ρ4, b4, w2, w3, rfl⟩ := exS_lst (Φ := Phi) (p := .nm 2) (src := .lst (.cons (.con .none) (.cons (.bin .mul (.tup (.cons (.con (.int 0)) .nil)) (.var 4)) (.cons (.bin .mul (.lst (.cons (.con (.int 0)) .nil)) (.bin .add (.var 4) (.con (.int 1)))) (.cons (.bin .mul (.lst (.cons (.con (.int 1001)) .nil)) (.var 4)) (.cons (.bin .mul (.lst (.cons (.con (.bool true)) .nil)) (.var 4)) (.cons (.bin .mul (.lst (.cons (.con .none) .nil)) (.var 4)) .nil))))))) (l := base5 r.length) (ρ := [some (.val (.list r)), some (.val (.list base)), z2, z3, some (.val (.int r.length)), none])
    (b := .seq (.ite (.cmp .ne (.told (.call "need_times" (.cons (.var 0) (.cons (.var 2) .nil)))) (.con (.str ("BadRow" : PySem.Str)))) (.seq (.ret (.con (.bool false))) .skip) .skip) .skip)
    (fun _ ρ => ∃ x2 x3, ρ = [some (.val (.list r)), some (.val (.list base)), x2, x3, some (.val (.int r.length)), none]) (by
      have o1 : ∀ d, mulD (.list [d]) (.int (r.length : Int)) = .ok (.list (List.replicate r.length d)) := fun d => rep1 d (by omega)
      have o2 : ∀ d, mulD (.list [d]) (.int ((r.length : Int) + 1)) = .ok (.list (List.replicate (r.length + 1) d)) := fun d => rep1' d h2
      have c1 : (1 : Int) ≤ r.length := by omega
      have c2 : (r.length : Int).natAbs ≤ 1000 := by omega
      generalize r.length = n at *
      have c3 : n ≤ 1000 := by omega
      simp [-mul_list, L_le, base5, o1, o2, c1, c2, c3, flat1]) ⟨_, _, rfl⟩
    (fun i hi ρ ⟨x2, x3, e⟩ => by subst e; exact ⟨_, _, rfl, turn4 h2 (base5_bad r.length h1 _ (List.getElem_mem hi)), _, _, rfl⟩)
  exact ⟨w2, w3, b4⟩
theorem ref5 (r : List D) (w2 w3 : Option Sl) (h1 : 1 ≤ r.length) (h2 : r.length ≤ 5) (h3 : r.all numB = true) :
    exS Phi (.seq (.asg 5 (.bin .mul (.lst (.cons (.neg (.con (.int 1000))) .nil)) (.len (.rd 0)))) (.seq (.ret (.and (.cmp .is (.call "need_row" (.cons (.var 0) .nil)) (.con .none)) (.and (.cmp .is (.call "need_times" (.cons (.var 0) (.cons (.var 5) .nil))) (.con .none)) (.cmp .eq (.var 5) (.bin .mul (.lst (.cons (.neg (.con (.int 1000))) .nil)) (.len (.rd 0))))))) .skip)) [some (.val (.list r)), some (.val (.list base)), w2, w3, some (.val (.int r.length)), none] = .rt (.bool true) := by
  have n1 : Phi "need_row" [.list r] = .ok .none := by
    rw [P_need_row]
    show (if 1 ≤ r.length ∧ r.length ≤ 5 then needD (allD isNum r) "BadRow" else .exc "BadRow") = _
    rw [if_pos ⟨h1, h2⟩, allD_num h3]; rfl
  have n2 : Phi "need_times" [.list r, .list (List.replicate r.length (.int (-1000)))] = .ok .none := by
    rw [P_need_times, if_pos (by omega)]
    simp [needTimes, allD_rep (fun x => isCnt x (-1000) 1000) (.int (-1000)) true (by simp [isCnt]) r.length, needD]
  have o1 : ∀ d, mulD (.list [d]) (.int (r.length : Int)) = .ok (.list (List.replicate r.length d)) := fun d => rep1 d (by omega)
  have eq5 : eqD (.list (List.replicate r.length (.int (-1000)))) (.list (List.replicate r.length (.int (-1000)))) = .ok true := by
    have := eq_ints (List.replicate r.length (-1000)) (List.replicate r.length (-1000))
    simpa using this
  have isn : isD .none .none = .ok true := rfl
  simp [-mul_list, -P_need_row, -P_need_times, n1, n2, o1, L_le, eq5, isn]
theorem refused_run (r : List D) (h1 : 1 ≤ r.length) (h2 : r.length ≤ 5) (h3 : r.all numB = true) : run Phi 6 s__law_refused [.list r] = .ok (.bool true) := by
  refine run_rt ?_
  unfold s__law_refused
  obtain ⟨x2, x3, b1⟩ := ref1 r
  obtain ⟨y2, y3, b2⟩ := ref2 r x2 x3
  obtain ⟨z2, z3, b3⟩ := ref3 r y2 y3
  obtain ⟨w2, w3, b4⟩ := ref4 r z2 z3 h1 h2
  have a4 : exS Phi (.asg 4 (.len (.rd 0))) [some (.val (.list r)), some (.val (.list base)), z2, z3, none, none] = .nx [some (.val (.list r)), some (.val (.list base)), z2, z3, some (.val (.int r.length)), none] := by simp
  rw [seq_nx (ref0 r), seq_nx b1, seq_nx b2, seq_nx b3, seq_nx a4, seq_nx b4]
  exact ref5 r w2 w3 h1 h2 h3
theorem sp_refused (ds : List D) (hl : ds.length = 1) (hn : Phi "_law_refused" ds ≠ .err) : run Phi 6 s__law_refused ds = Phi "_law_refused" ds := by
  match ds, hl with
  | [d], _ =>
    cases d <;> first | (simp [Phi] at hn; done) | skip
    rename_i r hx
    rw [P_refused] at hn ⊢
    by_cases h : 1 ≤ r.length ∧ r.length ≤ 5 ∧ r.all numB = true
    · rw [if_pos h]; exact refused_run r h.1 h.2.1 h.2.2
    · rw [if_neg h] at hn; exact absurd rfl hn
end K10
end Nz

set_option maxHeartbeats 4000000
/-! K10Law: the law's own term. -/
namespace Nz
open PySem
theorem srt2 (a b : Int) : srtD (.list [.int a, .int b]) = .ok (.list [.int (if a ≤ b then a else b), .int (if a ≤ b then b else a)]) := by
  show (match intsD [PyData.int a, PyData.int b] with | some is => R.ok (PyData.list ((srtI is).map .int)) | none => .err) = _
  simp only [intsD, Option.map_some, srtI, putI]
  by_cases h : a ≤ b <;> simp [h]
@[simp] theorem idx_tup0 (a b : D) : idxD (.tuple [a, b]) (.int 0) = .ok a := rfl
@[simp] theorem idx_tup1 (a b : D) : idxD (.tuple [a, b]) (.int 1) = .ok b := rfl
@[simp] theorem idx_lst0 (a b : D) : idxD (.list [a, b]) (.int 0) = .ok a := rfl
@[simp] theorem idx_lst1 (a b : D) : idxD (.list [a, b]) (.int 1) = .ok b := rfl
namespace K10
open PySem PyProof.Rows
theorem hi_small {s : Int} (h : IsRoot s (rootI s)) (hb : s.natAbs < 2 ^ 300) : (hiR s).natAbs ≤ 2 ^ 300 := by
  have := root_small h hb
  have := hiR_ok h
  omega
theorem p300e {n : Nat} (h : n ≤ 2 ^ 300) : n < 2 ^ 400000 := Nat.lt_of_le_of_lt h (Nat.pow_lt_pow_right (by decide) (by decide))
theorem span_facts {t u p : Int} (hr : rngN t u) (hp0 : 0 ≤ p) (hp : p ≤ 30) : (spanI t u p).1.natAbs ≤ 2 ^ 300 ∧ (spanI t u p).2.natAbs ≤ 2 ^ 300 ∧
    (if (spanI t u p).1 * (spanI t u p).1 ≤ (spanI t u p).2 * (spanI t u p).2 then (spanI t u p).1 * (spanI t u p).1 else (spanI t u p).2 * (spanI t u p).2) ≤ sqv t u p ∧
    sqv t u p ≤ (if (spanI t u p).1 * (spanI t u p).1 ≤ (spanI t u p).2 * (spanI t u p).2 then (spanI t u p).2 * (spanI t u p).2 else (spanI t u p).1 * (spanI t u p).1) := by
  obtain ⟨h1, h2, h3⟩ := hr
  have hb := sqv_bound h1 (by omega : u.natAbs ≤ 99) hp hp0
  have hrt := (root_below_eq Phi (sqv t u p) (sqv_nonneg (by omega)) (p300 hb)).2
  have r1 := root_small hrt hb
  have r2 := hi_small hrt hb
  obtain ⟨f1, f2, f3, f4⟩ := hiR_ok hrt
  have g := hrt.2.1
  have g0 := hrt.1
  have m : rootI (sqv t u p) * rootI (sqv t u p) ≤ hiR (sqv t u p) * hiR (sqv t u p) := Int.mul_le_mul f1 f1 g0 f3
  unfold spanI
  generalize rootI (sqv t u p) = a at *
  generalize hiR (sqv t u p) = b at *
  generalize sqv t u p = s at *
  have e1 : (0 - b) * (0 - b) = b * b := by grind
  have e2 : (0 - a) * (0 - a) = a * a := by grind
  by_cases z : 0 ≤ t
  · simp only [z, if_true]
    rw [if_pos m, if_pos m]
    exact ⟨by omega, r2, g, f2⟩
  · simp only [z, if_false]
    rw [e1, e2]
    refine ⟨by omega, by omega, ?_, ?_⟩
    · by_cases q : b * b ≤ a * a
      · rw [if_pos q]; omega
      · rw [if_neg q]; exact g
    · by_cases q : b * b ≤ a * a
      · rw [if_pos q]; omega
      · rw [if_neg q]; exact f2
def bodyP : S := (.seq (.asgP (.p2 (.nm 9) (.nm 10)) (.call "_law_spans" (.cons (.var 4) (.cons (.var 8) .nil)))) (.seq (.ite (.cmp .ne (.call "digits" (.cons (.var 4) (.cons (.var 8) .nil))) (.var 9)) (.seq (.ret (.con (.bool false))) .skip) .skip) (.seq (.asg 11 (.bin .mul (.bin .mul (.bin .mul (.idx (.rd 4) (.con (.int 0))) (.idx (.rd 4) (.con (.int 0)))) (.idx (.rd 4) (.con (.int 1)))) (.call "_law_ten" (.cons (.bin .mul (.con (.int 2)) (.var 8)) .nil)))) (.seq (.ite (.or (.cmp .gt (.idx (.srt (.lst (.cons (.bin .mul (.var 9) (.var 9)) (.cons (.bin .mul (.var 10) (.var 10)) .nil)))) (.con (.int 0))) (.var 11)) (.cmp .lt (.idx (.srt (.lst (.cons (.bin .mul (.var 9) (.var 9)) (.cons (.bin .mul (.var 10) (.var 10)) .nil)))) (.con (.int 1))) (.var 11))) (.seq (.ret (.con (.bool false))) .skip) .skip) .skip))))
theorem isNum_num {t u : Int} (hr : rngN t u) : isNum (numD t u) = .ok (.bool true) := by
  obtain ⟨h1, h2, h3⟩ := hr
  have a : -99 ≤ t := by omega
  have b : t ≤ 99 := by omega
  simp [isNum, numD, isCnt, a, b, h2, h3]
theorem turnP {x0 x1 x2 x3 x5 x6 x7 x9 x10 x11 : Option Sl} {t u p : Int} (hr : rngN t u) (hp0 : 0 ≤ p) (hp : p ≤ 30) :
    exS Phi bodyP [x0, x1, x2, x3, some (.val (numD t u)), x5, x6, x7, some (.val (.int p)), x9, x10, x11] = .nx [x0, x1, x2, x3, some (.val (numD t u)), x5, x6, x7, some (.val (.int p)), some (.val (.int (spanI t u p).1)), some (.val (.int (spanI t u p).2)), some (.val (.int (sqv t u p)))] := by
  obtain ⟨s1, s2, s3, s4⟩ := span_facts hr hp0 hp
  have e1 : Phi "_law_spans" [numD t u, .int p] = .ok (.tuple [.int (spanI t u p).1, .int (spanI t u p).2]) := by
    unfold numD; rw [P_spans, if_pos ⟨hr, hp0, hp⟩]
  have e2 : Phi "digits" [numD t u, .int p] = .ok (.int (spanI t u p).1) := by
    rw [P_digits, span_dig]
    unfold digitsS
    rw [isNum_num hr]
    simp [isCnt, hp0, hp, numD]
  have e3 : Phi "_law_ten" [.int (2 * p)] = .ok (.int (10 ^ (2 * p).toNat)) := by rw [P_ten, if_pos ⟨by omega, by omega⟩]
  have o0 : okMul 2 p = true := okMul_l (by decide)
  have o1 : okMul t t = true := okMul_l (by have := hr.1; omega)
  have o2 : okMul (t * t) u = true := okMul_r (by have := hr.2; omega)
  have o3 : okMul (t * t * u) (10 ^ (2 * p).toNat) = true := by
    refine okMul_l ?_
    rw [Int.natAbs_mul, Int.natAbs_mul]
    have := Nat.mul_le_mul (Nat.mul_le_mul hr.1 hr.1) (show u.natAbs ≤ 99 by have := hr.2; omega)
    omega
  have o4 := okMul_b (p300e s1) (p300e s1)
  have o5 := okMul_b (p300e s2) (p300e s2)
  have e4 : t * t * u * 10 ^ (2 * p).toNat = sqv t u p := rfl
  have q0 : idxD (numD t u) (.int 0) = .ok (.int t) := rfl
  have q1 : idxD (numD t u) (.int 1) = .ok (.int u) := rfl
  have n1 : ¬ (sqv t u p < (if (spanI t u p).1 * (spanI t u p).1 ≤ (spanI t u p).2 * (spanI t u p).2 then (spanI t u p).1 * (spanI t u p).1 else (spanI t u p).2 * (spanI t u p).2)) := by omega
  have n2 : ¬ ((if (spanI t u p).1 * (spanI t u p).1 ≤ (spanI t u p).2 * (spanI t u p).2 then (spanI t u p).2 * (spanI t u p).2 else (spanI t u p).1 * (spanI t u p).1) < sqv t u p) := by omega
  generalize (spanI t u p).1 = lo at *
  generalize (spanI t u p).2 = hi at *
  unfold bodyP
  simp only [exS_seq, exS_asgP, evE_call, evE_cons, evE_var, evE_nil, getV_def]
  simp [-P_digits, e1, e2, e3, o0, o1, o2, o3, o4, o5, q0, q1, L_le, srt2, e4]
  generalize (if lo * lo ≤ hi * hi then lo * lo else hi * hi) = A at *
  generalize (if lo * lo ≤ hi * hi then hi * hi else lo * lo) = B at *
  simp [n1, n2]
def bodyN : S := (.seq (.asgP (.p2 (.nm 5) (.nm 6)) (.call "plain" (.cons (.var 4) .nil))) (.seq (.ite (.or (.cmp .ne (.bin .mul (.bin .mul (.var 5) (.var 5)) (.var 6)) (.bin .mul (.bin .mul (.idx (.rd 4) (.con (.int 0))) (.idx (.rd 4) (.con (.int 0)))) (.idx (.rd 4) (.con (.int 1))))) (.cmp .lt (.bin .mul (.var 5) (.idx (.rd 4) (.con (.int 0)))) (.con (.int 0)))) (.seq (.ret (.con (.bool false))) .skip) .skip) (.seq (.ite (.or (.cmp .ne (.comp [7] (.nm 7) .rng2 (.cons (.con (.int 2)) (.cons (.con (.int 10)) .nil)) (.cmp .eq (.bin .mod (.var 6) (.bin .mul (.var 7) (.var 7))) (.con (.int 0))) (.var 7)) (.lst .nil)) (.and (.cmp .eq (.var 5) (.con (.int 0))) (.cmp .ne (.var 6) (.con (.int 1))))) (.seq (.ret (.con (.bool false))) .skip) .skip) (.seq (.for (.nm 8) .lst (.lst (.cons (.con (.int 0)) (.cons (.con (.int 1)) (.cons (.con (.int 30)) (.cons (.bin .mod (.var 2) (.con (.int 31))) .nil))))) bodyP) .skip))))
theorem plainT_ok {t u : Int} (hr : rngN t u) : (plainT t u).1 * (plainT t u).1 * (plainT t u).2 = t * t * u ∧ 0 ≤ (plainT t u).1 * t ∧ (plainT t u).1.natAbs ≤ 9801 ∧ 1 ≤ (plainT t u).2 ∧ (plainT t u).2 ≤ 99 ∧ ((plainT t u).1 = 0 → (plainT t u).2 = 1) ∧ ∀ b : Nat, b < 10 → 2 ≤ b → (plainT t u).2.fmod ((b : Int) * b) ≠ 0 := by
  obtain ⟨h1, h2, h3⟩ := hr
  obtain ⟨n, rfl⟩ := Int.eq_ofNat_of_zero_le (show 0 ≤ u by omega)
  have q := sqF_all n (by omega) (by omega)
  unfold plainT
  by_cases z : t = 0
  · subst z
    simp only [if_true]
    refine ⟨by simp, by simp, by decide, by decide, by decide, fun _ => by simp, fun b hb hb2 => ?_⟩
    have : b = 2 ∨ b = 3 ∨ b = 4 ∨ b = 5 ∨ b = 6 ∨ b = 7 ∨ b = 8 ∨ b = 9 := by omega
    rcases this with e | e | e | e | e | e | e | e <;> subst e <;> decide
  · rw [if_neg z]
    simp only [Int.toNat_natCast]
    obtain ⟨q1, q2, q3, q4, q5, q6⟩ := q
    generalize (sqF n).1 = f at *
    generalize (sqF n).2 = v at *
    refine ⟨?_, ?_, ?_, by omega, by omega, fun e => ?_, fun b hb hb2 => ?_⟩
    · have : ((f * f * v : Nat) : Int) = (n : Int) := by rw [q1]
      have e : (f : Int) * f * v = n := by simpa using this
      rw [← e]; grind
    · have e : t * (f : Int) * t = (t * t) * f := by grind
      rw [e]
      refine Int.mul_nonneg ?_ (by omega)
      rcases Int.le_total 0 t with h | h
      · exact Int.mul_nonneg h h
      · exact Int.mul_nonneg_of_nonpos_of_nonpos h h
    · rw [Int.natAbs_mul]
      have := Nat.mul_le_mul h1 (show (f : Int).natAbs ≤ 99 by simpa using q4)
      omega
    · rcases Int.mul_eq_zero.mp e with e | e
      · exact absurd e z
      · omega
    · have e : (b : Int) * b = ((b * b : Nat) : Int) := by simp
      rw [e, Int.fmod_eq_emod_of_nonneg _ (by omega)]
      have := q6 b hb hb2
      omega
theorem comp_none {Φ : String → List D → R D} {v : Int} {x0 x1 x2 x3 x4 x5 x7 x8 x9 x10 x11 : Option Sl} (h : ∀ b : Nat, b < 10 → 2 ≤ b → v.fmod ((b : Int) * b) ≠ 0) :
    evE Φ (.comp [7] (.nm 7) .rng2 (.cons (.con (.int 2)) (.cons (.con (.int 10)) .nil)) (.cmp .eq (.bin .mod (.var 6) (.bin .mul (.var 7) (.var 7))) (.con (.int 0))) (.var 7)) [x0, x1, x2, x3, x4, x5, some (.val (.int v)), x7, x8, x9, x10, x11] = .ok (.list []) := by
  have hs : evE Φ (.cons (.con (.int 2)) (.cons (.con (.int 10)) .nil)) [x0, x1, x2, x3, x4, x5, some (.val (.int v)), x7, x8, x9, x10, x11] = .ok (.list [.int 2, .int 10]) := by simp
  have hi : itD .rng2 (.list [.int 2, .int 10]) = .ok [.int 2, .int 3, .int 4, .int 5, .int 6, .int 7, .int 8, .int 9] := by rfl
  rw [evE_comp, hs]
  simp only [R.bind, hi]
  rw [compL_map (g := fun d => [x0, x1, x2, x3, x4, x5, some (.val (.int v)), some (.val d), x8, x9, x10, x11]) (p := fun _ => false) (f := fun d => d) (fun x hx => by simp [wipeE]) (fun x hx => ?_) (fun x hx z => by cases z)]
  · simp [shut, L_le]
  · simp only [List.mem_cons, List.not_mem_nil, or_false] at hx
    have h2 := h 2 (by decide) (by decide)
    have h3 := h 3 (by decide) (by decide)
    have h4 := h 4 (by decide) (by decide)
    have h5 := h 5 (by decide) (by decide)
    have h6 := h 6 (by decide) (by decide)
    have h7 := h 7 (by decide) (by decide)
    have h8 := h 8 (by decide) (by decide)
    have h9 := h 9 (by decide) (by decide)
    simp at h2 h3 h4 h5 h6 h7 h8 h9
    rcases hx with e | e | e | e | e | e | e | e <;> subst e <;> simp [h2, h3, h4, h5, h6, h7, h8, h9, okMul]
theorem eq_nil : eqD (.list []) (.list []) = .ok true := by
  have := eq_ints [] []
  simpa using this
theorem turnN {x0 x1 x3 x5 x6 x7 x8 x9 x10 x11 : Option Sl} {t u m : Int} (hr : rngN t u) : ∃ y5 y6 y8 y9 y10 y11,
    exS Phi bodyN [x0, x1, some (.val (.int m)), x3, some (.val (numD t u)), x5, x6, x7, x8, x9, x10, x11] = .nx [x0, x1, some (.val (.int m)), x3, some (.val (numD t u)), y5, y6, x7, y8, y9, y10, y11] := by
  obtain ⟨p1, p2, p3, p4, p5, p6, p7⟩ := plainT_ok hr
  have e1 : Phi "plain" [numD t u] = .ok (.tuple [.int (plainT t u).1, .int (plainT t u).2]) := by
    rw [P_plain]; unfold plainS; rw [isNum_num hr]; rfl
  have q0 : idxD (numD t u) (.int 0) = .ok (.int t) := rfl
  have q1 : idxD (numD t u) (.int 1) = .ok (.int u) := rfl
  have o1 : okMul t t = true := okMul_l (by have := hr.1; omega)
  have o2 : okMul (t * t) u = true := okMul_r (by have := hr.2; omega)
  have o3 : okMul (plainT t u).1 (plainT t u).1 = true := okMul_l (by omega)
  have o4 : okMul ((plainT t u).1 * (plainT t u).1) (plainT t u).2 = true := okMul_r (by omega)
  have o5 : okMul (plainT t u).1 t = true := okMul_l (by omega)
  have r31 := fmod_rng m (b := 31) (by decide)
  have n1 : ¬ ((plainT t u).1 * t < 0) := by omega
  have s1 : exS Phi (.asgP (.p2 (.nm 5) (.nm 6)) (.call "plain" (.cons (.var 4) .nil))) [x0, x1, some (.val (.int m)), x3, some (.val (numD t u)), x5, x6, x7, x8, x9, x10, x11] = .nx [x0, x1, some (.val (.int m)), x3, some (.val (numD t u)), some (.val (.int (plainT t u).1)), some (.val (.int (plainT t u).2)), x7, x8, x9, x10, x11] := by
    simp [-P_plain, e1]
  generalize (plainT t u).1 = a at *
  generalize (plainT t u).2 = b at *
  have s2 : exS Phi (.ite (.or (.cmp .ne (.bin .mul (.bin .mul (.var 5) (.var 5)) (.var 6)) (.bin .mul (.bin .mul (.idx (.rd 4) (.con (.int 0))) (.idx (.rd 4) (.con (.int 0)))) (.idx (.rd 4) (.con (.int 1))))) (.cmp .lt (.bin .mul (.var 5) (.idx (.rd 4) (.con (.int 0)))) (.con (.int 0)))) (.seq (.ret (.con (.bool false))) .skip) .skip) [x0, x1, some (.val (.int m)), x3, some (.val (numD t u)), some (.val (.int a)), some (.val (.int b)), x7, x8, x9, x10, x11] = .nx [x0, x1, some (.val (.int m)), x3, some (.val (numD t u)), some (.val (.int a)), some (.val (.int b)), x7, x8, x9, x10, x11] := by
    simp [q0, q1, o1, o2, o3, o4, o5, p1, n1]
  have s3 : exS Phi (.ite (.or (.cmp .ne (.comp [7] (.nm 7) .rng2 (.cons (.con (.int 2)) (.cons (.con (.int 10)) .nil)) (.cmp .eq (.bin .mod (.var 6) (.bin .mul (.var 7) (.var 7))) (.con (.int 0))) (.var 7)) (.lst .nil)) (.and (.cmp .eq (.var 5) (.con (.int 0))) (.cmp .ne (.var 6) (.con (.int 1))))) (.seq (.ret (.con (.bool false))) .skip) .skip) [x0, x1, some (.val (.int m)), x3, some (.val (numD t u)), some (.val (.int a)), some (.val (.int b)), x7, x8, x9, x10, x11] = .nx [x0, x1, some (.val (.int m)), x3, some (.val (numD t u)), some (.val (.int a)), some (.val (.int b)), x7, x8, x9, x10, x11] := by
    have cn := comp_none (Φ := Phi) (x0 := x0) (x1 := x1) (x2 := some (.val (.int m))) (x3 := x3) (x4 := some (.val (numD t u))) (x5 := some (.val (.int a))) (x7 := x7) (x8 := x8) (x9 := x9) (x10 := x10) (x11 := x11) p7
    by_cases z : a = 0
    · have := p6 z
      subst z this
      simp [-evE_comp, cn, eq_nil, L_le]
    · simp [-evE_comp, cn, eq_nil, L_le, z]
  obtain ⟨ρ', b1, y8, y9, y10, y11, rfl⟩ := exS_lst (Φ := Phi) (p := .nm 8) (src := .lst (.cons (.con (.int 0)) (.cons (.con (.int 1)) (.cons (.con (.int 30)) (.cons (.bin .mod (.var 2) (.con (.int 31))) .nil))))) (b := bodyP) (l := [.int 0, .int 1, .int 30, .int (m.fmod 31)])
    (ρ := [x0, x1, some (.val (.int m)), x3, some (.val (numD t u)), some (.val (.int a)), some (.val (.int b)), x7, x8, x9, x10, x11])
    (fun _ ρ => ∃ y8 y9 y10 y11, ρ = [x0, x1, some (.val (.int m)), x3, some (.val (numD t u)), some (.val (.int a)), some (.val (.int b)), x7, y8, y9, y10, y11]) (by simp [L_le]) ⟨_, _, _, _, rfl⟩
    (fun i hi ρ ⟨y8, y9, y10, y11, e⟩ => by
      subst e
      have key : ∃ p : Int, ([.int 0, .int 1, .int 30, .int (m.fmod 31)] : List D)[i] = .int p ∧ 0 ≤ p ∧ p ≤ 30 := by
        have hi : i < 4 := hi
        have : i = 0 ∨ i = 1 ∨ i = 2 ∨ i = 3 := by omega
        rcases this with e | e | e | e <;> subst e
        · exact ⟨0, rfl, by decide, by decide⟩
        · exact ⟨1, rfl, by decide, by decide⟩
        · exact ⟨30, rfl, by decide, by decide⟩
        · exact ⟨m.fmod 31, rfl, by omega, by omega⟩
      obtain ⟨p, e, hp0, hp⟩ := key
      rw [e]
      exact ⟨_, _, rfl, turnP hr hp0 hp, _, _, _, _, rfl⟩)
  refine ⟨some (.val (.int a)), some (.val (.int b)), y8, y9, y10, y11, ?_⟩
  unfold bodyN
  rw [seq_nx s1, seq_nx s2, seq_nx s3, seq_nx b1]
  rfl
def four : List (Int × Int) := [(99, 99), (-99, 98), (0, 50), (7, 64)]
def goodL (l : List (Int × Int)) : Prop := ∀ x ∈ l, rngN x.1 x.2
theorem good_row (m : Int) (n : Nat) : goodL (rowN m n) := by
  intro x hx
  unfold rowN at hx
  obtain ⟨j, _, e⟩ := List.mem_map.mp hx
  subst e
  have h1 := tim_rng (drawnI m j)
  have h2 := und_rng (drawnI m j)
  exact ⟨by show (timI _).natAbs ≤ 99; omega, h2.1, h2.2⟩
theorem good_four : goodL four := by
  intro x hx
  simp only [four, List.mem_cons, List.not_mem_nil, or_false] at hx
  rcases hx with e | e | e | e <;> subst e <;> exact ⟨by decide, by decide, by decide⟩
theorem all_num {l : List (Int × Int)} (h : goodL l) : (numsD l).all numB = true := by
  rw [List.all_eq_true]
  intro d hd
  unfold numsD at hd
  obtain ⟨x, hx, e⟩ := List.mem_map.mp hd
  subst e
  unfold numB
  rw [isNum_num (h x hx)]
def bodyK : S := (.seq (.asg 2 (.call "_law_drawn" (.cons (.call "_law_cell" (.cons (.var 0) (.cons (.var 1) .nil))) (.cons (.var 1) .nil)))) (.seq (.asg 3 (.call "_law_row" (.cons (.bin .fdiv (.var 2) (.con (.int 64))) (.cons (.con (.int 5)) .nil)))) (.seq (.for (.nm 4) .lst (.bin .add (.var 3) (.lst (.cons (.tup (.cons (.con (.int 99)) (.cons (.con (.int 99)) .nil))) (.cons (.tup (.cons (.neg (.con (.int 99))) (.cons (.con (.int 98)) .nil))) (.cons (.tup (.cons (.con (.int 0)) (.cons (.con (.int 50)) .nil))) (.cons (.tup (.cons (.con (.int 7)) (.cons (.con (.int 64)) .nil))) .nil)))))) bodyN) (.seq (.ite (.not (.call "_law_refused" (.cons (.var 3) .nil))) (.seq (.ret (.con (.bool false))) .skip) .skip) .skip))))
theorem turnK {ns : List Int} {k : Nat} (hl : ns.length ≤ 63) {x2 x3 x4 x5 x6 x7 x8 x9 x10 x11 : Option Sl} : ∃ y2 y3 y4 y5 y6 y8 y9 y10 y11,
    exS Phi bodyK [some (.val (scrD ns)), some (.val (.int k)), x2, x3, x4, x5, x6, x7, x8, x9, x10, x11] = .nx [some (.val (scrD ns)), some (.val (.int k)), y2, y3, y4, y5, y6, x7, y8, y9, y10, y11] := by
  have c1 : Phi "_law_cell" [scrD ns, .int k] = .ok (.int (cellI ns k)) := by
    rw [P_cell]
    have e : intsD (ns.map PyData.int) = some ns := by
      have := intsD_map (fun x : Int => x) ns
      simpa using this
    rw [e]
    show (if 0 ≤ (k : Int) ∧ ns.length ≤ 63 then R.ok (PyData.int (cellI ns (k : Int).toNat)) else .err) = _
    rw [if_pos ⟨by omega, hl⟩, Int.toNat_natCast]
  generalize hm : drawnI (cellI ns k) k = m
  have c2 : Phi "_law_row" [.int (m.fdiv 64), .int 5] = .ok (.list (numsD (rowN (m.fdiv 64) (1 + ((m.fdiv 64).fmod 5).toNat)))) := by rw [P_row, if_pos rfl]
  have hg := good_row (m.fdiv 64) (1 + ((m.fdiv 64).fmod 5).toNat)
  have hlen : (rowN (m.fdiv 64) (1 + ((m.fdiv 64).fmod 5).toNat)).length = 1 + ((m.fdiv 64).fmod 5).toNat := by simp [rowN]
  have r5 := fmod_rng (m.fdiv 64) (b := 5) (by decide)
  generalize rowN (m.fdiv 64) (1 + ((m.fdiv 64).fmod 5).toNat) = l at *
  have ll : (numsD l).length = l.length := by simp [numsD]
  have c3 : Phi "_law_refused" [.list (numsD l)] = .ok (.bool true) := by rw [P_refused, if_pos ⟨by omega, by omega, all_num hg⟩]
  have s1 : exS Phi (.asg 2 (.call "_law_drawn" (.cons (.call "_law_cell" (.cons (.var 0) (.cons (.var 1) .nil))) (.cons (.var 1) .nil)))) [some (.val (scrD ns)), some (.val (.int k)), x2, x3, x4, x5, x6, x7, x8, x9, x10, x11] = .nx [some (.val (scrD ns)), some (.val (.int k)), some (.val (.int m)), x3, x4, x5, x6, x7, x8, x9, x10, x11] := by
    generalize hs : scrD ns = sc at *
    simp [c1, hm]
  have s2 : exS Phi (.asg 3 (.call "_law_row" (.cons (.bin .fdiv (.var 2) (.con (.int 64))) (.cons (.con (.int 5)) .nil)))) [some (.val (scrD ns)), some (.val (.int k)), some (.val (.int m)), x3, x4, x5, x6, x7, x8, x9, x10, x11] = .nx [some (.val (scrD ns)), some (.val (.int k)), some (.val (.int m)), some (.val (.list (numsD l))), x4, x5, x6, x7, x8, x9, x10, x11] := by
    simp [c2, show okDiv 64 = true by decide]
  obtain ⟨ρ', b1, y4, y5, y6, y8, y9, y10, y11, rfl⟩ := exS_lst (Φ := Phi) (p := .nm 4) (src := .bin .add (.var 3) (.lst (.cons (.tup (.cons (.con (.int 99)) (.cons (.con (.int 99)) .nil))) (.cons (.tup (.cons (.neg (.con (.int 99))) (.cons (.con (.int 98)) .nil))) (.cons (.tup (.cons (.con (.int 0)) (.cons (.con (.int 50)) .nil))) (.cons (.tup (.cons (.con (.int 7)) (.cons (.con (.int 64)) .nil))) .nil)))))) (b := bodyN) (l := numsD (l ++ four))
    (ρ := [some (.val (scrD ns)), some (.val (.int k)), some (.val (.int m)), some (.val (.list (numsD l))), x4, x5, x6, x7, x8, x9, x10, x11])
    (fun _ ρ => ∃ y4 y5 y6 y8 y9 y10 y11, ρ = [some (.val (scrD ns)), some (.val (.int k)), some (.val (.int m)), some (.val (.list (numsD l))), y4, y5, y6, x7, y8, y9, y10, y11]) (by
      have z : (l.length + 4 ≤ LINE) = True := eq_true (by have := LINE_big; omega)
      simp [L_le, z, numsD, four, numD]) ⟨_, _, _, _, _, _, _, rfl⟩
    (fun i hi ρ ⟨y4, y5, y6, y8, y9, y10, y11, e⟩ => by
      subst e
      have hi2 : i < (l ++ four).length := by simpa [numsD] using hi
      have e : (numsD (l ++ four))[i] = numD (l ++ four)[i].1 (l ++ four)[i].2 := by simp only [numsD, List.getElem_map]
      have hr : rngN (l ++ four)[i].1 (l ++ four)[i].2 := by
        rcases List.mem_append.mp (List.getElem_mem hi2) with z | z
        · exact hg _ z
        · exact good_four _ z
      rw [e]
      obtain ⟨a1, a2, a3, a4, a5, a6, h⟩ := turnN (x0 := some (.val (scrD ns))) (x1 := some (.val (.int k))) (m := m) (x3 := some (.val (.list (numsD l)))) (x5 := y5) (x6 := y6) (x7 := x7) (x8 := y8) (x9 := y9) (x10 := y10) (x11 := y11) hr
      exact ⟨_, _, rfl, h, _, _, _, _, _, _, _, rfl⟩)
  refine ⟨some (.val (.int m)), some (.val (.list (numsD l))), y4, y5, y6, y8, y9, y10, y11, ?_⟩
  unfold bodyK
  rw [seq_nx s1, seq_nx s2, seq_nx b1]
  simp [c3]
theorem law_run (ns : List Int) (hl : ns.length ≤ 63) : run Phi 12 s_law [scrD ns] = .ok (.bool true) := by
  have e1 : lenD (scrD ns) = .ok (.int ns.length) := by
    show R.ok (PyData.int ((ns.map PyData.int).length : Nat)) = _
    rw [List.length_map]
  have hc : ∃ c : Nat, c ≤ 4 ∧ evE Phi (.cons (.blt .max (.cons (.con (.int 1)) (.cons (.blt .min (.cons (.con (.int 4)) (.cons (.len (.rd 0)) .nil))) .nil))) .nil) (entE 12 [scrD ns]) = .ok (.list [.int (c : Int)]) := by
    have : evE Phi (.cons (.blt .max (.cons (.con (.int 1)) (.cons (.blt .min (.cons (.con (.int 4)) (.cons (.len (.rd 0)) .nil))) .nil))) .nil) (entE 12 [scrD ns]) = .ok (.list [.int (if (if (ns.length : Int) < 4 then (ns.length : Int) else 4) > 1 then (if (ns.length : Int) < 4 then (ns.length : Int) else 4) else 1)]) := by
      generalize hs : scrD ns = sc at *
      simp [entE, e1]
    rw [this]
    by_cases a : (ns.length : Int) < 4
    · by_cases b : (ns.length : Int) > 1
      · exact ⟨ns.length, by omega, by simp [a, b]⟩
      · exact ⟨1, by omega, by simp [a, b]⟩
    · exact ⟨4, by omega, by simp [a]⟩
  obtain ⟨c, hc4, he⟩ := hc
  obtain ⟨ρ', b1, y1, y2, y3, y4, y5, y6, y7, y8, y9, y10, y11, rfl⟩ := exS_rng (Φ := Phi) (p := .nm 1) (src := .cons (.blt .max (.cons (.con (.int 1)) (.cons (.blt .min (.cons (.con (.int 4)) (.cons (.len (.rd 0)) .nil))) .nil))) .nil) (b := bodyK) (n := (c : Int)) (ρ := entE 12 [scrD ns])
    (fun _ ρ => ∃ y1 y2 y3 y4 y5 y6 y7 y8 y9 y10 y11, ρ = [some (.val (scrD ns)), y1, y2, y3, y4, y5, y6, y7, y8, y9, y10, y11]) he (by omega) (by omega) ⟨_, _, _, _, _, _, _, _, _, _, _, rfl⟩
    (fun i hi ρ ⟨y1, y2, y3, y4, y5, y6, y7, y8, y9, y10, y11, e⟩ => by
      subst e
      obtain ⟨a2, a3, a4, a5, a6, a8, a9, a10, a11, h⟩ := turnK (ns := ns) (k := i) hl (x2 := y2) (x3 := y3) (x4 := y4) (x5 := y5) (x6 := y6) (x7 := y7) (x8 := y8) (x9 := y9) (x10 := y10) (x11 := y11)
      exact ⟨_, _, rfl, h, _, _, _, _, _, _, _, _, _, _, _, rfl⟩)
  refine run_rt ?_
  show exS Phi (.seq (.for (.nm 1) .rng1 _ bodyK) _) (entE 12 [scrD ns]) = _
  rw [seq_nx b1]
  rfl
theorem sp_law (ds : List D) (hl : ds.length = 1) (hn : Phi "law" ds ≠ .err) : run Phi 12 s_law ds = Phi "law" ds := by
  match ds, hl with
  | [d], _ =>
    have key : ∃ l : List D, d = .dict [(.none, .list l)] := by
      apply Classical.byContradiction
      intro z
      apply hn
      simp only [Phi, String.reduceEq, if_false, if_true, reduceIte]
      split
      · rename_i e; cases e; exact absurd ⟨_, rfl⟩ z
      · rfl
    obtain ⟨l, rfl⟩ := key
    rw [P_law] at hn ⊢
    cases q : intsD l with
    | none => rw [q] at hn; exact absurd rfl hn
    | some ns =>
      rw [q] at hn
      have e := intsD_ok q
      subst e
      have hn : (if ns.length ≤ 63 then R.ok (PyData.bool true) else .err) ≠ .err := hn
      by_cases h : ns.length ≤ 63
      · show run Phi 12 s_law [scrD ns] = (if ns.length ≤ 63 then R.ok (PyData.bool true) else .err)
        rw [if_pos h]
        exact law_run ns h
      · rw [if_neg h] at hn; exact absurd rfl hn
end K10
end Nz

set_option maxHeartbeats 0
/-! the law's defs, as they stand in the row, and their terms -/
namespace Nz
namespace K10
open PySem PySem.Spec PyProof.Rows L2
def prg : PySem.Program := PySem.Challenge.pw_noughtsums_k10_whole_numbers
def top (i : Nat) : PySem.Stmt := prg.main.body.getD i (.Pass ⟨0, 0, 0, 0⟩)
def cns : List (PySem.Str × D) := [(("MOST" : PySem.Str), .int 99), (("MOST_NUMBERS" : PySem.Str), .int 5), (("MOST_PLACES" : PySem.Str), .int 30), (("MOST_TIMES" : PySem.Str), .int 1000)]
def bls : List PySem.Str := [("isinstance" : PySem.Str), ("int" : PySem.Str), ("bool" : PySem.Str), ("len" : PySem.Str), ("tuple" : PySem.Str), ("list" : PySem.Str), ("all" : PySem.Str), ("range" : PySem.Str), ("sum" : PySem.Str), ("str" : PySem.Str), ("max" : PySem.Str), ("min" : PySem.Str), ("sorted" : PySem.Str), ("ValueError" : PySem.Str)]
def exs : List (PySem.Str × String) := [(("BadNumber" : PySem.Str), "BadNumber"), (("BadRow" : PySem.Str), "BadRow"), (("BadText" : PySem.Str), "BadText")]
def N_is_count : List PySem.Str := [("thing" : PySem.Str), ("low" : PySem.Str), ("high" : PySem.Str)]
def fs_is_count : List (PySem.Str × String × Nat) := []
def tc_is_count : TC := ⟨N_is_count, L2.defScope (top 10), fs_is_count, cns, bls, exs, false⟩
def N_need_count : List PySem.Str := [("thing" : PySem.Str), ("low" : PySem.Str), ("high" : PySem.Str)]
def fs_need_count : List (PySem.Str × String × Nat) := [(("is_count" : PySem.Str), "is_count", 3)]
def tc_need_count : TC := ⟨N_need_count, L2.defScope (top 11), fs_need_count, cns, bls, exs, false⟩
def N_is_number : List PySem.Str := [("thing" : PySem.Str), ("good" : PySem.Str)]
def fs_is_number : List (PySem.Str × String × Nat) := [(("is_count" : PySem.Str), "is_count", 3), (("need_count" : PySem.Str), "need_count", 3)]
def tc_is_number : TC := ⟨N_is_number, L2.defScope (top 12), fs_is_number, cns, bls, exs, false⟩
def N_need_number : List PySem.Str := [("number" : PySem.Str)]
def fs_need_number : List (PySem.Str × String × Nat) := [(("is_count" : PySem.Str), "is_count", 3), (("need_count" : PySem.Str), "need_count", 3), (("is_number" : PySem.Str), "is_number", 1)]
def tc_need_number : TC := ⟨N_need_number, L2.defScope (top 13), fs_need_number, cns, bls, exs, false⟩
def N_need_row : List PySem.Str := [("row" : PySem.Str), ("one" : PySem.Str)]
def fs_need_row : List (PySem.Str × String × Nat) := [(("is_count" : PySem.Str), "is_count", 3), (("need_count" : PySem.Str), "need_count", 3), (("is_number" : PySem.Str), "is_number", 1), (("need_number" : PySem.Str), "need_number", 1)]
def tc_need_row : TC := ⟨N_need_row, L2.defScope (top 14), fs_need_row, cns, bls, exs, false⟩
def N_need_times : List PySem.Str := [("row" : PySem.Str), ("times" : PySem.Str), ("good" : PySem.Str), ("one" : PySem.Str)]
def fs_need_times : List (PySem.Str × String × Nat) := [(("is_count" : PySem.Str), "is_count", 3), (("need_count" : PySem.Str), "need_count", 3), (("is_number" : PySem.Str), "is_number", 1), (("need_number" : PySem.Str), "need_number", 1), (("need_row" : PySem.Str), "need_row", 1)]
def tc_need_times : TC := ⟨N_need_times, L2.defScope (top 15), fs_need_times, cns, bls, exs, false⟩
def N_plain_of : List PySem.Str := [("number" : PySem.Str), ("times" : PySem.Str), ("under" : PySem.Str), ("by" : PySem.Str)]
def fs_plain_of : List (PySem.Str × String × Nat) := [(("is_count" : PySem.Str), "is_count", 3), (("need_count" : PySem.Str), "need_count", 3), (("is_number" : PySem.Str), "is_number", 1), (("need_number" : PySem.Str), "need_number", 1), (("need_row" : PySem.Str), "need_row", 1), (("need_times" : PySem.Str), "need_times", 2)]
def tc_plain_of : TC := ⟨N_plain_of, L2.defScope (top 16), fs_plain_of, cns, bls, exs, false⟩
def N_plain : List PySem.Str := [("number" : PySem.Str)]
def fs_plain : List (PySem.Str × String × Nat) := [(("is_count" : PySem.Str), "is_count", 3), (("need_count" : PySem.Str), "need_count", 3), (("is_number" : PySem.Str), "is_number", 1), (("need_number" : PySem.Str), "need_number", 1), (("need_row" : PySem.Str), "need_row", 1), (("need_times" : PySem.Str), "need_times", 2), (("plain_of" : PySem.Str), "plain_of", 1)]
def tc_plain : TC := ⟨N_plain, L2.defScope (top 17), fs_plain, cns, bls, exs, false⟩
def N_root_below : List PySem.Str := [("square" : PySem.Str), ("low" : PySem.Str), ("high" : PySem.Str), ("middle" : PySem.Str)]
def fs_root_below : List (PySem.Str × String × Nat) := [(("is_count" : PySem.Str), "is_count", 3), (("need_count" : PySem.Str), "need_count", 3), (("is_number" : PySem.Str), "is_number", 1), (("need_number" : PySem.Str), "need_number", 1), (("need_row" : PySem.Str), "need_row", 1), (("need_times" : PySem.Str), "need_times", 2), (("plain_of" : PySem.Str), "plain_of", 1), (("plain" : PySem.Str), "plain", 1)]
def tc_root_below : TC := ⟨N_root_below, L2.defScope (top 18), fs_root_below, cns, bls, exs, false⟩
def N_power_of : List PySem.Str := [("places" : PySem.Str), ("found" : PySem.Str), ("turn" : PySem.Str)]
def fs_power_of : List (PySem.Str × String × Nat) := [(("is_count" : PySem.Str), "is_count", 3), (("need_count" : PySem.Str), "need_count", 3), (("is_number" : PySem.Str), "is_number", 1), (("need_number" : PySem.Str), "need_number", 1), (("need_row" : PySem.Str), "need_row", 1), (("need_times" : PySem.Str), "need_times", 2), (("plain_of" : PySem.Str), "plain_of", 1), (("plain" : PySem.Str), "plain", 1), (("root_below" : PySem.Str), "root_below", 1)]
def tc_power_of : TC := ⟨N_power_of, L2.defScope (top 19), fs_power_of, cns, bls, exs, false⟩
def N_digits_of : List PySem.Str := [("number" : PySem.Str), ("places" : PySem.Str), ("times" : PySem.Str), ("under" : PySem.Str), ("square" : PySem.Str), ("found" : PySem.Str)]
def fs_digits_of : List (PySem.Str × String × Nat) := [(("is_count" : PySem.Str), "is_count", 3), (("need_count" : PySem.Str), "need_count", 3), (("is_number" : PySem.Str), "is_number", 1), (("need_number" : PySem.Str), "need_number", 1), (("need_row" : PySem.Str), "need_row", 1), (("need_times" : PySem.Str), "need_times", 2), (("plain_of" : PySem.Str), "plain_of", 1), (("plain" : PySem.Str), "plain", 1), (("root_below" : PySem.Str), "root_below", 1), (("power_of" : PySem.Str), "power_of", 1)]
def tc_digits_of : TC := ⟨N_digits_of, L2.defScope (top 20), fs_digits_of, cns, bls, exs, false⟩
def N_digits : List PySem.Str := [("number" : PySem.Str), ("places" : PySem.Str)]
def fs_digits : List (PySem.Str × String × Nat) := [(("is_count" : PySem.Str), "is_count", 3), (("need_count" : PySem.Str), "need_count", 3), (("is_number" : PySem.Str), "is_number", 1), (("need_number" : PySem.Str), "need_number", 1), (("need_row" : PySem.Str), "need_row", 1), (("need_times" : PySem.Str), "need_times", 2), (("plain_of" : PySem.Str), "plain_of", 1), (("plain" : PySem.Str), "plain", 1), (("root_below" : PySem.Str), "root_below", 1), (("power_of" : PySem.Str), "power_of", 1), (("digits_of" : PySem.Str), "digits_of", 2)]
def tc_digits : TC := ⟨N_digits, L2.defScope (top 21), fs_digits, cns, bls, exs, false⟩
def N__law_cell : List PySem.Str := [("_law_script" : PySem.Str), ("_law_k" : PySem.Str)]
def fs__law_cell : List (PySem.Str × String × Nat) := [(("is_count" : PySem.Str), "is_count", 3), (("need_count" : PySem.Str), "need_count", 3), (("is_number" : PySem.Str), "is_number", 1), (("need_number" : PySem.Str), "need_number", 1), (("need_row" : PySem.Str), "need_row", 1), (("need_times" : PySem.Str), "need_times", 2), (("plain_of" : PySem.Str), "plain_of", 1), (("plain" : PySem.Str), "plain", 1), (("root_below" : PySem.Str), "root_below", 1), (("power_of" : PySem.Str), "power_of", 1), (("digits_of" : PySem.Str), "digits_of", 2), (("digits" : PySem.Str), "digits", 2)]
def tc__law_cell : TC := ⟨N__law_cell, L2.defScope (top 23), fs__law_cell, cns, bls, exs, false⟩
def N__law_drawn : List PySem.Str := [("_law_cell_here" : PySem.Str), ("_law_k" : PySem.Str), ("_law_more" : PySem.Str)]
def fs__law_drawn : List (PySem.Str × String × Nat) := [(("is_count" : PySem.Str), "is_count", 3), (("need_count" : PySem.Str), "need_count", 3), (("is_number" : PySem.Str), "is_number", 1), (("need_number" : PySem.Str), "need_number", 1), (("need_row" : PySem.Str), "need_row", 1), (("need_times" : PySem.Str), "need_times", 2), (("plain_of" : PySem.Str), "plain_of", 1), (("plain" : PySem.Str), "plain", 1), (("root_below" : PySem.Str), "root_below", 1), (("power_of" : PySem.Str), "power_of", 1), (("digits_of" : PySem.Str), "digits_of", 2), (("digits" : PySem.Str), "digits", 2), (("_law_cell" : PySem.Str), "_law_cell", 2)]
def tc__law_drawn : TC := ⟨N__law_drawn, L2.defScope (top 24), fs__law_drawn, cns, bls, exs, false⟩
def N__law_word : List PySem.Str := [("_law_e" : PySem.Str), ("_law_flags" : PySem.Str), ("_law_flag" : PySem.Str)]
def fs__law_word : List (PySem.Str × String × Nat) := [(("is_count" : PySem.Str), "is_count", 3), (("need_count" : PySem.Str), "need_count", 3), (("is_number" : PySem.Str), "is_number", 1), (("need_number" : PySem.Str), "need_number", 1), (("need_row" : PySem.Str), "need_row", 1), (("need_times" : PySem.Str), "need_times", 2), (("plain_of" : PySem.Str), "plain_of", 1), (("plain" : PySem.Str), "plain", 1), (("root_below" : PySem.Str), "root_below", 1), (("power_of" : PySem.Str), "power_of", 1), (("digits_of" : PySem.Str), "digits_of", 2), (("digits" : PySem.Str), "digits", 2), (("_law_cell" : PySem.Str), "_law_cell", 2), (("_law_drawn" : PySem.Str), "_law_drawn", 2)]
def tc__law_word : TC := ⟨N__law_word, L2.defScope (top 25), fs__law_word, cns, bls, exs, false⟩
def N__law_told : List PySem.Str := [("_law_deed" : PySem.Str), ("_law_e" : PySem.Str)]
def fs__law_told : List (PySem.Str × String × Nat) := [(("is_count" : PySem.Str), "is_count", 3), (("need_count" : PySem.Str), "need_count", 3), (("is_number" : PySem.Str), "is_number", 1), (("need_number" : PySem.Str), "need_number", 1), (("need_row" : PySem.Str), "need_row", 1), (("need_times" : PySem.Str), "need_times", 2), (("plain_of" : PySem.Str), "plain_of", 1), (("plain" : PySem.Str), "plain", 1), (("root_below" : PySem.Str), "root_below", 1), (("power_of" : PySem.Str), "power_of", 1), (("digits_of" : PySem.Str), "digits_of", 2), (("digits" : PySem.Str), "digits", 2), (("_law_cell" : PySem.Str), "_law_cell", 2), (("_law_drawn" : PySem.Str), "_law_drawn", 2)]
def tc__law_told : TC := ⟨N__law_told, L2.defScope (top 26), fs__law_told, cns, bls, exs, false⟩
def N__law_root : List PySem.Str := [("_law_square" : PySem.Str), ("_law_found" : PySem.Str), ("_law_other" : PySem.Str)]
def fs__law_root : List (PySem.Str × String × Nat) := [(("is_count" : PySem.Str), "is_count", 3), (("need_count" : PySem.Str), "need_count", 3), (("is_number" : PySem.Str), "is_number", 1), (("need_number" : PySem.Str), "need_number", 1), (("need_row" : PySem.Str), "need_row", 1), (("need_times" : PySem.Str), "need_times", 2), (("plain_of" : PySem.Str), "plain_of", 1), (("plain" : PySem.Str), "plain", 1), (("root_below" : PySem.Str), "root_below", 1), (("power_of" : PySem.Str), "power_of", 1), (("digits_of" : PySem.Str), "digits_of", 2), (("digits" : PySem.Str), "digits", 2), (("_law_cell" : PySem.Str), "_law_cell", 2), (("_law_drawn" : PySem.Str), "_law_drawn", 2)]
def tc__law_root : TC := ⟨N__law_root, L2.defScope (top 27), fs__law_root, cns, bls, exs, false⟩
def N__law_ten : List PySem.Str := [("_law_places" : PySem.Str)]
def fs__law_ten : List (PySem.Str × String × Nat) := [(("is_count" : PySem.Str), "is_count", 3), (("need_count" : PySem.Str), "need_count", 3), (("is_number" : PySem.Str), "is_number", 1), (("need_number" : PySem.Str), "need_number", 1), (("need_row" : PySem.Str), "need_row", 1), (("need_times" : PySem.Str), "need_times", 2), (("plain_of" : PySem.Str), "plain_of", 1), (("plain" : PySem.Str), "plain", 1), (("root_below" : PySem.Str), "root_below", 1), (("power_of" : PySem.Str), "power_of", 1), (("digits_of" : PySem.Str), "digits_of", 2), (("digits" : PySem.Str), "digits", 2), (("_law_cell" : PySem.Str), "_law_cell", 2), (("_law_drawn" : PySem.Str), "_law_drawn", 2), (("_law_root" : PySem.Str), "_law_root", 1)]
def tc__law_ten : TC := ⟨N__law_ten, L2.defScope (top 28), fs__law_ten, cns, bls, exs, false⟩
def N__law_spans : List PySem.Str := [("_law_number" : PySem.Str), ("_law_places" : PySem.Str), ("_law_times" : PySem.Str), ("_law_under" : PySem.Str), ("_law_square" : PySem.Str), ("_law_root_here" : PySem.Str), ("_law_low" : PySem.Str), ("_law_high" : PySem.Str)]
def fs__law_spans : List (PySem.Str × String × Nat) := [(("is_count" : PySem.Str), "is_count", 3), (("need_count" : PySem.Str), "need_count", 3), (("is_number" : PySem.Str), "is_number", 1), (("need_number" : PySem.Str), "need_number", 1), (("need_row" : PySem.Str), "need_row", 1), (("need_times" : PySem.Str), "need_times", 2), (("plain_of" : PySem.Str), "plain_of", 1), (("plain" : PySem.Str), "plain", 1), (("root_below" : PySem.Str), "root_below", 1), (("power_of" : PySem.Str), "power_of", 1), (("digits_of" : PySem.Str), "digits_of", 2), (("digits" : PySem.Str), "digits", 2), (("_law_cell" : PySem.Str), "_law_cell", 2), (("_law_drawn" : PySem.Str), "_law_drawn", 2), (("_law_root" : PySem.Str), "_law_root", 1), (("_law_ten" : PySem.Str), "_law_ten", 1)]
def tc__law_spans : TC := ⟨N__law_spans, L2.defScope (top 29), fs__law_spans, cns, bls, exs, false⟩
def N__law_row : List PySem.Str := [("_law_more" : PySem.Str), ("_law_most" : PySem.Str), ("_law_found" : PySem.Str), ("_law_j" : PySem.Str), ("_law_here" : PySem.Str), ("_law_under" : PySem.Str), ("_law_times" : PySem.Str)]
def fs__law_row : List (PySem.Str × String × Nat) := [(("is_count" : PySem.Str), "is_count", 3), (("need_count" : PySem.Str), "need_count", 3), (("is_number" : PySem.Str), "is_number", 1), (("need_number" : PySem.Str), "need_number", 1), (("need_row" : PySem.Str), "need_row", 1), (("need_times" : PySem.Str), "need_times", 2), (("plain_of" : PySem.Str), "plain_of", 1), (("plain" : PySem.Str), "plain", 1), (("root_below" : PySem.Str), "root_below", 1), (("power_of" : PySem.Str), "power_of", 1), (("digits_of" : PySem.Str), "digits_of", 2), (("digits" : PySem.Str), "digits", 2), (("_law_cell" : PySem.Str), "_law_cell", 2), (("_law_drawn" : PySem.Str), "_law_drawn", 2), (("_law_root" : PySem.Str), "_law_root", 1), (("_law_ten" : PySem.Str), "_law_ten", 1), (("_law_spans" : PySem.Str), "_law_spans", 2)]
def tc__law_row : TC := ⟨N__law_row, L2.defScope (top 30), fs__law_row, cns, bls, exs, false⟩
def N__law_refused : List PySem.Str := [("_law_row_here" : PySem.Str), ("_law_none" : PySem.Str), ("_law_bad" : PySem.Str), ("_law_some" : PySem.Str), ("_law_many" : PySem.Str), ("_law_times" : PySem.Str)]
def fs__law_refused : List (PySem.Str × String × Nat) := [(("is_count" : PySem.Str), "is_count", 3), (("need_count" : PySem.Str), "need_count", 3), (("is_number" : PySem.Str), "is_number", 1), (("need_number" : PySem.Str), "need_number", 1), (("need_row" : PySem.Str), "need_row", 1), (("need_times" : PySem.Str), "need_times", 2), (("plain_of" : PySem.Str), "plain_of", 1), (("plain" : PySem.Str), "plain", 1), (("root_below" : PySem.Str), "root_below", 1), (("power_of" : PySem.Str), "power_of", 1), (("digits_of" : PySem.Str), "digits_of", 2), (("digits" : PySem.Str), "digits", 2), (("_law_cell" : PySem.Str), "_law_cell", 2), (("_law_drawn" : PySem.Str), "_law_drawn", 2), (("_law_root" : PySem.Str), "_law_root", 1), (("_law_ten" : PySem.Str), "_law_ten", 1), (("_law_spans" : PySem.Str), "_law_spans", 2), (("_law_row" : PySem.Str), "_law_row", 2)]
def tc__law_refused : TC := ⟨N__law_refused, L2.defScope (top 31), fs__law_refused, cns, bls, exs, true⟩
def N_law : List PySem.Str := [("_law_script" : PySem.Str), ("_law_k" : PySem.Str), ("_law_more" : PySem.Str), ("_law_row_here" : PySem.Str), ("_law_number" : PySem.Str), ("_law_times" : PySem.Str), ("_law_under" : PySem.Str), ("_law_by" : PySem.Str), ("_law_places" : PySem.Str), ("_law_low" : PySem.Str), ("_law_high" : PySem.Str), ("_law_square" : PySem.Str)]
def fs_law : List (PySem.Str × String × Nat) := [(("is_count" : PySem.Str), "is_count", 3), (("need_count" : PySem.Str), "need_count", 3), (("is_number" : PySem.Str), "is_number", 1), (("need_number" : PySem.Str), "need_number", 1), (("need_row" : PySem.Str), "need_row", 1), (("need_times" : PySem.Str), "need_times", 2), (("plain_of" : PySem.Str), "plain_of", 1), (("plain" : PySem.Str), "plain", 1), (("root_below" : PySem.Str), "root_below", 1), (("power_of" : PySem.Str), "power_of", 1), (("digits_of" : PySem.Str), "digits_of", 2), (("digits" : PySem.Str), "digits", 2), (("_law_cell" : PySem.Str), "_law_cell", 2), (("_law_drawn" : PySem.Str), "_law_drawn", 2), (("_law_root" : PySem.Str), "_law_root", 1), (("_law_ten" : PySem.Str), "_law_ten", 1), (("_law_spans" : PySem.Str), "_law_spans", 2), (("_law_row" : PySem.Str), "_law_row", 2), (("_law_refused" : PySem.Str), "_law_refused", 1)]
def tc_law : TC := ⟨N_law, L2.defScope (top 32), fs_law, cns, bls, exs, false⟩

theorem tr_is_count : trBs (trS 40 tc_is_count []) (L2.defBody (top 10)) = some s_is_count := by kernel_rfl
theorem fs_ok_is_count : L2.FnScope N_is_count [("thing" : PySem.Str), ("low" : PySem.Str), ("high" : PySem.Str)] (L2.defScope (top 10)) := ⟨by kernel_rfl, by kernel_rfl, by kernel_rfl, by decide +kernel, by kernel_rfl, by decide +kernel, by decide +kernel⟩
theorem tr_need_count : trBs (trS 40 tc_need_count []) (L2.defBody (top 11)) = some s_need_count := by kernel_rfl
theorem fs_ok_need_count : L2.FnScope N_need_count [("thing" : PySem.Str), ("low" : PySem.Str), ("high" : PySem.Str)] (L2.defScope (top 11)) := ⟨by kernel_rfl, by kernel_rfl, by kernel_rfl, by decide +kernel, by kernel_rfl, by decide +kernel, by decide +kernel⟩
theorem tr_is_number : trBs (trS 40 tc_is_number []) (L2.defBody (top 12)) = some s_is_number := by kernel_rfl
theorem fs_ok_is_number : L2.FnScope N_is_number [("thing" : PySem.Str)] (L2.defScope (top 12)) := ⟨by kernel_rfl, by kernel_rfl, by kernel_rfl, by decide +kernel, by kernel_rfl, by decide +kernel, by decide +kernel⟩
theorem tr_need_number : trBs (trS 40 tc_need_number []) (L2.defBody (top 13)) = some s_need_number := by kernel_rfl
theorem fs_ok_need_number : L2.FnScope N_need_number [("number" : PySem.Str)] (L2.defScope (top 13)) := ⟨by kernel_rfl, by kernel_rfl, by kernel_rfl, by decide +kernel, by kernel_rfl, by decide +kernel, by decide +kernel⟩
theorem tr_need_row : trBs (trS 40 tc_need_row []) (L2.defBody (top 14)) = some s_need_row := by kernel_rfl
theorem fs_ok_need_row : L2.FnScope N_need_row [("row" : PySem.Str)] (L2.defScope (top 14)) := ⟨by kernel_rfl, by kernel_rfl, by kernel_rfl, by decide +kernel, by kernel_rfl, by decide +kernel, by decide +kernel⟩
theorem tr_need_times : trBs (trS 40 tc_need_times []) (L2.defBody (top 15)) = some s_need_times := by kernel_rfl
theorem fs_ok_need_times : L2.FnScope N_need_times [("row" : PySem.Str), ("times" : PySem.Str)] (L2.defScope (top 15)) := ⟨by kernel_rfl, by kernel_rfl, by kernel_rfl, by decide +kernel, by kernel_rfl, by decide +kernel, by decide +kernel⟩
theorem tr_plain_of : trBs (trS 40 tc_plain_of []) (L2.defBody (top 16)) = some s_plain_of := by kernel_rfl
theorem fs_ok_plain_of : L2.FnScope N_plain_of [("number" : PySem.Str)] (L2.defScope (top 16)) := ⟨by kernel_rfl, by kernel_rfl, by kernel_rfl, by decide +kernel, by kernel_rfl, by decide +kernel, by decide +kernel⟩
theorem tr_plain : trBs (trS 40 tc_plain []) (L2.defBody (top 17)) = some s_plain := by kernel_rfl
theorem fs_ok_plain : L2.FnScope N_plain [("number" : PySem.Str)] (L2.defScope (top 17)) := ⟨by kernel_rfl, by kernel_rfl, by kernel_rfl, by decide +kernel, by kernel_rfl, by decide +kernel, by decide +kernel⟩
theorem tr_root_below : trBs (trS 40 tc_root_below []) (L2.defBody (top 18)) = some s_root_below := by kernel_rfl
theorem fs_ok_root_below : L2.FnScope N_root_below [("square" : PySem.Str)] (L2.defScope (top 18)) := ⟨by kernel_rfl, by kernel_rfl, by kernel_rfl, by decide +kernel, by kernel_rfl, by decide +kernel, by decide +kernel⟩
theorem tr_power_of : trBs (trS 40 tc_power_of []) (L2.defBody (top 19)) = some s_power_of := by kernel_rfl
theorem fs_ok_power_of : L2.FnScope N_power_of [("places" : PySem.Str)] (L2.defScope (top 19)) := ⟨by kernel_rfl, by kernel_rfl, by kernel_rfl, by decide +kernel, by kernel_rfl, by decide +kernel, by decide +kernel⟩
theorem tr_digits_of : trBs (trS 40 tc_digits_of []) (L2.defBody (top 20)) = some s_digits_of := by kernel_rfl
theorem fs_ok_digits_of : L2.FnScope N_digits_of [("number" : PySem.Str), ("places" : PySem.Str)] (L2.defScope (top 20)) := ⟨by kernel_rfl, by kernel_rfl, by kernel_rfl, by decide +kernel, by kernel_rfl, by decide +kernel, by decide +kernel⟩
theorem tr_digits : trBs (trS 40 tc_digits []) (L2.defBody (top 21)) = some s_digits := by kernel_rfl
theorem fs_ok_digits : L2.FnScope N_digits [("number" : PySem.Str), ("places" : PySem.Str)] (L2.defScope (top 21)) := ⟨by kernel_rfl, by kernel_rfl, by kernel_rfl, by decide +kernel, by kernel_rfl, by decide +kernel, by decide +kernel⟩
theorem tr__law_cell : trBs (trS 40 tc__law_cell []) (L2.defBody (top 23)) = some s__law_cell := by kernel_rfl
theorem fs_ok__law_cell : L2.FnScope N__law_cell [("_law_script" : PySem.Str), ("_law_k" : PySem.Str)] (L2.defScope (top 23)) := ⟨by kernel_rfl, by kernel_rfl, by kernel_rfl, by decide +kernel, by kernel_rfl, by decide +kernel, by decide +kernel⟩
theorem tr__law_drawn : trBs (trS 40 tc__law_drawn []) (L2.defBody (top 24)) = some s__law_drawn := by kernel_rfl
theorem fs_ok__law_drawn : L2.FnScope N__law_drawn [("_law_cell_here" : PySem.Str), ("_law_k" : PySem.Str)] (L2.defScope (top 24)) := ⟨by kernel_rfl, by kernel_rfl, by kernel_rfl, by decide +kernel, by kernel_rfl, by decide +kernel, by decide +kernel⟩
theorem tr__law_root : trBs (trS 40 tc__law_root []) (L2.defBody (top 27)) = some s__law_root := by kernel_rfl
theorem fs_ok__law_root : L2.FnScope N__law_root [("_law_square" : PySem.Str)] (L2.defScope (top 27)) := ⟨by kernel_rfl, by kernel_rfl, by kernel_rfl, by decide +kernel, by kernel_rfl, by decide +kernel, by decide +kernel⟩
theorem tr__law_ten : trBs (trS 40 tc__law_ten []) (L2.defBody (top 28)) = some s__law_ten := by kernel_rfl
theorem fs_ok__law_ten : L2.FnScope N__law_ten [("_law_places" : PySem.Str)] (L2.defScope (top 28)) := ⟨by kernel_rfl, by kernel_rfl, by kernel_rfl, by decide +kernel, by kernel_rfl, by decide +kernel, by decide +kernel⟩
theorem tr__law_spans : trBs (trS 40 tc__law_spans []) (L2.defBody (top 29)) = some s__law_spans := by kernel_rfl
theorem fs_ok__law_spans : L2.FnScope N__law_spans [("_law_number" : PySem.Str), ("_law_places" : PySem.Str)] (L2.defScope (top 29)) := ⟨by kernel_rfl, by kernel_rfl, by kernel_rfl, by decide +kernel, by kernel_rfl, by decide +kernel, by decide +kernel⟩
theorem tr__law_row : trBs (trS 40 tc__law_row [2]) (L2.defBody (top 30)) = some s__law_row := by kernel_rfl
theorem fs_ok__law_row : L2.FnScope N__law_row [("_law_more" : PySem.Str), ("_law_most" : PySem.Str)] (L2.defScope (top 30)) := ⟨by kernel_rfl, by kernel_rfl, by kernel_rfl, by decide +kernel, by kernel_rfl, by decide +kernel, by decide +kernel⟩
theorem tr__law_refused : trBs (trS 40 tc__law_refused [3]) (L2.defBody (top 31)) = some s__law_refused := by kernel_rfl
theorem fs_ok__law_refused : L2.FnScope N__law_refused [("_law_row_here" : PySem.Str)] (L2.defScope (top 31)) := ⟨by kernel_rfl, by kernel_rfl, by kernel_rfl, by decide +kernel, by kernel_rfl, by decide +kernel, by decide +kernel⟩
theorem tr_law : trBs (trS 40 tc_law []) (L2.defBody (top 32)) = some s_law := by kernel_rfl
theorem fs_ok_law : L2.FnScope N_law [("_law_script" : PySem.Str)] (L2.defScope (top 32)) := ⟨by kernel_rfl, by kernel_rfl, by kernel_rfl, by decide +kernel, by kernel_rfl, by decide +kernel, by decide +kernel⟩
end K10
end Nz

set_option maxHeartbeats 0
/-! K10Head: what the head of the row leaves. -/
namespace Nz
namespace K10
open PySem PySem.Spec PyProof.Rows L2
def dOf (n : Str) (i : Nat) : He.DefD := ⟨(n, none), n, n, defArgs (top i), defBody (top i), defScope (top i), [], []⟩
def words : List Str := ["BadNumber", "BadRow", "BadText"]
def fns : List (Str × Nat) := [("is_count", 10), ("need_count", 11), ("is_number", 12), ("need_number", 13), ("need_row", 14), ("need_times", 15), ("plain_of", 16), ("plain", 17), ("root_below", 18), ("power_of", 19), ("digits_of", 20), ("digits", 21), ("_law_cell", 23), ("_law_drawn", 24), ("_law_word", 25), ("_law_told", 26), ("_law_root", 27), ("_law_ten", 28), ("_law_spans", 29), ("_law_row", 30), ("_law_refused", 31), ("law", 32)]
def fn : List He.DefD := fns.map fun p => dOf p.1 p.2
def frees : List Str := ["isinstance", "int", "bool", "len", "tuple", "list", "all", "range", "sum", "str", "max", "min", "sorted", "ValueError"]
def fa : List He.Fa := fns.map (fun p => He.Fa.glo p.1) ++ words.map He.Fa.exc ++ frees.map He.Fa.free ++ words.map He.Fa.glo ++ [.glo "NoughtError", .int "MOST" 99, .int "MOST_NUMBERS" 5, .int "MOST_PLACES" 30, .int "MOST_TIMES" 1000]
def tf : List He.Defn := [("_law_refused", none)]
/-- what isinstance and the except clause ask of the classes -/
def excB (K : PySem.W.Frag) (x : Str) : Bool := He.eqO (PySem.W.findIn K (.ref (He.ga K x)) "__getattribute__") (some (some (.builtin "BaseException.__getattribute__"))) && (He.eqO (PySem.W.findIn K (.ref (He.ga K x)) "__getattr__") (some none) && (decide (PySem.W.subIn K (.ref (He.ga K x)) (.type "BaseException") = some true) && (PySem.W.hasDictIn K (He.ga K x) &&
  (He.eqO (PySem.W.findIn K (.ref (He.ga K x)) "__class__") (some (some (.builtin "object.__class__"))) && (He.eqO (PySem.W.specialIn K (.builtin "object.__class__") "__get__") (some (some (.builtin "getset_descriptor.__get__"))) && (decide (PySem.W.takesIn K (.builtin "object.__class__") = some true) && decide (PySem.W.mroIn K (He.ga K x) (.type "object") = some true)))))))
def wordB (ws : List Str) (K : PySem.W.Frag) (x : Str) : Bool := excB K x && (decide (PySem.W.exmOne K (.ref (He.ga K x)) (.ref (He.ga K "NoughtError")) = some true) && (decide (PySem.W.kitOne K (.ref (He.ga K x)) (.type "ValueError") = some true) && ws.all fun y => decide (PySem.W.kitOne K (.ref (He.ga K x)) (.ref (He.ga K y)) = some (decide (x = y)))))
def ex (K : PySem.W.Frag) : Bool := words.all (wordB words K)
def loose : List Str := (prg.main.scope.names.filter fun p => (match p.2 with | .local => true | _ => false) && !(("law" : Str) == p.1) && !(("__name__" : Str) == p.1)).map (·.1)
abbrev Rw : PySem.W.OpenRow := PySem.W.OpenLaw.row PySem.Challenge.rw_noughtsums_k10_whole_numbers
abbrev hk : PySem.W.Hook := He.hookX 5 fa fn [] tf ex
def ob (s : PySem.W.SharedT) : He.AlX := He.obsX 5 fa fn [] tf ex (HandSHeadRun.getT s)
theorem ob_eq (s : PySem.W.SharedT) : ob s = hk.obs s.abs := He.obsX_eq (HandSHeadRun.getT_eq s)
theorem headrun (w : World) : HandSHeadRun.RunEq Rw (PySem.W.view Rw.prog [32]) hk ob 4000 loose w := by
  intro os
  kernel_rfl
theorem excB_ok {K : PySem.W.Frag} {x : Str} (h : excB K x = true) : ExcC K (He.ga K x) := by
  unfold excB at h
  simp only [Bool.and_eq_true, decide_eq_true_eq] at h
  obtain ⟨h1, h2, h3, h4, h5, h6, h7, h8⟩ := h
  exact ⟨He.eqO_ok h1, He.eqO_ok h2, h3, h4, He.eqO_ok h5, He.eqO_ok h6, h7, h8⟩
end K10
end Nz

set_option maxHeartbeats 0
/-! K10Join: the defs of the row keep what Phi tells. -/
namespace Nz
namespace K10
open PySem PySem.Spec PyProof.Rows L2 LamX L2H
def lamQ : Str := (("_law_refused" : Str) ++ ".<locals>.") ++ "<lambda>"
def cTab (K : PySem.W.Frag) : Addr × Addr := He.cT K ("_law_refused", none)
def Tof (K : PySem.W.Frag) : List (Addr × Str) := [((cTab K).2, lamQ)]
def FnAll (K : PySem.W.Frag) (T : List (Addr × Str)) (Φ : String → List D → R D) (P : Program) (w : World) (mg : Str → Option Value) (base : Heap) (k : Nat) (l : List (Str × String × Nat)) : Prop := ∀ p ∈ l, p.1 = (p.2.1 : Str) ∧ FnP K T Φ P w mg base k p.2.1 p.2.2
section
variable {K : PySem.W.Frag} {T : List (Addr × Str)} {Φ : String → List D → R D} {P : Program} {w : World} {mg : Str → Option Value} {base : Heap}
theorem FnAll.add {k k2 : Nat} {l : List (Str × String × Nat)} {x : Str} {f : String} {n : Nat} (A : FnAll K T Φ P w mg base k l) (h : k ≤ k2) (e : x = (f : Str)) (F : FnP K T Φ P w mg base k2 f n) : FnAll K T Φ P w mg base k2 (l ++ [(x, f, n)]) := fun p hp => by
  rcases List.mem_append.mp hp with q | q
  · exact ⟨(A p q).1, (A p q).2.mono h⟩
  · have := List.mem_singleton.mp q
    subst this
    exact ⟨e, F⟩
/-- the defs' surroundings, by the head's facts -/
structure Facts (K : PySem.W.Frag) (mg : Str → Option Value) : Prop where
  gl : ∀ x ∈ fns.map (·.1), mg x = some (.ref (He.ga K x))
  cls : ∀ x ∈ words, mg x = some (.ref (He.ga K x))
  ne : mg "NoughtError" = some (.ref (He.ga K "NoughtError"))
  free : ∀ x ∈ frees, mg x = none
  cn : ∀ p ∈ cns, ∃ u v, mg p.1 = some u ∧ RelV v u ∧ ∀ G, Dr K G v p.2
  ex : ∀ p ∈ exs, ExP K mg p.1 p.2
theorem facts_of {h : Heap} (X : K.In h) (G : h.Ns mainGlobals mg) (c : He.SaysD fa fn K) : Facts K mg := by
  have cl : ∀ x ∈ words, mg x = some (.ref (He.ga K x)) := fun x hx => He.glo_ok X G (He.SaysD.facts c (f := .glo x) (by
    unfold fa
    exact List.mem_append_left _ (List.mem_append_right _ (List.mem_map.mpr ⟨x, hx, rfl⟩))))
  refine ⟨fun x hx => ?_, cl, ?_, fun x hx => ?_, fun p hp => ?_, fun p hp => ?_⟩
  · obtain ⟨p, hp, e⟩ := List.mem_map.mp hx
    subst e
    exact He.glo_ok X G (He.SaysD.facts c (f := .glo p.1) (by
      unfold fa
      exact List.mem_append_left _ (List.mem_append_left _ (List.mem_append_left _ (List.mem_append_left _ (List.mem_map.mpr ⟨p, hp, rfl⟩))))))
  · exact He.glo_ok X G (He.SaysD.facts c (f := .glo "NoughtError") (by
      unfold fa
      exact List.mem_append_right _ List.mem_cons_self))
  · exact He.free_ok X G (He.SaysD.facts c (f := .free x) (by
      unfold fa
      exact List.mem_append_left _ (List.mem_append_left _ (List.mem_append_right _ (List.mem_map.mpr ⟨x, hx, rfl⟩)))))
  · have key : ∀ (x : Str) (i : Int), (He.Fa.int x i) ∈ fa → ∃ u v, mg x = some u ∧ RelV v u ∧ ∀ G, Dr K G v (.int i) := fun x i hm => by
      obtain ⟨t, e⟩ := He.int_ok X G (He.SaysD.facts c hm)
      exact ⟨_, .int i, e, ⟨t, rfl⟩, fun G => .int i⟩
    unfold cns at hp
    simp only [List.mem_cons, List.not_mem_nil, or_false] at hp
    rcases hp with e | e | e | e <;> subst e <;> refine key _ _ ?_ <;> unfold fa <;> refine List.mem_append_right _ ?_ <;> simp
  · have key : ∀ (x : String), (x : Str) ∈ words → ExP K mg (x : Str) x := fun x hx => by
      obtain ⟨h1, h2, h3, h4⟩ := He.exc_ok (He.SaysD.facts c (f := .exc (x : Str)) (by
        unfold fa
        exact List.mem_append_left _ (List.mem_append_left _ (List.mem_append_left _ (List.mem_append_right _ (List.mem_map.mpr ⟨(x : Str), hx, rfl⟩))))))
      exact ⟨rfl, cl _ hx, h2, h3, h4, _, _, _, _, PySem.F.excBase_ValueError, h1⟩
    unfold exs at hp
    simp only [List.mem_cons, List.not_mem_nil, or_false] at hp
    rcases hp with e | e | e <;> subst e <;> refine key _ ?_ <;> simp [words]
theorem srr_of (F : Facts K mg) {k : Nat} {t : TC} {l : List (Str × String × Nat)} (A : FnAll K T Φ P w mg base k l) (h1 : t.fs = l) (h2 : t.cns = cns) (h3 : t.bl = bls) (h4 : t.exs = exs) : Srr K T Φ P w mg base k t where
  fn := by rw [h1]; exact A
  cn := by rw [h2]; exact F.cn
  blt := by
    rw [h3]
    intro x hx
    exact F.free x ((show ∀ x ∈ bls, x ∈ frees by decide +kernel) x hx)
  ex := by rw [h4]; exact F.ex
/-! ### the word, told -/
theorem told_body : ∃ p1 p2 p3 p4 p5 p6 p7 p8 p9 p10, defBody (top 26) = [.Try [.Return (some (.Call (.Name "_law_deed" p1) [] [] p2)) p3] [.ExceptHandler (some (.Name "NoughtError" p4)) (some "_law_e") [.Return (some (.Call (.Name "_law_word" p5) [.Name "_law_e" p6] [] p7)) p8] p9] [] [] p10] := ⟨_, _, _, _, _, _, _, _, _, _, rfl⟩
theorem wordF_of (F : Facts K mg) (c : He.SaysD fa fn K) : ∃ fd, WordF K mg (defArgs (top 25)) (defBody (top 25)) (defScope (top 25)) fd := by
  obtain ⟨fd, Fd⟩ := c.def_ 14 (d := dOf "_law_word" 25) rfl
  exact ⟨fd, ⟨Fd, ⟨by kernel_rfl, by kernel_rfl, by kernel_rfl, by decide +kernel, by kernel_rfl, by decide +kernel, by decide +kernel⟩, fun _ _ _ _ _ _ us hl => match us, hl with | [_], _ => by kernel_rfl, F.gl _ (by decide +kernel), by kernel_rfl, by kernel_rfl, by kernel_rfl, by kernel_rfl, by kernel_rfl,
    F.free _ (by decide +kernel), F.free _ (by decide +kernel), F.free _ (by decide +kernel), F.free _ (by decide +kernel)⟩⟩
theorem toldF_of (F : Facts K mg) (c : He.SaysD fa fn K) : ∃ p1 p2 p3 p4 p5 p6 p7 p8 p9 p10 fd, ToldF K mg (defArgs (top 26)) p1 p2 p3 p4 p5 p6 p7 p8 p9 p10 (defScope (top 26)) fd := by
  obtain ⟨fd, Fd⟩ := c.def_ 15 (d := dOf "_law_told" 26) rfl
  obtain ⟨p1, p2, p3, p4, p5, p6, p7, p8, p9, p10, e⟩ := told_body
  have Fd : FunD K "_law_told" "_law_told" (defArgs (top 26)) (defBody (top 26)) (defScope (top 26)) [] [] (He.ga K "_law_told") fd := Fd
  rw [e] at Fd
  exact ⟨p1, p2, p3, p4, p5, p6, p7, p8, p9, p10, fd, ⟨Fd, ⟨by kernel_rfl, by kernel_rfl, by kernel_rfl, by decide +kernel, by kernel_rfl, by decide +kernel, by decide +kernel⟩, fun _ _ _ _ _ _ _ us hl => match us, hl with | [_], _ => by kernel_rfl, F.gl _ (by decide +kernel), F.ne, by kernel_rfl, by kernel_rfl, by kernel_rfl, by kernel_rfl⟩⟩
theorem wordB_ok {x : Str} (h : ex K = true) (hx : x ∈ words) : ExcC K (He.ga K x) ∧ PySem.W.exmOne K (.ref (He.ga K x)) (.ref (He.ga K "NoughtError")) = some true ∧ PySem.W.kitOne K (.ref (He.ga K x)) (.type "ValueError") = some true ∧ ∀ y ∈ words, PySem.W.kitOne K (.ref (He.ga K x)) (.ref (He.ga K y)) = some (decide (x = y)) := by
  have := List.all_eq_true.mp h x hx
  unfold wordB at this
  simp only [Bool.and_eq_true, decide_eq_true_eq, List.all_eq_true] at this
  exact ⟨excB_ok this.1, this.2.1, this.2.2.1, this.2.2.2⟩
theorem wordOf (F : Facts K mg) (h : ex K = true) (x : Str) (bs : List Bool) (j : Nat) (hx : x ∈ words) (hb : words.map (fun y => decide (x = y)) = bs) (h1 : (bs.map b2).sum = 1) (hj : bs[j]? = some true) (hj2 : ∀ m, m < j → bs[m]? = some false) (hn : words[j]? = some x) : WordOf K mg (defBody (top 25)) (defScope (top 25)) (He.ga K x) x := by
  obtain ⟨e1, e2, e3, e4⟩ := wordB_ok h hx
  refine ⟨fun X a oe hK hm hs W hh => ?_, e2, e1⟩
  subst hK hm
  subst hb
  have isC : ∀ y ∈ words, ∀ p p1 p2 pos : Pos, Gl X y → (y == ("__debug__" : Str)) = false → PE X (.Call (.Name "isinstance" p) [.Name "_law_e" p1, .Name y p2] [] pos) (tIs a (decide (x = y))) := fun y hy p p1 p2 pos hg hd => pe_isC W hh hg (F.cls y hy) hd (e4 y hy)
  exact word_body (ns := words) (j := j) W hh
    (pa_fl (isC "BadNumber" (by decide +kernel) _ _ _ _ (by show X.env.scope.names.lookup _ = _; rw [hs]; kernel_rfl) (by decide +kernel)) (pa_fl (isC "BadRow" (by decide +kernel) _ _ _ _ (by show X.env.scope.names.lookup _ = _; rw [hs]; kernel_rfl) (by decide +kernel)) (pa_fl (isC "BadText" (by decide +kernel) _ _ _ _ (by show X.env.scope.names.lookup _ = _; rw [hs]; kernel_rfl) (by decide +kernel)) pa_fl0)))
    (pa_cs (pa_cs (pa_cs pa_cs0))) (by rw [hs]; kernel_rfl) (by rw [hs]; kernel_rfl) (by rw [hs]; kernel_rfl) (by simp [words]) (by decide) h1 hj hj2 hn e3 (by kernel_rfl)
theorem words_ok (F : Facts K mg) (h : ex K = true) (x : String) (hx : Phi "_law_word" [.str (x : Str)] ≠ .err) : Phi "_law_word" [.str (x : Str)] = .ok (.str (x : Str)) ∧ WordOf K mg (defBody (top 25)) (defScope (top 25)) (He.ga K (x : Str)) (x : Str) := by
  rw [P_word] at hx ⊢
  by_cases z : (x : Str) = bnS ∨ (x : Str) = brS ∨ (x : Str) = btS
  · rw [if_pos z]
    refine ⟨rfl, ?_⟩
    rcases z with e | e | e
    · rw [e]; exact wordOf F h bnS [true, false, false] 0 (by decide +kernel) (by decide +kernel) (by decide) rfl (fun m hm => absurd hm (Nat.not_lt_zero _)) (by decide +kernel)
    · rw [e]; exact wordOf F h brS [false, true, false] 1 (by decide +kernel) (by decide +kernel) (by decide) rfl (fun m hm => by
        have : m = 0 := by omega
        subst this; rfl) (by decide +kernel)
    · rw [e]; exact wordOf F h btS [false, false, true] 2 (by decide +kernel) (by decide +kernel) (by decide) rfl (fun m hm => by
        have : m = 0 ∨ m = 1 := by omega
        rcases this with q | q <;> subst q <;> rfl) (by decide +kernel)
  · rw [if_neg z] at hx; exact absurd rfl hx
end
end K10
end Nz

set_option maxHeartbeats 0
/-! K10End: the law. -/
namespace Nz
namespace K10
open PySem PySem.Spec PyProof.Rows L2 LamX L2H
section
variable {K : PySem.W.Frag} {P : Program} {w : World} {mg : Str → Option Value} {base : Heap}
theorem told_rule {k : Nat} {fd : FuncData} (F : Facts K mg) (c : He.SaysD fa fn K) (hex : ex K = true) (TB : TabB base mg (cTab K).1 (cTab K).2) (Fd : FunD K "_law_refused" "_law_refused" (defArgs (top 31)) (defBody (top 31)) (defScope (top 31)) [] [] (He.ga K "_law_refused") fd)
    (A : Around) (outer : List PySem.Env) (s : Shared) (H : Hp) (E : XK) (cdv : Value) (hcd : PySem.W.codeIn K cdv "_law_refused" = true) (hcv : fd.code = cdv) (hr : Room (k + 2) (A.deeper (envOfC "_law_refused" (defScope (top 31)) s.heap.objs.size (He.ga K "_law_refused") cdv))) :
    ToldP (cxOf (L2N.CX P w) P w K mg base N__law_refused "_law_refused" (defScope (top 31)) (He.ga K "_law_refused") cdv A outer s H E) ⟨K, Tof K, Phi, H, E⟩ k := by
  obtain ⟨wf, FW⟩ := wordF_of F c
  obtain ⟨p1, p2, p3, p4, p5, p6, p7, p8, p9, p10, tfd, FT⟩ := toldF_of F c
  obtain ⟨cd, e⟩ := He.codeIn_ref hcd
  subst e
  obtain ⟨oc, od, dV, kV, doc, pm, an, cdv2, ct, osl, rfl, lk, _, _, _⟩ := Fd.ex
  have hc : (cTab K).1 = cd := He.codeOf_eq lk hcv
  exact told_ok (cd := (cTab K).1) (P := (cTab K).2) rfl FW FT TB (by rw [hc]; rfl) (List.mem_singleton.mpr rfl) (fun p hp _ => by have := List.mem_singleton.mp hp; subst this; rfl) hr (by show _ = _; kernel_rfl) (fun x hx => words_ok F hex x hx)
theorem law_fn {fdL : FuncData} (F : Facts K mg) (c : He.SaysD fa fn K) (hex : ex K = true) (TB : TabB base mg (cTab K).1 (cTab K).2) (FL : FunD K "law" "law" (defArgs (top 32)) (defBody (top 32)) (defScope (top 32)) [] [] (He.ga K "law") fdL) : FnOk P w K mg base (L2N.CX P w) 22 (He.ga K "law") fdL ["_law_script"] (spP K (Tof K) Phi "law" 1) := by
  have A_0 : FnAll K (Tof K) Phi P w mg base 0 [] := fun p hp => by cases hp
  have F_0 := c.def_ 0 (d := dOf "is_count" 10) rfl
  obtain ⟨fd_0, F_0⟩ := F_0
  have G_0 : FnP K (Tof K) Phi P w mg base 1 "is_count" 3 := fnP_of 0 (t := tc_is_count) F_0 (srr_of F A_0 rfl rfl rfl rfl) rfl rfl fs_ok_is_count (F.gl "is_count" (by decide +kernel)) (fun _ _ _ _ _ _ us hl => match us, hl with | [_, _, _], _ => by kernel_rfl) tr_is_count (fun h => by cases h) (fun ds hl hn => sp_is_count ds hl hn)
  have A_1 : FnAll K (Tof K) Phi P w mg base 1 (fs_is_count ++ [(("is_count" : PySem.Str), "is_count", 3)]) := A_0.add (by omega) rfl G_0
  have F_1 := c.def_ 1 (d := dOf "need_count" 11) rfl
  obtain ⟨fd_1, F_1⟩ := F_1
  have G_1 : FnP K (Tof K) Phi P w mg base 2 "need_count" 3 := fnP_of 0 (t := tc_need_count) F_1 (srr_of F A_1 rfl rfl rfl rfl) rfl rfl fs_ok_need_count (F.gl "need_count" (by decide +kernel)) (fun _ _ _ _ _ _ us hl => match us, hl with | [_, _, _], _ => by kernel_rfl) tr_need_count (fun h => by cases h) (fun ds hl hn => sp_need_count ds hl hn)
  have A_2 : FnAll K (Tof K) Phi P w mg base 2 (fs_need_count ++ [(("need_count" : PySem.Str), "need_count", 3)]) := A_1.add (by omega) rfl G_1
  have F_2 := c.def_ 2 (d := dOf "is_number" 12) rfl
  obtain ⟨fd_2, F_2⟩ := F_2
  have G_2 : FnP K (Tof K) Phi P w mg base 3 "is_number" 1 := fnP_of 0 (t := tc_is_number) F_2 (srr_of F A_2 rfl rfl rfl rfl) rfl rfl fs_ok_is_number (F.gl "is_number" (by decide +kernel)) (fun _ _ _ _ _ _ us hl => match us, hl with | [_], _ => by kernel_rfl) tr_is_number (fun h => by cases h) (fun ds hl hn => sp_is_number ds hl hn)
  have A_3 : FnAll K (Tof K) Phi P w mg base 3 (fs_is_number ++ [(("is_number" : PySem.Str), "is_number", 1)]) := A_2.add (by omega) rfl G_2
  have F_3 := c.def_ 3 (d := dOf "need_number" 13) rfl
  obtain ⟨fd_3, F_3⟩ := F_3
  have G_3 : FnP K (Tof K) Phi P w mg base 4 "need_number" 1 := fnP_of 0 (t := tc_need_number) F_3 (srr_of F A_3 rfl rfl rfl rfl) rfl rfl fs_ok_need_number (F.gl "need_number" (by decide +kernel)) (fun _ _ _ _ _ _ us hl => match us, hl with | [_], _ => by kernel_rfl) tr_need_number (fun h => by cases h) (fun ds hl hn => sp_need_number ds hl hn)
  have A_4 : FnAll K (Tof K) Phi P w mg base 4 (fs_need_number ++ [(("need_number" : PySem.Str), "need_number", 1)]) := A_3.add (by omega) rfl G_3
  have F_4 := c.def_ 4 (d := dOf "need_row" 14) rfl
  obtain ⟨fd_4, F_4⟩ := F_4
  have G_4 : FnP K (Tof K) Phi P w mg base 5 "need_row" 1 := fnP_of 0 (t := tc_need_row) F_4 (srr_of F A_4 rfl rfl rfl rfl) rfl rfl fs_ok_need_row (F.gl "need_row" (by decide +kernel)) (fun _ _ _ _ _ _ us hl => match us, hl with | [_], _ => by kernel_rfl) tr_need_row (fun h => by cases h) (fun ds hl hn => sp_need_row ds hl hn)
  have A_5 : FnAll K (Tof K) Phi P w mg base 5 (fs_need_row ++ [(("need_row" : PySem.Str), "need_row", 1)]) := A_4.add (by omega) rfl G_4
  have F_5 := c.def_ 5 (d := dOf "need_times" 15) rfl
  obtain ⟨fd_5, F_5⟩ := F_5
  have G_5 : FnP K (Tof K) Phi P w mg base 6 "need_times" 2 := fnP_of 0 (t := tc_need_times) F_5 (srr_of F A_5 rfl rfl rfl rfl) rfl rfl fs_ok_need_times (F.gl "need_times" (by decide +kernel)) (fun _ _ _ _ _ _ us hl => match us, hl with | [_, _], _ => by kernel_rfl) tr_need_times (fun h => by cases h) (fun ds hl hn => sp_need_times ds hl hn)
  have A_6 : FnAll K (Tof K) Phi P w mg base 6 (fs_need_times ++ [(("need_times" : PySem.Str), "need_times", 2)]) := A_5.add (by omega) rfl G_5
  have F_6 := c.def_ 6 (d := dOf "plain_of" 16) rfl
  obtain ⟨fd_6, F_6⟩ := F_6
  have G_6 : FnP K (Tof K) Phi P w mg base 7 "plain_of" 1 := fnP_of 0 (t := tc_plain_of) F_6 (srr_of F A_6 rfl rfl rfl rfl) rfl rfl fs_ok_plain_of (F.gl "plain_of" (by decide +kernel)) (fun _ _ _ _ _ _ us hl => match us, hl with | [_], _ => by kernel_rfl) tr_plain_of (fun h => by cases h) (fun ds hl hn => sp_plain_of ds hl hn)
  have A_7 : FnAll K (Tof K) Phi P w mg base 7 (fs_plain_of ++ [(("plain_of" : PySem.Str), "plain_of", 1)]) := A_6.add (by omega) rfl G_6
  have F_7 := c.def_ 7 (d := dOf "plain" 17) rfl
  obtain ⟨fd_7, F_7⟩ := F_7
  have G_7 : FnP K (Tof K) Phi P w mg base 8 "plain" 1 := fnP_of 0 (t := tc_plain) F_7 (srr_of F A_7 rfl rfl rfl rfl) rfl rfl fs_ok_plain (F.gl "plain" (by decide +kernel)) (fun _ _ _ _ _ _ us hl => match us, hl with | [_], _ => by kernel_rfl) tr_plain (fun h => by cases h) (fun ds hl hn => sp_plain ds hl hn)
  have A_8 : FnAll K (Tof K) Phi P w mg base 8 (fs_plain ++ [(("plain" : PySem.Str), "plain", 1)]) := A_7.add (by omega) rfl G_7
  have F_8 := c.def_ 8 (d := dOf "root_below" 18) rfl
  obtain ⟨fd_8, F_8⟩ := F_8
  have G_8 : FnP K (Tof K) Phi P w mg base 9 "root_below" 1 := fnP_of 0 (t := tc_root_below) F_8 (srr_of F A_8 rfl rfl rfl rfl) rfl rfl fs_ok_root_below (F.gl "root_below" (by decide +kernel)) (fun _ _ _ _ _ _ us hl => match us, hl with | [_], _ => by kernel_rfl) tr_root_below (fun h => by cases h) (fun ds hl hn => sp_root_below ds hl hn)
  have A_9 : FnAll K (Tof K) Phi P w mg base 9 (fs_root_below ++ [(("root_below" : PySem.Str), "root_below", 1)]) := A_8.add (by omega) rfl G_8
  have F_9 := c.def_ 9 (d := dOf "power_of" 19) rfl
  obtain ⟨fd_9, F_9⟩ := F_9
  have G_9 : FnP K (Tof K) Phi P w mg base 10 "power_of" 1 := fnP_of 0 (t := tc_power_of) F_9 (srr_of F A_9 rfl rfl rfl rfl) rfl rfl fs_ok_power_of (F.gl "power_of" (by decide +kernel)) (fun _ _ _ _ _ _ us hl => match us, hl with | [_], _ => by kernel_rfl) tr_power_of (fun h => by cases h) (fun ds hl hn => sp_power_of ds hl hn)
  have A_10 : FnAll K (Tof K) Phi P w mg base 10 (fs_power_of ++ [(("power_of" : PySem.Str), "power_of", 1)]) := A_9.add (by omega) rfl G_9
  have F_10 := c.def_ 10 (d := dOf "digits_of" 20) rfl
  obtain ⟨fd_10, F_10⟩ := F_10
  have G_10 : FnP K (Tof K) Phi P w mg base 11 "digits_of" 2 := fnP_of 0 (t := tc_digits_of) F_10 (srr_of F A_10 rfl rfl rfl rfl) rfl rfl fs_ok_digits_of (F.gl "digits_of" (by decide +kernel)) (fun _ _ _ _ _ _ us hl => match us, hl with | [_, _], _ => by kernel_rfl) tr_digits_of (fun h => by cases h) (fun ds hl hn => sp_digits_of ds hl hn)
  have A_11 : FnAll K (Tof K) Phi P w mg base 11 (fs_digits_of ++ [(("digits_of" : PySem.Str), "digits_of", 2)]) := A_10.add (by omega) rfl G_10
  have F_11 := c.def_ 11 (d := dOf "digits" 21) rfl
  obtain ⟨fd_11, F_11⟩ := F_11
  have G_11 : FnP K (Tof K) Phi P w mg base 12 "digits" 2 := fnP_of 0 (t := tc_digits) F_11 (srr_of F A_11 rfl rfl rfl rfl) rfl rfl fs_ok_digits (F.gl "digits" (by decide +kernel)) (fun _ _ _ _ _ _ us hl => match us, hl with | [_, _], _ => by kernel_rfl) tr_digits (fun h => by cases h) (fun ds hl hn => sp_digits ds hl hn)
  have A_12 : FnAll K (Tof K) Phi P w mg base 12 (fs_digits ++ [(("digits" : PySem.Str), "digits", 2)]) := A_11.add (by omega) rfl G_11
  have F_12 := c.def_ 12 (d := dOf "_law_cell" 23) rfl
  obtain ⟨fd_12, F_12⟩ := F_12
  have G_12 : FnP K (Tof K) Phi P w mg base 13 "_law_cell" 2 := fnP_of 0 (t := tc__law_cell) F_12 (srr_of F A_12 rfl rfl rfl rfl) rfl rfl fs_ok__law_cell (F.gl "_law_cell" (by decide +kernel)) (fun _ _ _ _ _ _ us hl => match us, hl with | [_, _], _ => by kernel_rfl) tr__law_cell (fun h => by cases h) (fun ds hl hn => sp_cell ds hl hn)
  have A_13 : FnAll K (Tof K) Phi P w mg base 13 (fs__law_cell ++ [(("_law_cell" : PySem.Str), "_law_cell", 2)]) := A_12.add (by omega) rfl G_12
  have F_13 := c.def_ 13 (d := dOf "_law_drawn" 24) rfl
  obtain ⟨fd_13, F_13⟩ := F_13
  have G_13 : FnP K (Tof K) Phi P w mg base 14 "_law_drawn" 2 := fnP_of 0 (t := tc__law_drawn) F_13 (srr_of F A_13 rfl rfl rfl rfl) rfl rfl fs_ok__law_drawn (F.gl "_law_drawn" (by decide +kernel)) (fun _ _ _ _ _ _ us hl => match us, hl with | [_, _], _ => by kernel_rfl) tr__law_drawn (fun h => by cases h) (fun ds hl hn => sp_drawn ds hl hn)
  have A_14 : FnAll K (Tof K) Phi P w mg base 14 (fs__law_drawn ++ [(("_law_drawn" : PySem.Str), "_law_drawn", 2)]) := A_13.add (by omega) rfl G_13
  have F_14 := c.def_ 16 (d := dOf "_law_root" 27) rfl
  obtain ⟨fd_14, F_14⟩ := F_14
  have G_14 : FnP K (Tof K) Phi P w mg base 15 "_law_root" 1 := fnP_of 0 (t := tc__law_root) F_14 (srr_of F A_14 rfl rfl rfl rfl) rfl rfl fs_ok__law_root (F.gl "_law_root" (by decide +kernel)) (fun _ _ _ _ _ _ us hl => match us, hl with | [_], _ => by kernel_rfl) tr__law_root (fun h => by cases h) (fun ds hl hn => sp_root ds hl hn)
  have A_15 : FnAll K (Tof K) Phi P w mg base 15 (fs__law_root ++ [(("_law_root" : PySem.Str), "_law_root", 1)]) := A_14.add (by omega) rfl G_14
  have F_15 := c.def_ 17 (d := dOf "_law_ten" 28) rfl
  obtain ⟨fd_15, F_15⟩ := F_15
  have G_15 : FnP K (Tof K) Phi P w mg base 16 "_law_ten" 1 := fnP_of 0 (t := tc__law_ten) F_15 (srr_of F A_15 rfl rfl rfl rfl) rfl rfl fs_ok__law_ten (F.gl "_law_ten" (by decide +kernel)) (fun _ _ _ _ _ _ us hl => match us, hl with | [_], _ => by kernel_rfl) tr__law_ten (fun h => by cases h) (fun ds hl hn => sp_ten ds hl hn)
  have A_16 : FnAll K (Tof K) Phi P w mg base 16 (fs__law_ten ++ [(("_law_ten" : PySem.Str), "_law_ten", 1)]) := A_15.add (by omega) rfl G_15
  have F_16 := c.def_ 18 (d := dOf "_law_spans" 29) rfl
  obtain ⟨fd_16, F_16⟩ := F_16
  have G_16 : FnP K (Tof K) Phi P w mg base 17 "_law_spans" 2 := fnP_of 0 (t := tc__law_spans) F_16 (srr_of F A_16 rfl rfl rfl rfl) rfl rfl fs_ok__law_spans (F.gl "_law_spans" (by decide +kernel)) (fun _ _ _ _ _ _ us hl => match us, hl with | [_, _], _ => by kernel_rfl) tr__law_spans (fun h => by cases h) (fun ds hl hn => sp_spans ds hl hn)
  have A_17 : FnAll K (Tof K) Phi P w mg base 17 (fs__law_spans ++ [(("_law_spans" : PySem.Str), "_law_spans", 2)]) := A_16.add (by omega) rfl G_16
  have F_17 := c.def_ 19 (d := dOf "_law_row" 30) rfl
  obtain ⟨fd_17, F_17⟩ := F_17
  have G_17 : FnP K (Tof K) Phi P w mg base 18 "_law_row" 2 := fnP_of 0 (t := tc__law_row) F_17 (srr_of F A_17 rfl rfl rfl rfl) rfl rfl fs_ok__law_row (F.gl "_law_row" (by decide +kernel)) (fun _ _ _ _ _ _ us hl => match us, hl with | [_, _], _ => by kernel_rfl) tr__law_row (fun h => by cases h) (fun ds hl hn => sp_row ds hl hn)
  have A_18 : FnAll K (Tof K) Phi P w mg base 18 (fs__law_row ++ [(("_law_row" : PySem.Str), "_law_row", 2)]) := A_17.add (by omega) rfl G_17
  have F_18 := c.def_ 20 (d := dOf "_law_refused" 31) rfl
  obtain ⟨fd_18, F_18⟩ := F_18
  have G_18 : FnP K (Tof K) Phi P w mg base 21 "_law_refused" 1 := fnP_of 2 (t := tc__law_refused) F_18 (srr_of F A_18 rfl rfl rfl rfl) rfl rfl fs_ok__law_refused (F.gl "_law_refused" (by decide +kernel)) (fun _ _ _ _ _ _ us hl => match us, hl with | [_], _ => by kernel_rfl) tr__law_refused (fun _ A outer s H E cdv hcd hcv hr => told_rule F c hex TB F_18 A outer s H E cdv hcd hcv hr) (fun ds hl hn => sp_refused ds hl hn)
  have A_19 : FnAll K (Tof K) Phi P w mg base 21 (fs__law_refused ++ [(("_law_refused" : PySem.Str), "_law_refused", 1)]) := A_18.add (by omega) rfl G_18
  exact fnOk_of 0 (t := tc_law) FL (srr_of F A_19 rfl rfl rfl rfl) rfl rfl fs_ok_law tr_law (fun h => by cases h) (fun ds hl hn => sp_law ds hl hn)
theorem law_binds {fdL : FuncData} (FL : FunD K "law" "law" (defArgs (top 32)) (defBody (top 32)) (defScope (top 32)) [] [] (He.ga K "law") fdL) (s : Shared) (u : Value) : BindsTo s fdL ⟨[u], []⟩ [("_law_script", u)] := by
  have b := FunD.bindsA (ps := ["_law_script"]) FL fun _ _ _ _ _ _ us hl => match us, hl with | [_], _ => by kernel_rfl
  exact b s [u] rfl
theorem law_sp {H : Hp} {a : Addr} {ns : List Int} (hl : ns.length ≤ 63) (hT : H (cTab K).2 = some (.tbl #[])) (hS : SqL K H a (ns.map V.int)) : spP K (Tof K) Phi "law" 1 [.ref a] H (fun v _ => v = .bl true) fun _ _ _ => False := by
  refine ⟨rfl, fun b => match H b with | some (.tbl _) => none | o => o, [scrD ns], fun b o e => ?_, fun b ps e => ?_, fun p hp => ?_, .cons (.scr ?_) .nil, ?_⟩
  · dsimp only at e
    split at e
    · cases e
    · exact e
  · dsimp only at e
    split at e
    · cases e
    · rename_i h; exact h ps e
  · have := List.mem_singleton.mp hp
    subst this
    exact TabS.nil hT
  · rcases hS with (h | ⟨o, h⟩) | h
    · exact .inl (.inl (by dsimp only; rw [h]))
    · exact .inl (.inr ⟨o, by dsimp only; rw [h]⟩)
    · exact .inr h
  · have e : Phi "law" [scrD ns] = .ok (.bool true) := by
      rw [P_law]
      have e : intsD (ns.map PyData.int) = some ns := by
        have := intsD_map (fun x : Int => x) ns
        simpa using this
      rw [e]
      exact if_pos hl
    rw [e]
    intro G' H' v st dr
    cases dr
    rfl
end
end K10
end Nz
open PySem PySem.W PySem.Calls PyProof.Rows
theorem PySem.Challenge.cw_noughtsums_k10_whole_numbers_holds : PySem.Challenge.rw_noughtsums_k10_whole_numbers.Holds := by
  w_on; o_law
  refine HandSHeadRun.head_any (r := OpenLaw.row PySem.Challenge.rw_noughtsums_k10_whole_numbers) (q := view (OpenLaw.row PySem.Challenge.rw_noughtsums_k10_whole_numbers).prog [32]) (H := Nz.K10.hk) (ob := Nz.K10.ob) (M := 4000) (loose := Nz.K10.loose) (d := HandSHeadRun.topDef (OpenLaw.row PySem.Challenge.rw_noughtsums_k10_whole_numbers).prog 32) (kwd := []) Nz.K10.ob_eq
    (by kernel_rfl) (fun s => by kernel_rfl) Nz.K10.headrun (by kernel_rfl) (by kernel_rfl) (by kernel_rfl) (by rfl) (by first | assumption | decide +kernel) (by decide +kernel) ⟨rfl, rfl, rfl, rfl, rfl, by decide +kernel⟩ ?hw ?hc
  case hw => w_witness2
  case hc =>
    refine LamX.walk_ofTsE (l := PySem.Challenge.rw_noughtsums_k10_whole_numbers) (n := 63) (k := 22) (x := "_law_script") (CX := fun w => L2N.CX PySem.Challenge.rw_noughtsums_k10_whole_numbers.prog w) rfl (by decide) (by kernel_rfl) ⟨rfl, by decide, by decide⟩ ?F (fun w H s e s' z => ?_)
    · intro w mg fa h Y G hmg0
      obtain ⟨K, KX, c⟩ := Y
      have hmg : mg ("law" : PySem.Str) = some (.ref fa) := by
        have e : (HandSHeadRun.topDef (OpenLaw.row PySem.Challenge.rw_noughtsums_k10_whole_numbers).prog 32).name = ("law" : PySem.Str) := by kernel_rfl
        rw [← e]
        exact hmg0
      have F := Nz.K10.facts_of KX G c.t.d
      have e := hmg.symm.trans (F.gl "law" (by decide +kernel))
      cases e
      obtain ⟨fdL, FL⟩ := c.t.d.def_ 21 (d := Nz.K10.dOf "law" 32) rfl
      refine ⟨K, KX, fdL, [Nz.K10.cTab K], Nz.spP K (Nz.K10.Tof K) Nz.K10.Phi "law" 1, fun p hp => ?_, fun p hp => ?_, fun p hp => ?_, Nz.K10.law_binds FL, fun H a ns hl _ hT hS => Nz.K10.law_sp hl (hT _ (List.mem_singleton.mpr rfl)) hS, fun base hK hG hTB => Nz.K10.law_fn (Nz.K10.facts_of hK hG c.t.d) c.t.d c.more (hTB _ (List.mem_singleton.mpr rfl)) FL⟩
      · have := List.mem_singleton.mp hp
        subst this
        exact c.empty _ (List.mem_singleton.mpr rfl)
      · have := List.mem_singleton.mp hp
        subst this
        exact c.out _ (List.mem_singleton.mpr rfl)
      · have := List.mem_singleton.mp hp
        subst this
        exact PySem.W.codeHd_of_K KX (c.hd _ (List.mem_singleton.mpr rfl))
    · obtain ⟨_, _, _, _, _, _, _, _, _, _, _, _, z⟩ := z
      exact z
