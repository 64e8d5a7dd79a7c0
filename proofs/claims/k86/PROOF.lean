import PyProof.Rows.All
import Wide.All
import OpenK.AllK
import Wide.FinOn
import HandS.ForMost
import HandS.EndBits
import HandS.Wide
import HandS.WideBits
import HandS.Deep
import HandS.Gcd
import HandS.IsInst
import HandS.SetFor
import HandS.TupAny
import HandS.TupLe
import HandS.Style
import HandS.Flow
import HandS.SortInts
import KE.IntBitsLaws
import PySem.Challenge.RW_fewestfigures_k86_least_pairs_of_great_n
set_option Elab.async false
set_option linter.all false
set_option maxRecDepth 100000
/-! Y1: data, results, the small tongue and what it computes. -/
namespace Y
open PySem L2 PyProof.Rows

abbrev D := PyData

inductive R (α : Type) where
  | ok (a : α)
  | ex (c : String)
  | no
namespace R
variable {α β : Type}
def bind : R α → (α → R β) → R β
  | .ok a, f => f a
  | .ex c, _ => .ex c
  | .no, _ => .no
instance : Monad R where
  pure := .ok
  bind := R.bind
@[simp] theorem ok_bind (a : α) (f : α → R β) : (R.ok a >>= f) = f a := Eq.trans (Eq.refl _) (Eq.refl _)
@[simp] theorem ex_bind (c : String) (f : α → R β) : ((R.ex c : R α) >>= f) = .ex c := Eq.trans (Eq.refl _) (Eq.refl _)
@[simp] theorem no_bind (f : α → R β) : ((R.no : R α) >>= f) = .no := Eq.trans (Eq.refl _) (Eq.refl _)
@[simp] theorem pure_eq (a : α) : (pure a : R α) = .ok a := Eq.trans (Eq.refl _) (Eq.refl _)
theorem bind_ok {x : R α} {f : α → R β} {b : β} (h : (x >>= f) = .ok b) : ∃ a, x = .ok a ∧ f a = .ok b := by
  cases x with
  | ok a => exact ⟨a, rfl, h⟩
  | ex c => cases h
  | no => cases h
end R

/-! ### the tongue -/
inductive BO where
  | add | sub | mul | fdiv | mod | pow | shl | shr | band | bor | bxor
  deriving DecidableEq, Repr
inductive CO where
  | eq | ne | lt | le | gt | ge | isN | notN | inn | notin
  deriving DecidableEq, Repr
inductive Tg where
  | nm (i : Nat)
  | tup (ts : List Tg)
inductive Ex where
  | var (i : Nat)
  | cst (d : D)
  | glb (x : String)
  | bin (op : BO) (a b : Ex)
  | neg (a : Ex)
  | cmp (op : CO) (a b : Ex)
  | cmp2 (o1 o2 : CO) (a b c : Ex)
  | and (a b : Ex)
  | or (a b : Ex)
  | not (a : Ex)
  | ite (c a b : Ex)
  | tup (es : List Ex)
  | lst (es : List Ex)
  | rep (es : List Ex) (k : Ex)
  | ix (a b : Ex)
  | sl (a lo hi : Ex)
  | call (f : String) (es : List Ex)
  | bi (f : String) (es : List Ex)
  | mth (m : String) (o : Ex) (es : List Ex)
  | isi (e : Ex) (t : String)
  | comp (own : List Nat) (elt : Ex) (tg : Tg) (itf : String) (its : List Ex) (ifs : List Ex)
  | oix (i : Nat) (b : Ex)
  | olen (i : Nat)
  | fld (i : Nat) (f : String)
  | fix (i : Nat) (f : String) (b : Ex)
  | flen (i : Nat) (f : String)
  | mget (i : Nat) (m : String) (es : List Ex)
inductive St where
  | nop
  | asg (fr : List Nat) (t : Tg) (e : Ex)
  | par (i j : Nat) (a b : Ex)
  | par3 (i j l : Nat) (a b c : Ex)
  | aug (i : Nat) (op : BO) (e : Ex)
  | new (i : Nat) (e : Ex)
  | app (fr : List Nat) (i : Nat) (e : Ex)
  | seti (i : Nat) (k e : Ex)
  | expr (e : Ex)
  | ite (fr : List Nat) (c : Ex) (a b : List St)
  | forr (fr : List Nat) (t : Tg) (itf : String) (its : List Ex) (body : List St)
  | whil (fr : List Nat) (c : Ex) (body : List St)
  | ret (fr : List Nat) (e : Ex)
  | retN
  | brk
  | cont
  | rais (c : String)
  | mk (i : Nat) (C : String) (es : List Ex)
  | mcal (t : Option Nat) (i : Nat) (m : String) (es : List Ex)
  | setf (i : Nat) (f : String) (e : Ex)
  | setft (i : Nat) (fs : List String) (e : Ex)
  | setfn (i : Nat) (f : String) (e : Ex)
  | augf (i : Nat) (f : String) (op : BO) (e : Ex)
  | fapp (i : Nat) (f : String) (e : Ex)
  | fseti (i : Nat) (f : String) (k e : Ex)

/-! ### values of variables -/
inductive FV where
  | val (d : D)
  | own (ds : List D)
inductive SV where
  | un
  | val (d : D)
  | own (ds : List D)
  | obj (C : String) (fs : List (String × FV))
abbrev Env := List SV
def getV (env : Env) (i : Nat) : R D := match env.getD i .un with
  | .val d => .ok d
  | _ => .no
def peek (env : Env) (i : Nat) : R D := match env.getD i .un with
  | .val d => .ok d
  | .own ds => .ok (.list ds)
  | _ => .no
def freeze1 (i : Nat) (env : Env) : Env := match env.getD i .un with
  | .own ds => env.set i (.val (.list ds))
  | _ => env
def freeze : List Nat → Env → Env
  | [], env => env
  | i :: r, env => freeze r (freeze1 i env)
def scalar : D → Bool
  | .none => true
  | .bool _ => true
  | .int _ => true
  | .str _ => true
  | _ => false

/-! ### operators -/
instance {a b : Int} : Decidable (IntMulOk a b) := by unfold IntMulOk; infer_instance
instance {a b : Int} : Decidable (CShl a b) := by unfold CShl; infer_instance
def boolR (b : Bool) : R D := .ok (.bool b)
def addD : D → D → R D
  | .int i, .int j => .ok (.int (i + j))
  | .int i, .bool k => .ok (.int (i + b2i k))
  | .str x, .str y => if x.length + y.length ≤ sizeLine then .ok (.str (x ++ y)) else .no
  | .list xs, .list ys => if xs.length + ys.length ≤ sizeLine then .ok (.list (xs ++ ys)) else .no
  | .tuple xs, .tuple ys => if xs.length + ys.length ≤ sizeLine then .ok (.tuple (xs ++ ys)) else .no
  | _, _ => .no
def subD : D → D → R D
  | .int i, .int j => .ok (.int (i - j))
  | _, _ => .no
def mulD : D → D → R D
  | .int i, .int j => if IntMulOk i j then .ok (.int (i * j)) else .no
  | _, _ => .no
def repD : D → D → R D
  | .list xs, .int k => if -(2 ^ 63) ≤ k ∧ k < 2 ^ 63 ∧ xs.length * k.toNat ≤ sizeLine then .ok (.list (List.replicate k.toNat xs).flatten) else .no
  | _, _ => .no
def fdivD : D → D → R D
  | .int i, .int j => if 0 < j ∧ Builtin.divisionGoesByPylong i j = false then .ok (.int (i / j)) else .no
  | _, _ => .no
def modD : D → D → R D
  | .int i, .int j => if 0 < j then .ok (.int (i % j)) else .no
  | _, _ => .no
def powD : D → D → R D
  | .int i, .int j => if 0 ≤ j ∧ j ≤ 1000000 ∧ i.natAbs < 2 ^ 64 then .ok (.int (i ^ j.toNat)) else .no
  | _, _ => .no
def shlD : D → D → R D
  | .int i, .int j => if CShl i j then .ok (.int (i * 2 ^ j.toNat)) else .no
  | _, _ => .no
def shrD : D → D → R D
  | .int i, .int j => if 0 ≤ j then .ok (.int (i / 2 ^ j.toNat)) else .no
  | _, _ => .no
def bandD : D → D → R D
  | .int i, .int j => .ok (.int (Builtin.bitAnd i j))
  | _, _ => .no
def borD : D → D → R D
  | .int i, .int j => .ok (.int (Builtin.bitOr i j))
  | _, _ => .no
def bxorD : D → D → R D
  | .int i, .int j => .ok (.int (Builtin.bitXor i j))
  | _, _ => .no
def binD : BO → D → D → R D
  | .add => addD
  | .sub => subD
  | .mul => mulD
  | .fdiv => fdivD
  | .mod => modD
  | .pow => powD
  | .shl => shlD
  | .shr => shrD
  | .band => bandD
  | .bor => borD
  | .bxor => bxorD
def negD : D → R D
  | .int i => .ok (.int (-i))
  | _ => .no
def eqB (x y : D) : R Bool := match x, y with
  | .int i, .int j => .ok (decide (i = j))
  | .str i, .str j => .ok (decide (i = j))
  | .bool i, .bool j => .ok (decide (i = j))
  | .none, .none => .ok true
  | d, e => if SeqAt.shaped d = true ∧ SeqAt.shaped e = true then .ok (PyData.eqv d e) else .no
def inB (x y : D) : R Bool := match y with
  | .list ds => if SeqAt.shaped x = true ∧ SeqAt.shaped (.list ds) = true then .ok (ds.any fun z => PyData.eqv z x) else .no
  | .str t => match x with
    | .str u => .ok (!(Builtin.Str.occurrences t u 0 t.length 1).isEmpty)
    | _ => .no
  | _ => .no
def cmpB : CO → D → D → R Bool
  | .eq, x, y => eqB x y
  | .ne, x, y => (eqB x y).bind fun b => .ok (!b)
  | .lt, .int i, .int j => .ok (decide (i < j))
  | .le, .int i, .int j => .ok (decide (i ≤ j))
  | .gt, .int i, .int j => .ok (decide (j < i))
  | .ge, .int i, .int j => .ok (decide (j ≤ i))
  | .isN, .none, .none => .ok true
  | .isN, _, .none => .ok false
  | .notN, .none, .none => .ok false
  | .notN, _, .none => .ok true
  | .isN, .bool a, .bool b => .ok (decide (a = b))
  | .notN, .bool a, .bool b => .ok (!decide (a = b))
  | .inn, x, y => inB x y
  | .notin, x, y => (inB x y).bind fun b => .ok (!b)
  | _, _, _ => .no
def truthD : D → R Bool
  | .none => .ok false
  | .bool b => .ok b
  | .int i => .ok (i != 0)
  | .str x => if x.length ≤ sizeLine then .ok ((x.length : Int) != 0) else .no
  | .list xs => .ok (!xs.isEmpty)
  | .tuple xs => .ok (!xs.isEmpty)
  | _ => .no
def lenD : D → R D
  | .list xs => .ok (.int xs.length)
  | .tuple xs => .ok (.int xs.length)
  | .str x => if x.length ≤ sizeLine then .ok (.int x.length) else .no
  | _ => .no
def atD (ds : List D) (i : Int) : R D := match atI ds i with
  | some d => .ok d
  | none => .no
def ixD : D → D → R D
  | .list ds, .int i => atD ds i
  | .tuple ds, .int i => atD ds i
  | .str z, .int i => if z.length ≤ sizeLine then (match atI z.cps.toList i with | some c => .ok (.str ⟨#[c]⟩) | none => .no) else .no
  | _, _ => .no
def cutL {α : Type} (xs : List α) (lo hi : Option Int) : List α := (xs.drop (HT.sIx xs.length 0 lo)).take (HT.sIx xs.length xs.length hi - HT.sIx xs.length 0 lo)
def intO (d : D) : R (Option Int) := match d with
  | .int i => .ok (some i)
  | _ => .no
def isNo : Ex → Bool
  | .cst .none => true
  | _ => false
def slD : D → Option Int → Option Int → R D
  | .list ds, lo, hi => .ok (.list (cutL ds lo hi))
  | .tuple ds, lo, hi => .ok (.tuple (cutL ds lo hi))
  | .str z, lo, hi => if z.length ≤ sizeLine then .ok (.str (cutS z lo hi)) else .no
  | _, _, _ => .no
def intsOf : List D → Option (List Int)
  | [] => some []
  | .int i :: r => (intsOf r).map (i :: ·)
  | _ :: _ => none
def lstOf : D → R (List D)
  | .list ds => .ok ds
  | _ => .no
def maxL : List Int → Int
  | [] => 0
  | [i] => i
  | i :: r => if maxL r > i then maxL r else i
def minL : List Int → Int
  | [] => 0
  | [i] => i
  | i :: r => if minL r < i then minL r else i
def bi1 (g : D → R D) : List D → R D
  | [d] => g d
  | _ => .no
def intD : D → R D
  | .int i => .ok (.int i)
  | .bool b => .ok (.int (if b then 1 else 0))
  | _ => .no
def boolD : D → R D
  | .int i => .ok (.bool (i != 0))
  | .bool b => .ok (.bool b)
  | _ => .no
def absD : D → R D
  | .int i => .ok (.int (if i < 0 then -i else i))
  | _ => .no
def maxD : List D → R D
  | [.int i, .int j] => .ok (.int (if j > i then j else i))
  | [.list ds] => match intsOf ds with
    | some (i :: r) => .ok (.int (maxL (i :: r)))
    | _ => .no
  | _ => .no
def minD : List D → R D
  | [.int i, .int j] => .ok (.int (if j < i then j else i))
  | [.list ds] => match intsOf ds with
    | some (i :: r) => .ok (.int (minL (i :: r)))
    | _ => .no
  | _ => .no
def sumD : D → R D
  | .list ds => match intsOf ds with
    | some ns => .ok (.int ns.sum)
    | _ => .no
  | _ => .no
def listD : D → R D
  | .list ds => .ok (.list ds)
  | .tuple ds => .ok (.list ds)
  | _ => .no
def tupleD : D → R D
  | .list ds => .ok (.tuple ds)
  | .tuple ds => .ok (.tuple ds)
  | _ => .no
def gcdD : List D → R D
  | [.int i, .int j] => .ok (.int ((Nat.gcd i.natAbs j.natAbs : Nat) : Int))
  | _ => .no
def boolsOf : List D → Option (List Bool)
  | [] => some []
  | .bool i :: r => (boolsOf r).map (i :: ·)
  | _ :: _ => none
def allD : D → R D
  | .list ds => match boolsOf ds with
    | some bs => .ok (.bool (bs.all id))
    | _ => .no
  | _ => .no
def anyD : D → R D
  | .list ds => match boolsOf ds with
    | some bs => .ok (.bool (bs.any id))
    | _ => .no
  | _ => .no
/-- in rising order -/
def insI (i : Int) : List Int → List Int
  | [] => [i]
  | j :: r => if i ≤ j then i :: j :: r else j :: insI i r
def sortI : List Int → List Int
  | [] => []
  | i :: r => insI i (sortI r)
def sortedD : D → R D
  | .list ds => match intsOf ds with
    | some ns => .ok (.list ((sortI ns).map .int))
    | _ => .no
  | _ => .no
/-- sorted({i: True, j: True}) -/
def pairSetD : List D → R D
  | [.int i, .int j] => .ok (.list ((sortI (if i = j then [i] else [i, j])).map .int))
  | _ => .no
def biD : String → List D → R D
  | "sorted" => bi1 sortedD
  | "sorted{}" => pairSetD
  | "len" => bi1 lenD
  | "int" => bi1 intD
  | "bool" => bi1 boolD
  | "abs" => bi1 absD
  | "max" => maxD
  | "min" => minD
  | "sum" => bi1 sumD
  | "list" => bi1 listD
  | "tuple" => bi1 tupleD
  | "gcd" => gcdD
  | "all" => bi1 allD
  | "any" => bi1 anyD
  | _ => fun _ => .no
def bitsD : D → List D → R D
  | .int i, [] => .ok (.int (Builtin.Int.intBits i : Nat))
  | _, _ => .no
def countD : D → List D → R D
  | .list ds, [.int k] => match intsOf ds with
    | some ns => .ok (.int (ns.count k : Nat))
    | none => .no
  | _, _ => .no
def mthD : String → D → List D → R D
  | "bit_length" => bitsD
  | "count" => countD
  | _ => fun _ _ => .no
def tyD : D → String
  | .none => "NoneType"
  | .bool _ => "bool"
  | .int _ => "int"
  | .str _ => "str"
  | .list _ => "list"
  | .tuple _ => "tuple"
  | .dict _ => "dict"
def isTy (d : D) (t : String) : Bool := tyD d == t || (tyD d == "bool" && t == "int")
def rangeL (lo hi : Int) : List D := (List.range (hi - lo).toNat).map fun i => .int (lo + (i : Nat))
def iterD : D → R (List D)
  | .list ds => .ok ds
  | .tuple ds => .ok ds
  | _ => .no
def smallI (i : Int) : Bool := decide (-(2 ^ 62) ≤ i) && decide (i < 2 ^ 62)
def rangeD : List D → R (List D)
  | [.int j] => if smallI j then .ok (rangeL 0 j) else .no
  | [.int i, .int j] => if smallI i && smallI j then .ok (rangeL i j) else .no
  | _ => .no
def it1 (g : D → R (List D)) : List D → R (List D)
  | [d] => g d
  | _ => .no
def itBi : String → List D → R (List D)
  | "" => it1 iterD
  | "range" => rangeD
  | _ => fun _ => .no

mutual
def bindT : Tg → D → Env → R Env
  | .nm i, d, env => .ok (env.set i (.val d))
  | .tup ts, .tuple ds, env => bindTs ts ds env
  | .tup _, _, _ => .no
def bindTs : List Tg → List D → Env → R Env
  | [], [], env => .ok env
  | t :: ts, d :: ds, env => (bindT t d env).bind fun env' => bindTs ts ds env'
  | _, _, _ => .no
end
def wipeE (env : Env) : List Nat → Env
  | [] => env
  | i :: r => (wipeE env r).set i .un

def compD (f : D → R (Option D)) : List D → R (List D)
  | [] => .ok []
  | d :: ds => (f d).bind fun o => (compD f ds).bind fun r => .ok (match o with | some x => x :: r | none => r)

structure Tab where
  fn : String → List D → R D
  glb : String → R D
  mt : String → String → List (String × FV) → List D → R (D × List (String × FV))
section
variable (T : Tab)
mutual
def semE : Ex → Env → R D
  | .var i, env => getV env i
  | .cst d, _ => .ok d
  | .glb x, _ => T.glb x
  | .bin op a b, env => semE a env >>= fun x => semE b env >>= fun y => binD op x y
  | .neg a, env => semE a env >>= negD
  | .cmp op a b, env => semE a env >>= fun x => semE b env >>= fun y => cmpB op x y >>= boolR
  | .cmp2 o1 o2 a b c, env => semE a env >>= fun x => semE b env >>= fun y => cmpB o1 x y >>= fun k =>
      if k = true then semE c env >>= fun z => cmpB o2 y z >>= boolR else .ok (.bool false)
  | .and a b, env => semE a env >>= fun x => truthD x >>= fun k => if k = true then semE b env else .ok x
  | .or a b, env => semE a env >>= fun x => truthD x >>= fun k => if k = true then .ok x else semE b env
  | .not a, env => semE a env >>= fun x => truthD x >>= fun k => .ok (.bool (!k))
  | .ite c a b, env => semE c env >>= fun x => truthD x >>= fun k => if k = true then semE a env else semE b env
  | .tup es, env => semEs es env >>= fun ds => if ds.length ≤ sizeLine then .ok (.tuple ds) else .no
  | .lst es, env => semEs es env >>= fun ds => if ds.length ≤ sizeLine then .ok (.list ds) else .no
  | .rep es k, env => semEs es env >>= fun ds => if ds.length ≤ sizeLine then semE k env >>= fun y => repD (.list ds) y else .no
  | .ix a b, env => semE a env >>= fun x => semE b env >>= fun y => ixD x y
  | .sl a lo hi, env => semE a env >>= fun x => (if isNo lo = true then .ok Option.none else semE lo env >>= intO) >>= fun l => (if isNo hi = true then .ok Option.none else semE hi env >>= intO) >>= fun h => slD x l h
  | .call f es, env => semEs es env >>= fun ds => T.fn f ds
  | .bi f es, env => semEs es env >>= fun ds => biD f ds
  | .mth m o es, env => semE o env >>= fun x => semEs es env >>= fun ds => mthD m x ds
  | .isi e t, env => semE e env >>= fun x => .ok (.bool (isTy x t))
  | .comp own elt tg itf its ifs, env => semEs its env >>= fun as => itBi itf as >>= fun ds => if ds.length ≤ sizeLine then
      (compD (fun d => (bindT tg d (wipeE env own)).bind fun env' => (semTs ifs env').bind fun k => if k = true then (semE elt env').bind fun x => .ok (some x) else .ok none) ds) >>= fun r => .ok (.list r) else .no
  | .oix i b, env => peek env i >>= fun x => semE b env >>= fun y => ixD x y
  | .olen i, env => peek env i >>= lenD
  | .fld i f, env => match env.getD i .un with
    | .obj _ fs => match fs.lookup f with
      | some (.val d) => .ok d
      | _ => .no
    | _ => .no
  | .fix i f b, env => match env.getD i .un with
    | .obj _ fs => match fs.lookup f with
      | some (.val d) => semE b env >>= fun y => ixD d y
      | some (.own ds) => semE b env >>= fun y => ixD (.list ds) y
      | _ => .no
    | _ => .no
  | .flen i f, env => match env.getD i .un with
    | .obj _ fs => match fs.lookup f with
      | some (.val d) => lenD d
      | some (.own ds) => lenD (.list ds)
      | _ => .no
    | _ => .no
  | .mget i m es, env => match env.getD i .un with
    | .obj C fs => semEs es env >>= fun ds => T.mt C m fs ds >>= fun r => .ok r.1
    | _ => .no
def semEs : List Ex → Env → R (List D)
  | [], _ => .ok []
  | e :: es, env => semE e env >>= fun d => semEs es env >>= fun ds => .ok (d :: ds)
/-- tests in a row (a comprehension's): none or one -/
def semTs : List Ex → Env → R Bool
  | [], _ => .ok true
  | e :: _, env => (semE e env).bind truthD
end
end

/-! ### statements -/
inductive Out where
  | nx (env : Env)
  | bk (env : Env)
  | ct (env : Env)
  | rt (d : D) (env : Env)
def seqO (x : R Out) (k : Env → R Out) : R Out := match x with
  | .ok (.nx env) => k env
  | r => r
@[simp] theorem seqO_nx (env : Env) (k : Env → R Out) : seqO (.ok (.nx env)) k = k env := Eq.trans (Eq.refl _) (Eq.refl _)
@[simp] theorem seqO_bk (env : Env) (k : Env → R Out) : seqO (.ok (.bk env)) k = .ok (.bk env) := Eq.trans (Eq.refl _) (Eq.refl _)
@[simp] theorem seqO_ct (env : Env) (k : Env → R Out) : seqO (.ok (.ct env)) k = .ok (.ct env) := Eq.trans (Eq.refl _) (Eq.refl _)
@[simp] theorem seqO_rt (d : D) (env : Env) (k : Env → R Out) : seqO (.ok (.rt d env)) k = .ok (.rt d env) := Eq.trans (Eq.refl _) (Eq.refl _)
@[simp] theorem seqO_ex (c : String) (k : Env → R Out) : seqO (.ex c) k = .ex c := Eq.trans (Eq.refl _) (Eq.refl _)
@[simp] theorem seqO_no (k : Env → R Out) : seqO .no k = .no := Eq.trans (Eq.refl _) (Eq.refl _)
def keep (fr : List Nat) (d : D) (env : Env) : Env := if scalar d = true then env else freeze fr env
def augD : BO → D → D → R D
  | .add, .int i, .int j => .ok (.int (i + j))
  | .add, .str x, .str y => if x.length + y.length ≤ sizeLine then .ok (.str (x ++ y)) else .no
  | .sub, .int i, .int j => .ok (.int (i - j))
  | _, _, _ => .no
def forD (t : Tg) (body : Env → R Out) : List D → Env → R Out
  | [], env => .ok (.nx env)
  | d :: ds, env => (bindT t d env).bind fun e => match body e with
    | .ok (.nx e') => forD t body ds e'
    | .ok (.ct e') => forD t body ds e'
    | .ok (.bk e') => .ok (.nx e')
    | r => r
def whN (c : Env → R Bool) (b : Env → R Out) : Nat → Env → Option (R Out)
  | 0, _ => none
  | n + 1, env => match c env with
    | .ok false => some (.ok (.nx env))
    | .ok true => match b env with
      | .ok (.nx e) => whN c b n e
      | .ok (.ct e) => whN c b n e
      | .ok (.bk e) => some (.ok (.nx e))
      | r => some r
    | .ex x => some (.ex x)
    | .no => some .no
open Classical in
noncomputable def whD (c : Env → R Bool) (b : Env → R Out) (env : Env) : R Out :=
  if h : ∃ n, (whN c b n env).isSome = true then (whN c b (Classical.choose h) env).getD .no else .no
def putFV (f : String) (v : FV) : List (String × FV) → List (String × FV)
  | [] => [(f, v)]
  | (g, w) :: r => if g = f then (f, v) :: r else (g, w) :: putFV f v r
def putFVs : List String → List D → List (String × FV) → R (List (String × FV))
  | [], [], fs => .ok fs
  | f :: gs, d :: ds, fs => putFVs gs ds (putFV f (.val d) fs)
  | _, _, _ => .no
def ownAt (env : Env) (i : Nat) (k : List D → R Out) : R Out := match env.getD i .un with
  | .own ds => k ds
  | _ => .no
def setD (ds : List D) (j d : D) : R (List D) := match j with
  | .int j => match ixN ds.length j with
    | some n => .ok (ds.set n d)
    | none => .no
  | _ => .no
def objAt (env : Env) (i : Nat) (k : String → List (String × FV) → R Out) : R Out := match env.getD i .un with
  | .obj C fs => k C fs
  | _ => .no
section
variable (T : Tab)
mutual
noncomputable def semS : St → Env → R Out
  | .nop, env => .ok (.nx env)
  | .asg fr t e, env => semE T e (freeze fr env) >>= fun d => bindT t d (keep fr d env) >>= fun env' => .ok (.nx env')
  | .par i j a b, env => semE T a env >>= fun x => semE T b env >>= fun y => .ok (.nx ((env.set i (.val x)).set j (.val y)))
  | .par3 i j l a b c, env => semE T a env >>= fun x => semE T b env >>= fun y => semE T c env >>= fun z => .ok (.nx (((env.set i (.val x)).set j (.val y)).set l (.val z)))
  | .aug i op e, env => getV env i >>= fun x => semE T e env >>= fun y => augD op x y >>= fun z => .ok (.nx (env.set i (.val z)))
  | .new i e, env => semE T e env >>= lstOf >>= fun ds => .ok (.nx (env.set i (.own ds)))
  | .app fr i e, env => semE T e (freeze fr env) >>= fun d => ownAt (keep fr d env) i fun ds => if ds.length < sizeLine then .ok (.nx ((keep fr d env).set i (.own (ds ++ [d])))) else .no
  | .seti i k e, env => semE T e env >>= fun d => semE T k env >>= fun j => ownAt env i fun ds => setD ds j d >>= fun es => .ok (.nx (env.set i (.own es)))
  | .expr e, env => semE T e env >>= fun _ => .ok (.nx env)
  | .ite fr c a b, env => semE T c (freeze fr env) >>= fun x => truthD x >>= fun k => if k = true then semSs a env else semSs b env
  | .forr fr t itf its body, env => semEs T its (freeze fr env) >>= fun as => itBi itf as >>= fun ds => forD t (semSs body) ds (freeze fr env)
  | .whil fr c body, env => whD (fun env => semE T c (freeze fr env) >>= truthD) (semSs body) env
  | .ret fr e, env => semE T e (freeze fr env) >>= fun d => .ok (.rt d (freeze fr env))
  | .retN, env => .ok (.rt .none env)
  | .brk, env => .ok (.bk env)
  | .cont, env => .ok (.ct env)
  | .rais c, _ => .ex c
  | .mk i C es, env => semEs T es env >>= fun ds => T.mt C "__init__" [] ds >>= fun r => match r.1 with
    | .none => .ok (.nx (env.set i (.obj C r.2)))
    | _ => .no
  | .mcal t i m es, env => objAt env i fun C fs => semEs T es env >>= fun ds => T.mt C m fs ds >>= fun r => match t with
    | none => .ok (.nx (env.set i (.obj C r.2)))
    | some j => .ok (.nx ((env.set i (.obj C r.2)).set j (.val r.1)))
  | .setf i f e, env => semE T e env >>= fun d => objAt env i fun C fs => .ok (.nx (env.set i (.obj C (putFV f (.val d) fs))))
  | .setft i gs e, env => semE T e env >>= fun d => objAt env i fun C fs => match d with
    | .tuple ds => putFVs gs ds fs >>= fun fs' => .ok (.nx (env.set i (.obj C fs')))
    | _ => .no
  | .setfn i f e, env => semE T e env >>= lstOf >>= fun ds => objAt env i fun C fs => .ok (.nx (env.set i (.obj C (putFV f (.own ds) fs))))
  | .augf i f op e, env => objAt env i fun C fs => match fs.lookup f with
    | some (.val x) => semE T e env >>= fun y => augD op x y >>= fun z => .ok (.nx (env.set i (.obj C (putFV f (.val z) fs))))
    | _ => .no
  | .fapp i f e, env => semE T e env >>= fun d => objAt env i fun C fs => match fs.lookup f with
    | some (.own ds) => if ds.length < sizeLine then .ok (.nx (env.set i (.obj C (putFV f (.own (ds ++ [d])) fs)))) else .no
    | _ => .no
  | .fseti i f k e, env => semE T e env >>= fun d => semE T k env >>= fun j => objAt env i fun C fs => match fs.lookup f with
    | some (.own ds) => setD ds j d >>= fun es => .ok (.nx (env.set i (.obj C (putFV f (.own es) fs))))
    | _ => .no
noncomputable def semSs : List St → Env → R Out
  | [], env => .ok (.nx env)
  | s :: r, env => seqO (semS s env) (semSs r)
end
/-- a def: its parameters, its slots, its body -/
structure Fn where
  ps : Nat
  sl : Nat
  body : List St
noncomputable def runF (p : Fn) (ds : List D) : R D := if ds.length = p.ps then
    match semSs T p.body (ds.map .val ++ List.replicate (p.sl - p.ps) .un) with
    | .ok (.rt d _) => .ok d
    | .ok (.nx _) => .ok .none
    | .ok _ => .no
    | .ex c => .ex c
    | .no => .no
  else .no
/-- a method: its object in slot 0 -/
noncomputable def runM (C : String) (p : Fn) (fs : List (String × FV)) (ds : List D) : R (D × List (String × FV)) := if ds.length + 1 = p.ps then
    match semSs T p.body (.obj C fs :: ds.map .val ++ List.replicate (p.sl - p.ps) .un) with
    | .ok (.rt d env) => match env.getD 0 .un with
      | .obj _ fs' => .ok (d, fs')
      | _ => .no
    | .ok (.nx env) => match env.getD 0 .un with
      | .obj _ fs' => .ok (.none, fs')
      | _ => .no
    | .ok _ => .no
    | .ex c => .ex c
    | .no => .no
  else .no
end
end Y

/-! Y2: how data lie in the heap. -/
namespace Y
open PySem L2 PyProof.Rows

theorem ofString_inj {a b : String} : Str.ofString a = Str.ofString b ↔ a = b := by
  constructor
  · intro h
    rw [Str.ofString_eq_toList, Str.ofString_eq_toList] at h
    have h1 : (a.toList.map Char.toNat).toArray = (b.toList.map Char.toNat).toArray := congrArg Str.cps h
    have h2 : a.toList.map Char.toNat = b.toList.map Char.toNat := by simpa using h1
    have inj : ∀ (l m : List Char), l.map Char.toNat = m.map Char.toNat → l = m := by
      intro l
      induction l with
      | nil =>
        intro m hm
        cases m with
        | nil => rfl
        | cons c t => cases hm
      | cons c t ih =>
        intro m hm
        cases m with
        | nil => cases hm
        | cons d u =>
          rw [List.map_cons, List.map_cons] at hm
          injection hm with h3 h4
          rw [ih u h4, Char.toNat_inj.mp h3]
    exact String.toList_inj.mp (inj _ _ h2)
  · rintro rfl
    rfl

/-! ### data and heaps -/
section
variable {K : PySem.W.Frag} {H H' : Hp}
theorem seqT_same {a : Addr} {xs : List V} (e : Same H H') (h : SqT K H a xs) : SqT K H' a xs := by
  rcases h with (h | ⟨o, h⟩) | h
  · exact .inl (.inl (e _ _ h))
  · exact .inl (.inr ⟨o, e _ _ h⟩)
  · exact .inr h
mutual
theorem dp_same (e : Same H H') : ∀ (d : D) (v : V), Dp K H v d → Dp K H' v d
  | .none, _, h => by cases h; exact .non
  | .bool b, _, h => by cases h; exact .bl b
  | .int i, _, h => by cases h; exact .int i
  | .str x, _, h => by cases h; exact .str x
  | .list ds, _, h => by
    cases h with
    | lst hs ha => exact .lst (e.seq hs) (dps_same e ds _ ha)
  | .tuple ds, _, h => by
    cases h with
    | tup hs ha => exact .tup (seqT_same e hs) (dps_same e ds _ ha)
  | .dict _, _, h => by cases h
theorem dps_same (e : Same H H') : ∀ (ds : List D) (vs : List V), DpAll K H vs ds → DpAll K H' vs ds
  | [], _, h => by cases h; exact .nil
  | d :: ds, _, h => by
    cases h with
    | cons h1 h2 => exact .cons (dp_same e d _ h1) (dps_same e ds _ h2)
end
theorem dp_none : ∀ (d : D) (v : V), scalar d = true → Dp K H v d → ∀ H2 : Hp, Dp K H2 v d
  | .none, _, _, h, _ => by cases h; exact .non
  | .bool b, _, _, h, _ => by cases h; exact .bl b
  | .int i, _, _, h, _ => by cases h; exact .int i
  | .str x, _, _, h, _ => by cases h; exact .str x
  | .list _, _, s, _, _ => by cases s
  | .tuple _, _, s, _, _ => by cases s
  | .dict _, _, s, _, _ => by cases s
theorem dps_length : ∀ {vs : List V} {ds : List D}, DpAll K H vs ds → vs.length = ds.length
  | _, [], h => by cases h; rfl
  | _, d :: ds, h => by
    cases h with
    | cons h1 h2 => rw [List.length_cons, List.length_cons, dps_length h2]
theorem dps_get : ∀ {vs : List V} {ds : List D} {i : Nat} {d : D}, DpAll K H vs ds → ds[i]? = some d → ∃ v, vs[i]? = some v ∧ Dp K H v d
  | _, [], _, _, h, e => by simp at e
  | _, x :: ds, 0, d, h, e => by
    cases h with
    | cons h1 h2 =>
      simp at e
      subst e
      exact ⟨_, rfl, h1⟩
  | _, x :: ds, i + 1, d, h, e => by
    cases h with
    | cons h1 h2 =>
      obtain ⟨v, q1, q2⟩ := dps_get (i := i) h2 (by simpa using e)
      exact ⟨v, by simpa using q1, q2⟩
theorem dps_append : ∀ {vs ws : List V} {ds es : List D}, DpAll K H vs ds → DpAll K H ws es → DpAll K H (vs ++ ws) (ds ++ es)
  | _, _, [], _, h, g => by cases h; exact g
  | _, _, d :: ds, _, h, g => by
    cases h with
    | cons h1 h2 => exact .cons h1 (dps_append h2 g)
theorem dps_take : ∀ {vs : List V} {ds : List D} (n : Nat), DpAll K H vs ds → DpAll K H (vs.take n) (ds.take n)
  | _, _, 0, _ => .nil
  | _, [], _ + 1, h => by cases h; exact .nil
  | _, d :: ds, n + 1, h => by
    cases h with
    | cons h1 h2 => exact .cons h1 (dps_take n h2)
theorem dps_drop : ∀ {vs : List V} {ds : List D} (n : Nat), DpAll K H vs ds → DpAll K H (vs.drop n) (ds.drop n)
  | _, _, 0, h => h
  | _, [], _ + 1, h => by cases h; exact .nil
  | _, d :: ds, n + 1, h => by
    cases h with
    | cons h1 h2 => exact dps_drop n h2
theorem dps_set {v : V} {d : D} (q : Dp K H v d) : ∀ {vs : List V} {ds : List D} (n : Nat), DpAll K H vs ds → DpAll K H (vs.set n v) (ds.set n d)
  | _, [], _, h => by cases h; exact .nil
  | _, x :: ds, 0, h => by
    cases h with
    | cons h1 h2 => exact .cons q h2
  | _, x :: ds, n + 1, h => by
    cases h with
    | cons h1 h2 => exact .cons h1 (dps_set q n h2)
theorem dps_rep {vs : List V} {ds : List D} (h : DpAll K H vs ds) : ∀ k : Nat, DpAll K H (List.replicate k vs).flatten (List.replicate k ds).flatten
  | 0 => .nil
  | k + 1 => by
    rw [List.replicate_succ, List.replicate_succ, List.flatten_cons, List.flatten_cons]
    exact dps_append h (dps_rep h k)
theorem dps_ints : ∀ (ns : List Int), DpAll K H (ns.map V.int) (ns.map PyData.int)
  | [] => .nil
  | n :: r => .cons (.int n) (dps_ints r)
theorem ints_dps : ∀ {vs : List V} {ds : List D} {ns : List Int}, DpAll K H vs ds → intsOf ds = some ns → vs = ns.map V.int
  | _, [], ns, h, e => by
    cases h
    have e' : (some [] : Option (List Int)) = some ns := e
    cases e'
    rfl
  | _, d :: ds, ns, h, e => by
    cases h with
    | cons h1 h2 =>
      cases d with
      | int i =>
        cases h1
        have e' : (intsOf ds).map (i :: ·) = some ns := e
        cases q : intsOf ds with
        | none => rw [q] at e'; cases e'
        | some ms =>
          rw [q] at e'
          cases e'
          rw [ints_dps h2 q]
          rfl
      | none => cases e
      | bool b => cases e
      | str x => cases e
      | list x => cases e
      | tuple x => cases e
      | dict x => cases e
end

/-- what is known grows: H0 the part that stays for good, H all -/
structure Grow (H0 H H0' H' : Hp) : Prop where
  a : Same H0 H0'
  b : Same H H'
  c : Same H0' H'
  d : ∀ x, H x ≠ none → H0 x = none → H0' x = none
theorem Grow.refl {H0 H : Hp} (s : Same H0 H) : Grow H0 H H0 H := ⟨.refl _, .refl _, s, fun _ _ h => h⟩
theorem same_ne {H H' : Hp} (s : Same H H') {x : Addr} (h : H x ≠ none) : H' x ≠ none := by
  cases q : H x with
  | none => exact absurd q h
  | some o => rw [s _ _ q]; simp
theorem Grow.trans {H0 H H1 H' H2 H'' : Hp} (g : Grow H0 H H1 H') (k : Grow H1 H' H2 H'') : Grow H0 H H2 H'' :=
  ⟨g.a.trans k.a, g.b.trans k.b, k.c, fun x h1 h2 => k.d x (same_ne g.b h1) (g.d x h1 h2)⟩
theorem same_upd {H : Hp} {p : Addr} {o : HO} (h : H p = none) : Same H (upd H p o) := fun b u e => by
  rw [upd_ne (ne_of_none e h)]
  exact e
theorem same_upd2 {H0 H : Hp} {p : Addr} {o : HO} (s : Same H0 H) : Same (upd H0 p o) (upd H p o) := fun b u e => by
  by_cases q : b = p
  · subst q
    rw [upd_same] at e ⊢
    exact e
  · rw [upd_ne q] at e ⊢
    exact s _ _ e
theorem Grow.new {H0 H : Hp} {p : Addr} {o : HO} (s : Same H0 H) (h : H p = none) : Grow H0 H (upd H0 p o) (upd H p o) :=
  ⟨same_upd (s.free h), same_upd h, same_upd2 s, fun x h1 h2 => by
    by_cases q : x = p
    · subst q
      exact absurd h h1
    · rw [upd_ne q]
      exact h2⟩
/-- something new that isn't kept -/
theorem Grow.newH {H0 H : Hp} {p : Addr} {o : HO} (s : Same H0 H) (h : H p = none) : Grow H0 H H0 (upd H p o) :=
  ⟨.refl _, same_upd h, s.trans (same_upd h), fun x h1 h2 => h2⟩

/-! ### objects' attributes -/
inductive FsOk (K : PySem.W.Frag) (H0 H : Hp) : List (String × FV) → List (Str × V) → List Addr → Prop
  | nil : FsOk K H0 H [] [] []
  | val {f : String} {d : D} {x : V} {fs : List (String × FV)} {hs : List (Str × V)} {as : List Addr} : Dp K H0 x d → FsOk K H0 H fs hs as → FsOk K H0 H ((f, .val d) :: fs) ((Str.ofString f, x) :: hs) as
  | own {f : String} {ds : List D} {p : Addr} {vs : List V} {fs : List (String × FV)} {hs : List (Str × V)} {as : List Addr} : H p = some (.lst vs) → DpAll K H0 vs ds → FsOk K H0 H fs hs as →
      FsOk K H0 H ((f, .own ds) :: fs) ((Str.ofString f, .ref p) :: hs) (p :: as)
theorem FsOk.mono {K : PySem.W.Frag} {H0 H H0' H' : Hp} (e0 : Same H0 H0') : ∀ {fs : List (String × FV)} {hs : List (Str × V)} {as : List Addr}, (∀ a ∈ as, ∀ o, H a = some o → H' a = some o) → FsOk K H0 H fs hs as → FsOk K H0' H' fs hs as := by
  intro fs hs as k h
  induction h with
  | nil => exact .nil
  | val hd _ ih => exact .val (dp_same e0 _ _ hd) (ih k)
  | own hp hd _ ih => exact .own (k _ (List.mem_cons_self) _ hp) (dps_same e0 _ _ hd) (ih fun a ha => k a (List.mem_cons_of_mem _ ha))
theorem FsOk.there {K : PySem.W.Frag} {H0 H : Hp} {fs : List (String × FV)} {hs : List (Str × V)} {as : List Addr} (h : FsOk K H0 H fs hs as) : ∀ a ∈ as, ∃ vs, H a = some (.lst vs) := by
  induction h with
  | nil => intro a ha; cases ha
  | val _ _ ih => exact ih
  | own hp _ _ ih =>
    intro a ha
    rcases List.mem_cons.mp ha with e | e
    · subst e
      exact ⟨_, hp⟩
    · exact ih a e
theorem FsOk.length {K : PySem.W.Frag} {H0 H : Hp} {fs : List (String × FV)} {hs : List (Str × V)} {as : List Addr} (h : FsOk K H0 H fs hs as) : fs.length = hs.length := by
  induction h with
  | nil => rfl
  | val _ _ ih => simp [ih]
  | own _ _ _ ih => simp [ih]
def FvOk (K : PySem.W.Frag) (H0 H : Hp) (as : List Addr) (x : V) : FV → Prop
  | .val d => Dp K H0 x d
  | .own ds => ∃ p vs, x = .ref p ∧ p ∈ as ∧ H p = some (.lst vs) ∧ DpAll K H0 vs ds
theorem FsOk.look {K : PySem.W.Frag} {H0 H : Hp} {fs : List (String × FV)} {hs : List (Str × V)} {as : List Addr} (h : FsOk K H0 H fs hs as) {f : String} {w : FV} (e : fs.lookup f = some w) :
    ∃ x, hs.lookup (Str.ofString f) = some x ∧ FvOk K H0 H as x w := by
  induction h with
  | nil => cases e
  | @val g d x fs hs as hd _ ih =>
    rw [List.lookup_cons] at e ⊢
    by_cases q : f = g
    · subst q
      simp only [beq_self_eq_true] at e ⊢
      cases e
      exact ⟨x, rfl, hd⟩
    · have q1 : (f == g) = false := by simpa using q
      have q2 : (Str.ofString f == Str.ofString g) = false := by
        simp only [beq_eq_false_iff_ne, ne_eq]
        exact fun z => q (ofString_inj.mp z)
      simp only [q1, q2] at e ⊢
      exact ih e
  | @own g ds p vs fs hs as hp hd _ ih =>
    rw [List.lookup_cons] at e ⊢
    by_cases q : f = g
    · subst q
      simp only [beq_self_eq_true] at e ⊢
      cases e
      exact ⟨.ref p, rfl, p, vs, rfl, List.mem_cons_self, hp, hd⟩
    · have q1 : (f == g) = false := by simpa using q
      have q2 : (Str.ofString f == Str.ofString g) = false := by
        simp only [beq_eq_false_iff_ne, ne_eq]
        exact fun z => q (ofString_inj.mp z)
      simp only [q1, q2] at e ⊢
      obtain ⟨x, h1, h2⟩ := ih e
      refine ⟨x, h1, ?_⟩
      cases w with
      | val d => exact h2
      | own es =>
        obtain ⟨p', vs', z1, z2, z3⟩ := h2
        exact ⟨p', vs', z1, List.mem_cons_of_mem _ z2, z3⟩
theorem FsOk.look_none {K : PySem.W.Frag} {H0 H : Hp} {fs : List (String × FV)} {hs : List (Str × V)} {as : List Addr} (h : FsOk K H0 H fs hs as) {f : String} (e : fs.lookup f = none) : hs.lookup (Str.ofString f) = none := by
  induction h with
  | nil => rfl
  | @val g d x fs hs as hd _ ih =>
    rw [List.lookup_cons] at e ⊢
    by_cases q : f = g
    · subst q
      simp at e
    · have q1 : (f == g) = false := by simpa using q
      have q2 : (Str.ofString f == Str.ofString g) = false := by
        simp only [beq_eq_false_iff_ne, ne_eq]
        exact fun z => q (ofString_inj.mp z)
      simp only [q1, q2] at e ⊢
      exact ih e
  | @own g ds p vs fs hs as hp hd _ ih =>
    rw [List.lookup_cons] at e ⊢
    by_cases q : f = g
    · subst q
      simp at e
    · have q1 : (f == g) = false := by simpa using q
      have q2 : (Str.ofString f == Str.ofString g) = false := by
        simp only [beq_eq_false_iff_ne, ne_eq]
        exact fun z => q (ofString_inj.mp z)
      simp only [q1, q2] at e ⊢
      exact ih e
/-- an attribute set to data: its old list, if it held one, is let go -/
theorem FsOk.put {K : PySem.W.Frag} {H0 H : Hp} {fs : List (String × FV)} {hs : List (Str × V)} {as : List Addr} (h : FsOk K H0 H fs hs as) {f : String} {x : V} {d : D} (q : Dp K H0 x d) :
    ∃ as', (∀ a ∈ as', a ∈ as) ∧ (as.Nodup → as'.Nodup) ∧ FsOk K H0 H (putFV f (.val d) fs) (putF (Str.ofString f) x hs) as' := by
  induction h with
  | nil => exact ⟨[], fun _ h => h, fun h => h, .val q .nil⟩
  | @val g d' y fs hs as hd hr ih =>
    obtain ⟨as', h1, h2, h3⟩ := ih
    unfold putFV putF
    by_cases e : g = f
    · subst e
      simp only [if_true]
      exact ⟨as, fun _ h => h, fun h => h, .val q hr⟩
    · have e2 : ¬ (Str.ofString g = Str.ofString f) := fun z => e (ofString_inj.mp z)
      simp only [if_neg e, if_neg e2]
      exact ⟨as', h1, h2, .val hd h3⟩
  | @own g ds p vs fs hs as hp hd hr ih =>
    obtain ⟨as', h1, h2, h3⟩ := ih
    unfold putFV putF
    by_cases e : g = f
    · subst e
      simp only [if_true]
      exact ⟨as, fun a h => List.mem_cons_of_mem _ h, fun h => (List.nodup_cons.mp h).2, .val q hr⟩
    · have e2 : ¬ (Str.ofString g = Str.ofString f) := fun z => e (ofString_inj.mp z)
      simp only [if_neg e, if_neg e2]
      refine ⟨p :: as', fun a h => ?_, fun h => ?_, .own hp hd h3⟩
      · rcases List.mem_cons.mp h with z | z
        · exact z ▸ List.mem_cons_self
        · exact List.mem_cons_of_mem _ (h1 a z)
      · have h' := List.nodup_cons.mp h
        exact List.nodup_cons.mpr ⟨fun z => h'.1 (h1 _ z), h2 h'.2⟩
/-- an attribute set to an owned list at a -/
theorem FsOk.putO {K : PySem.W.Frag} {H0 H : Hp} {fs : List (String × FV)} {hs : List (Str × V)} {as : List Addr} (h : FsOk K H0 H fs hs as) {f : String} {a : Addr} {ws : List V} {es : List D} (hp : H a = some (.lst ws)) (q : DpAll K H0 ws es) :
    ∃ as', (∀ b ∈ as', b = a ∨ b ∈ as) ∧ (as.Nodup → a ∉ as → as'.Nodup) ∧ FsOk K H0 H (putFV f (.own es) fs) (putF (Str.ofString f) (.ref a) hs) as' := by
  induction h with
  | nil => exact ⟨[a], fun b h => .inl (List.mem_singleton.mp h), fun _ _ => by simp, .own hp q .nil⟩
  | @val g d' y fs hs as hd hr ih =>
    obtain ⟨as', h1, h2, h3⟩ := ih
    unfold putFV putF
    by_cases e : g = f
    · subst e
      simp only [if_true]
      refine ⟨a :: as, fun b h => (List.mem_cons.mp h), fun h n => List.nodup_cons.mpr ⟨n, h⟩, .own hp q hr⟩
    · have e2 : ¬ (Str.ofString g = Str.ofString f) := fun z => e (ofString_inj.mp z)
      simp only [if_neg e, if_neg e2]
      exact ⟨as', h1, h2, .val hd h3⟩
  | @own g ds p vs fs hs as hp' hd hr ih =>
    obtain ⟨as', h1, h2, h3⟩ := ih
    unfold putFV putF
    by_cases e : g = f
    · subst e
      simp only [if_true]
      refine ⟨a :: as, fun b h => ?_, fun h n => ?_, .own hp q hr⟩
      · rcases List.mem_cons.mp h with z | z
        · exact .inl z
        · exact .inr (List.mem_cons_of_mem _ z)
      · have h' := List.nodup_cons.mp h
        exact List.nodup_cons.mpr ⟨fun z => n (List.mem_cons_of_mem _ z), h'.2⟩
    · have e2 : ¬ (Str.ofString g = Str.ofString f) := fun z => e (ofString_inj.mp z)
      simp only [if_neg e, if_neg e2]
      refine ⟨p :: as', fun b h => ?_, fun h n => ?_, .own hp' hd h3⟩
      · rcases List.mem_cons.mp h with z | z
        · exact .inr (z ▸ List.mem_cons_self)
        · rcases h1 b z with z | z
          · exact .inl z
          · exact .inr (List.mem_cons_of_mem _ z)
      · have h' := List.nodup_cons.mp h
        refine List.nodup_cons.mpr ⟨fun z => ?_, h2 h'.2 fun z => n (List.mem_cons_of_mem _ z)⟩
        rcases h1 p z with z | z
        · exact n (z ▸ List.mem_cons_self)
        · exact h'.1 z
end Y

/-! Y3: how the variables lie in the frame and the heap. -/
namespace Y
open PySem L2 PyProof.Rows

/-- a def's entry: F what it may change, Z what must stay out of the part that is kept, the heaps as they were -/
structure Base where
  F : Addr → Prop
  Z : Addr → Prop
  H0 : Hp
  H : Hp
def SlotOk (K : PySem.W.Frag) (mg : Str → Option Value) (B : Base) (H0 H : Hp) : SV → Option V → List Addr → Prop
  | .un, _, as => as = []
  | .val d, v, as => as = [] ∧ ∃ x, v = some x ∧ Dp K H0 x d
  | .own ds, v, as => ∃ p vs, v = some (.ref p) ∧ as = [p] ∧ H p = some (.lst vs) ∧ DpAll K H0 vs ds ∧ ¬ B.Z p
  | .obj C fs, v, as => ∃ p Ca dx hs bs, v = some (.ref p) ∧ as = p :: bs ∧ mg (Str.ofString C) = some (.ref Ca) ∧ H p = some (.ins Ca dx hs) ∧ FsOk K H0 H fs hs bs
structure Frame (B : Base) (H0 H : Hp) : Prop where
  sub : Same H0 H
  a : Same B.H0 H0
  alive : ∀ x, B.H x ≠ none → H x ≠ none
  z : ∀ x, B.Z x → H x ≠ none ∧ H0 x = none
  b : ∀ x o, ¬ B.F x → B.H x = some o → H x = some o
structure RelO (K : PySem.W.Frag) (mg : Str → Option Value) (B : Base) (env : Env) (σ : L2.St) (H0 H : Hp) (ow : Nat → List Addr) : Prop where
  fr : Frame B H0 H
  len : env.length = σ.length
  slot : ∀ i, SlotOk K mg B H0 H (env.getD i .un) (σ[i]?.join) (ow i)
  nd : ∀ i, (ow i).Nodup
  dj : ∀ i j a, i ≠ j → a ∈ ow i → a ∉ ow j
  fre : ∀ i a, a ∈ ow i → H0 a = none ∧ (B.F a ∨ B.H a = none)
def Rel (K : PySem.W.Frag) (mg : Str → Option Value) (B : Base) (env : Env) (σ : L2.St) (H0 H : Hp) : Prop := ∃ ow, RelO K mg B env σ H0 H ow

section
variable {K : PySem.W.Frag} {mg : Str → Option Value} {B : Base} {env : Env} {σ : L2.St} {H0 H H0' H' : Hp} {ow : Nat → List Addr}
theorem SlotOk.there {sv : SV} {v : Option V} {as : List Addr} (h : SlotOk K mg B H0 H sv v as) : ∀ a ∈ as, ∃ o, H a = some o := by
  intro a ha
  cases sv with
  | un =>
    rw [show as = [] from h] at ha
    cases ha
  | val d =>
    rw [h.1] at ha
    cases ha
  | own ds =>
    obtain ⟨p, vs, _, rfl, hp, _⟩ := h
    rw [List.mem_singleton.mp ha]
    exact ⟨_, hp⟩
  | obj C fs =>
    obtain ⟨p, Ca, dx, hs, bs, _, rfl, _, hp, hf⟩ := h
    rcases List.mem_cons.mp ha with e | e
    · rw [e]
      exact ⟨_, hp⟩
    · obtain ⟨vs, q⟩ := hf.there a e
      exact ⟨_, q⟩
theorem SlotOk.mono {sv : SV} {v : Option V} {as : List Addr} (e0 : Same H0 H0') (k : ∀ a ∈ as, ∀ o, H a = some o → H' a = some o) (h : SlotOk K mg B H0 H sv v as) : SlotOk K mg B H0' H' sv v as := by
  cases sv with
  | un => exact h
  | val d =>
    obtain ⟨h1, x, h2, h3⟩ := h
    exact ⟨h1, x, h2, dp_same e0 _ _ h3⟩
  | own ds =>
    obtain ⟨p, vs, h1, h2, h3, h4, h5⟩ := h
    exact ⟨p, vs, h1, h2, k p (by rw [h2]; exact List.mem_cons_self) _ h3, dps_same e0 _ _ h4, h5⟩
  | obj C fs =>
    obtain ⟨p, Ca, dx, hs, bs, h1, h2, h3, h4, h5⟩ := h
    exact ⟨p, Ca, dx, hs, bs, h1, h2, h3, k p (by rw [h2]; exact List.mem_cons_self) _ h4, h5.mono e0 fun a ha => k a (by rw [h2]; exact List.mem_cons_of_mem _ ha)⟩
theorem Frame.grow (f : Frame B H0 H) (g : Grow H0 H H0' H') : Frame B H0' H' :=
  ⟨g.c, f.a.trans g.a, fun x h => same_ne g.b (f.alive x h), fun x h => ⟨same_ne g.b (f.z x h).1, g.d x (f.z x h).1 (f.z x h).2⟩, fun x o h1 h2 => g.b _ _ (f.b x o h1 h2)⟩
theorem RelO.grow (r : RelO K mg B env σ H0 H ow) (g : Grow H0 H H0' H') : RelO K mg B env σ H0' H' ow :=
  ⟨r.fr.grow g, r.len, fun i => (r.slot i).mono g.a fun a _ o e => g.b _ _ e, r.nd, r.dj, fun i a h => by
    obtain ⟨o, q⟩ := (r.slot i).there a h
    exact ⟨g.d a (by rw [q]; simp) (r.fre i a h).1, (r.fre i a h).2⟩⟩
theorem Rel.grow (r : Rel K mg B env σ H0 H) (g : Grow H0 H H0' H') : Rel K mg B env σ H0' H' := r.elim fun ow r => ⟨ow, r.grow g⟩
theorem Rel.sub (r : Rel K mg B env σ H0 H) : Same H0 H := r.elim fun _ r => r.fr.sub
theorem join_some {α : Type} {o : Option (Option α)} {a : α} (h : o.join = some a) : o = some (some a) := by
  cases o with
  | none => cases h
  | some o => cases o with
    | none => cases h
    | some b => cases h; rfl
theorem Rel.get (r : Rel K mg B env σ H0 H) {i : Nat} {d : D} (e : env.getD i .un = .val d) : ∃ v, σ[i]? = some (some v) ∧ Dp K H0 v d := by
  obtain ⟨ow, r⟩ := r
  have h := r.slot i
  rw [e] at h
  obtain ⟨_, x, h2, h3⟩ := h
  exact ⟨x, join_some h2, h3⟩
theorem getV_ok {i : Nat} {d : D} (h : getV env i = .ok d) : env.getD i .un = .val d := by
  unfold getV at h
  split at h
  · rename_i d' e
    cases h
    exact e
  · cases h
theorem getD_un {i : Nat} (h : env.length ≤ i) : env.getD i .un = .un := by
  rw [List.getD_eq_getElem?_getD, List.getElem?_eq_none h]
  rfl
theorem getD_lt {i : Nat} (h : env.getD i .un ≠ .un) : i < env.length := by
  by_cases q : i < env.length
  · exact q
  · exact absurd (getD_un (by omega)) h
theorem set_getD {i j : Nat} {sv : SV} (hi : i < env.length) : (env.set i sv).getD j .un = if j = i then sv else env.getD j .un := by
  rw [List.getD_eq_getElem?_getD, List.getD_eq_getElem?_getD]
  by_cases q : j = i
  · subst q
    rw [if_pos rfl, List.getElem?_set_self hi]
    rfl
  · rw [if_neg q, List.getElem?_set_ne (Ne.symm q)]
theorem set_join {i j : Nat} {v : Option V} (hi : i < σ.length) : (σ.set i v)[j]?.join = if j = i then v else σ[j]?.join := by
  by_cases q : j = i
  · subst q
    rw [if_pos rfl, List.getElem?_set_self hi]
    rfl
  · rw [if_neg q, List.getElem?_set_ne (Ne.symm q)]
/-- what all variables but the one in slot i have stays; that one gets a new value -/
theorem RelO.put (r : RelO K mg B env σ H0 H ow) (i : Nat) (v : V) (sv : SV) (as : List Addr) (h0 : Same H0 H0') (hs : Same H0' H') (hk : ∀ a o, a ∉ ow i → H a = some o → H' a = some o) (hal : ∀ a, H a ≠ none → H' a ≠ none)
    (hn : ∀ a, H a ≠ none → H0 a = none → H0' a = none) (hsl : SlotOk K mg B H0' H' sv (some v) as) (hnd : as.Nodup) (hin : ∀ a ∈ as, a ∈ ow i ∨ H a = none) (ha0 : ∀ a ∈ as, H0' a = none) : Rel K mg B (env.set i sv) (σ.set i (some v)) H0' H' := by
  have fr : Frame B H0' H' := ⟨hs, r.fr.a.trans h0, fun x h => hal x (r.fr.alive x h), fun x h => ⟨hal x (r.fr.z x h).1, hn x (r.fr.z x h).1 (r.fr.z x h).2⟩, fun x o h1 h2 => hk x o (fun z => by
    rcases (r.fre i x z).2 with q | q
    · exact h1 q
    · rw [q] at h2
      cases h2) (r.fr.b x o h1 h2)⟩
  have old : ∀ j, j ≠ i → SlotOk K mg B H0' H' (env.getD j .un) (σ[j]?.join) (ow j) := fun j hj => (r.slot j).mono h0 fun a ha o e => hk a o (fun z => r.dj j i a hj ha z) e
  have oldn : ∀ j, ∀ a ∈ ow j, H0' a = none := fun j a ha => by
    obtain ⟨o, q⟩ := (r.slot j).there a ha
    exact hn a (by rw [q]; simp) (r.fre j a ha).1
  by_cases hi : i < env.length
  · have hi' : i < σ.length := by rw [← r.len]; exact hi
    refine ⟨fun j => if j = i then as else ow j, fr, by simp [r.len], fun j => ?_, fun j => ?_, fun j k a hjk ha => ?_, fun j a ha => ?_⟩
    · rw [set_getD hi, set_join hi']
      by_cases q : j = i
      · simp only [if_pos q]
        exact hsl
      · simp only [if_neg q]
        exact old j q
    · by_cases q : j = i
      · simp only [if_pos q]
        exact hnd
      · simp only [if_neg q]
        exact r.nd j
    · by_cases q : j = i
      · by_cases q2 : k = i
        · exact absurd (q.trans q2.symm) hjk
        · simp only [if_pos q] at ha
          simp only [if_neg q2]
          intro z
          rcases hin a ha with z1 | z1
          · exact r.dj i k a (fun e => q2 e.symm) z1 z
          · obtain ⟨o, z2⟩ := (r.slot k).there a z
            rw [z1] at z2
            cases z2
      · simp only [if_neg q] at ha
        by_cases q2 : k = i
        · simp only [if_pos q2]
          intro z
          rcases hin a z with z1 | z1
          · exact r.dj j i a q ha z1
          · obtain ⟨o, z2⟩ := (r.slot j).there a ha
            rw [z1] at z2
            cases z2
        · simp only [if_neg q2]
          exact r.dj j k a hjk ha
    · by_cases q : j = i
      · simp only [if_pos q] at ha
        refine ⟨ha0 a ha, ?_⟩
        rcases hin a ha with z | z
        · exact (r.fre i a z).2
        · right
          cases y : B.H a with
          | none => rfl
          | some o => exact absurd z (r.fr.alive a (by rw [y]; simp))
      · simp only [if_neg q] at ha
        exact ⟨oldn j a ha, (r.fre j a ha).2⟩
  · rw [List.set_eq_of_length_le (by omega), List.set_eq_of_length_le (by rw [← r.len]; omega)]
    have hun : env.getD i .un = .un := getD_un (by omega)
    have hoi : ow i = [] := by
      have := r.slot i
      rw [hun] at this
      exact this
    refine ⟨ow, fr, r.len, fun j => ?_, r.nd, r.dj, fun j a ha => ⟨oldn j a ha, (r.fre j a ha).2⟩⟩
    by_cases q : j = i
    · subst q
      rw [hun]
      exact hoi
    · exact old j q
theorem Rel.set (r : Rel K mg B env σ H0 H) (i : Nat) {v : V} {d : D} (h : Dp K H0 v d) : Rel K mg B (env.set i (.val d)) (σ.set i (some v)) H0 H := by
  obtain ⟨ow, r⟩ := r
  exact r.put i v (.val d) [] (.refl _) r.fr.sub (fun _ _ _ e => e) (fun _ h => h) (fun _ _ h => h) ⟨rfl, v, rfl, h⟩ List.nodup_nil (fun a h => by cases h) (fun a h => by cases h)
/-- a variable forgotten -/
theorem Rel.wipe1 (r : Rel K mg B env σ H0 H) (i : Nat) : Rel K mg B (env.set i .un) (σ.set i none) H0 H := by
  obtain ⟨ow, r⟩ := r
  by_cases hi : i < env.length
  · have hi' : i < σ.length := by rw [← r.len]; exact hi
    refine ⟨fun j => if j = i then [] else ow j, r.fr, by simp [r.len], fun j => ?_, fun j => ?_, fun j k a hjk ha => ?_, fun j a ha => ?_⟩
    · rw [set_getD hi, set_join hi']
      by_cases q : j = i
      · simp only [if_pos q]
        exact rfl
      · simp only [if_neg q]
        exact r.slot j
    · by_cases q : j = i
      · simp only [if_pos q]
        exact List.nodup_nil
      · simp only [if_neg q]
        exact r.nd j
    · by_cases q : j = i
      · simp only [if_pos q] at ha
        cases ha
      · simp only [if_neg q] at ha
        by_cases q2 : k = i
        · simp only [if_pos q2]
          intro z
          cases z
        · simp only [if_neg q2]
          exact r.dj j k a hjk ha
    · by_cases q : j = i
      · simp only [if_pos q] at ha
        cases ha
      · simp only [if_neg q] at ha
        exact r.fre j a ha
  · rw [List.set_eq_of_length_le (by omega), List.set_eq_of_length_le (by rw [← r.len]; omega)]
    exact ⟨ow, r⟩
theorem Rel.wipe (r : Rel K mg B env σ H0 H) : ∀ is : List Nat, Rel K mg B (wipeE env is) (L2.wipe σ is) H0 H
  | [] => r
  | i :: is => (Rel.wipe r is).wipe1 i
/-- an owned list made fast -/
theorem Rel.freeze1 (r : Rel K mg B env σ H0 H) (i : Nat) : ∃ H0', Same H0 H0' ∧ Rel K mg B (freeze1 i env) σ H0' H := by
  unfold Y.freeze1
  split
  · rename_i ds e
    obtain ⟨ow, r⟩ := r
    have h := r.slot i
    rw [e] at h
    obtain ⟨p, vs, h1, h2, h3, h4, h5⟩ := h
    have hp : p ∈ ow i := by rw [h2]; exact List.mem_cons_self
    have hp0 := (r.fre i p hp).1
    refine ⟨upd H0 p (.lst vs), same_upd hp0, ?_⟩
    have hσ : σ = σ.set i (some (V.ref p)) := by
      refine List.ext_getElem? fun j => ?_
      by_cases q : j = i
      · subst q
        have hi : j < σ.length := by rw [← r.len]; exact getD_lt (by rw [e]; simp)
        rw [List.getElem?_set_self hi, join_some h1]
      · rw [List.getElem?_set_ne (Ne.symm q)]
    rw [hσ]
    -- the list is kept from here on
    have hs : Same (upd H0 p (.lst vs)) H := fun b o q => by
      by_cases z : b = p
      · subst z
        rw [upd_same] at q
        rw [← q]
        exact h3
      · rw [upd_ne z] at q
        exact r.fr.sub _ _ q
    have old : ∀ j a, j ≠ i → a ∈ ow j → a ≠ p := fun j a hj ha z => r.dj j i a hj ha (z ▸ hp)
    refine ⟨fun j => if j = i then [] else ow j, ⟨hs, r.fr.a.trans (same_upd hp0), r.fr.alive, fun x x1 => ⟨(r.fr.z x x1).1, ?_⟩, r.fr.b⟩, by simp [r.len], fun j => ?_, fun j => ?_, fun j k a hjk ha => ?_, fun j a ha => ?_⟩
    · by_cases z : x = p
      · subst z
        exact absurd x1 h5
      · rw [upd_ne z]
        exact (r.fr.z x x1).2
    · have hi : i < env.length := getD_lt (by rw [e]; simp)
      rw [set_getD hi, set_join (by rw [← r.len]; exact hi)]
      by_cases q : j = i
      · simp only [if_pos q]
        exact ⟨rfl, .ref p, rfl, .lst (SqL.of upd_same) (dps_same (same_upd hp0) _ _ h4)⟩
      · simp only [if_neg q]
        exact (r.slot j).mono (same_upd hp0) fun a _ o z => z
    · by_cases q : j = i
      · simp only [if_pos q]
        exact List.nodup_nil
      · simp only [if_neg q]
        exact r.nd j
    · by_cases q : j = i
      · simp only [if_pos q] at ha
        cases ha
      · simp only [if_neg q] at ha
        by_cases q2 : k = i
        · simp only [if_pos q2]
          intro z
          cases z
        · simp only [if_neg q2]
          exact r.dj j k a hjk ha
    · by_cases q : j = i
      · simp only [if_pos q] at ha
        cases ha
      · simp only [if_neg q] at ha
        refine ⟨?_, (r.fre j a ha).2⟩
        rw [upd_ne (old j a q ha)]
        exact (r.fre j a ha).1
  · exact ⟨H0, .refl _, r⟩
theorem Rel.freeze (r : Rel K mg B env σ H0 H) (is : List Nat) : ∃ H0', Same H0 H0' ∧ Rel K mg B (freeze is env) σ H0' H := by
  induction is generalizing env H0 with
  | nil => exact ⟨H0, .refl _, r⟩
  | cons i is ih =>
    obtain ⟨H1, s1, r1⟩ := r.freeze1 i
    obtain ⟨H2, s2, r2⟩ := ih r1
    exact ⟨H2, s1.trans s2, r2⟩
/-- what was only known for a while -/
theorem Rel.back {H1 H1' : Hp} (r : Rel K mg B env σ H0 H) (g : Grow H1 H H1' H') : Rel K mg B env σ H0 H' := r.grow ⟨.refl _, g.b, r.sub.trans g.b, fun _ _ h => h⟩
/-- from here on: what holds now is the entry -/
def Base.now (B : Base) (H0 H : Hp) : Base := ⟨fun a => B.F a ∨ B.H a = none, B.Z, H0, H⟩
theorem SlotOk.base {B B' : Base} (h : ∀ p, ¬ B.Z p → ¬ B'.Z p) {sv : SV} {v : Option V} {as : List Addr} (q : SlotOk K mg B H0 H sv v as) : SlotOk K mg B' H0 H sv v as := by
  cases sv with
  | un => exact q
  | val d => exact q
  | own ds =>
    obtain ⟨p, vs, h1, h2, h3, h4, h5⟩ := q
    exact ⟨p, vs, h1, h2, h3, h4, h _ h5⟩
  | obj C fs => exact q
theorem Rel.now (r : Rel K mg B env σ H0 H) : Rel K mg (B.now H0 H) env σ H0 H := by
  obtain ⟨ow, r⟩ := r
  exact ⟨ow, ⟨r.fr.sub, .refl _, fun _ h => h, r.fr.z, fun _ _ _ h => h⟩, r.len, fun i => (r.slot i).base fun _ h => h, r.nd, r.dj, fun i a h => ⟨(r.fre i a h).1, .inl (r.fre i a h).2⟩⟩
theorem Frame.now (f : Frame B H0 H) {H1 H1' : Hp} (g : Frame (B.now H0 H) H1 H1') : Frame B H1 H1' :=
  ⟨g.sub, f.a.trans g.a, fun x h => g.alive x (f.alive x h), g.z, fun x o h1 h2 => g.b x o (fun z => z.elim h1 fun z => by rw [h2] at z; cases z) (f.b x o h1 h2)⟩
theorem Rel.then (f : Frame B H0 H) {env' : Env} {σ' : L2.St} {H1 H1' : Hp} (r : Rel K mg (B.now H0 H) env' σ' H1 H1') : Rel K mg B env' σ' H1 H1' := by
  obtain ⟨ow, r⟩ := r
  refine ⟨ow, f.now r.fr, r.len, fun i => (r.slot i).base fun _ h => h, r.nd, r.dj, fun i a h => ⟨(r.fre i a h).1, ?_⟩⟩
  rcases (r.fre i a h).2 with z | z
  · exact z
  · right
    cases y : B.H a with
    | none => rfl
    | some o => exact absurd z (f.alive a (by rw [y]; simp))
end
end Y

/-! Y4: operators, comparisons, built-in functions over data. -/
namespace Y
open PySem L2 PyProof.Rows

def rD (K : PySem.W.Frag) (g : D → D → R D) : R2 := fun x y H Q => ∃ H0 dx dy d, Same H0 H ∧ Dp K H0 x dx ∧ Dp K H0 y dy ∧ g dx dy = .ok d ∧ ∀ v H0' H', Grow H0 H H0' H' → Dp K H0' v d → Q v H'
def rB (K : PySem.W.Frag) (g : D → D → R Bool) : R2 := fun x y H Q => ∃ H0 dx dy b, Same H0 H ∧ Dp K H0 x dx ∧ Dp K H0 y dy ∧ g dx dy = .ok b ∧ Q (.bl b) H
def rC (K : PySem.W.Frag) (g : List D → R D) : List V → Hp → VK → Prop := fun vs H Q => ∃ H0 ds d, Same H0 H ∧ DpAll K H0 vs ds ∧ g ds = .ok d ∧ ∀ v H0' H', Grow H0 H H0' H' → Dp K H0' v d → Q v H'
section
variable {X : Cx}
theorem OpR.imp {f : Value → Value → Sem Value} {r r' : R2} (h : OpR X f r) (k : ∀ x y H Q, r' x y H Q → r x y H Q) : OpR X f r' :=
  fun pins s σ H x y v u Q I rx ry q => h pins s σ H x y v u Q I rx ry (k _ _ _ _ q)
/-- ints alone -/
theorem opInt {f : Value → Value → Sem Value} {C : Int → Int → Prop} {g : Int → Int → Int} {G : D → D → R D} (h : OpR X f (rI C fun i j => .int (g i j)))
    (k : ∀ x y d, G x y = .ok d → ∃ i j, x = .int i ∧ y = .int j ∧ C i j ∧ d = .int (g i j)) : OpR X f (rD X.K G) :=
  OpR.imp h fun x y H Q ⟨H0, dx, dy, d, s, hx, hy, e, q⟩ => by
    obtain ⟨i, j, rfl, rfl, c, rfl⟩ := k _ _ _ e
    cases hx
    cases hy
    exact ⟨i, j, rfl, rfl, c, q _ _ _ (Grow.refl s) (.int _)⟩
theorem op_addL : OpR X (binaryOp .Add) (fun x y H Q => ∃ a b xs ys, x = .ref a ∧ y = .ref b ∧ SqL X.K H a xs ∧ SqL X.K H b ys ∧ xs.length + ys.length ≤ sizeLine ∧ ∀ p, H p = none → Q (.ref p) (upd H p (.lst (xs ++ ys)))) := by
  intro pins s σ H x y v u Q I rx ry h
  obtain ⟨a, b, xs, ys, rfl, rfl, ha, hb, hz, q⟩ := h
  cases rx
  cases ry
  obtain ⟨its, r1, ⟨⟨cls, dd, data, sl⟩, n, ho, hc, _, hd⟩, _⟩ := I.list ha
  obtain ⟨its2, r2, ⟨⟨cls2, dd2, data2, sl2⟩, n2, ho2, hc2, _, hd2⟩, _⟩ := I.list hb
  simp only at hc hd hc2 hd2
  subst hc hd hc2 hd2
  have l1 := r1.length
  have l2 := r2.length
  have e : its.toArray ++ its2.toArray = (its ++ its2).toArray := by simp
  refine concat_meets ⟨_, ho, rfl⟩ ⟨_, ho2, rfl⟩ noFill_list_add seq_list_add PySem.F.slot_list_add PySem.F.entry_list_add (PySem.F.args_list_add_2 _ _) (list_addW a b its.toArray its2.toArray n n2 dd dd2 sl sl2 (by simp only [List.size_toArray]; omega)) ⟨ho, ho2, ?_⟩
  rw [e]
  exact ⟨.ref _, _, I.lnew (t' := s.toks) (r1.append r2) (by rw [List.length_append]; omega), rfl, q _ I.fresh⟩
theorem dp_int {K : PySem.W.Frag} {H : Hp} {v : V} {i : Int} (h : Dp K H v (.int i)) : v = .int i := by cases h; rfl
theorem dp_str {K : PySem.W.Frag} {H : Hp} {v : V} {x : Str} (h : Dp K H v (.str x)) : v = .str x := by cases h; rfl
theorem dp_bool {K : PySem.W.Frag} {H : Hp} {v : V} {b : Bool} (h : Dp K H v (.bool b)) : v = .bl b := by cases h; rfl
theorem dp_non {K : PySem.W.Frag} {H : Hp} {v : V} (h : Dp K H v .none) : v = .non := by cases h; rfl
theorem dp_list {K : PySem.W.Frag} {H : Hp} {v : V} {ds : List D} (h : Dp K H v (.list ds)) : ∃ a xs, v = .ref a ∧ SqL K H a xs ∧ DpAll K H xs ds := by
  cases h with
  | lst a b => exact ⟨_, _, rfl, a, b⟩
theorem dp_tup {K : PySem.W.Frag} {H : Hp} {v : V} {ds : List D} (h : Dp K H v (.tuple ds)) : ∃ a xs, v = .ref a ∧ SqT K H a xs ∧ DpAll K H xs ds := by
  cases h with
  | tup a b => exact ⟨_, _, rfl, a, b⟩
/-- a new list, a new tuple -/
theorem dp_newL {K : PySem.W.Frag} {H0 H : Hp} {p : Addr} {xs : List V} {ds : List D} (s : Same H0 H) (h : H p = none) (q : DpAll K H0 xs ds) : Dp K (upd H0 p (.lst xs)) (.ref p) (.list ds) :=
  .lst (SqL.of upd_same) (dps_same (same_upd (s.free h)) _ _ q)
theorem dp_newT {K : PySem.W.Frag} {H0 H : Hp} {p : Addr} {xs : List V} {ds : List D} (s : Same H0 H) (h : H p = none) (q : DpAll K H0 xs ds) : Dp K (upd H0 p (.tup xs)) (.ref p) (.tuple ds) :=
  .tup (SqT.of upd_same) (dps_same (same_upd (s.free h)) _ _ q)
theorem op_addD : OpR X (binaryOp .Add) (rD X.K addD) := by
  intro pins s σ H x y v u Q I rx ry h
  obtain ⟨H0, dx, dy, d, s0, hx, hy, e, q⟩ := h
  unfold addD at e
  split at e
  · cases e
    rw [dp_int hx] at rx
    rw [dp_int hy] at ry
    exact op_add pins s σ H _ _ v u Q I rx ry ⟨_, _, rfl, rfl, q _ _ _ (Grow.refl s0) (.int _)⟩
  · cases e
    rw [dp_int hx] at rx
    rw [dp_bool hy] at ry
    exact op_add_ib pins s σ H _ _ v u Q I rx ry ⟨_, _, rfl, rfl, q _ _ _ (Grow.refl s0) (.int _)⟩
  · split at e
    · rename_i hz
      cases e
      rw [dp_str hx] at rx
      rw [dp_str hy] at ry
      exact op_add_str pins s σ H _ _ v u Q I rx ry ⟨_, _, rfl, rfl, hz, q _ _ _ (Grow.refl s0) (.str _)⟩
    · cases e
  · split at e
    · rename_i hz
      cases e
      obtain ⟨a, xs, rfl, ha, ea⟩ := dp_list hx
      obtain ⟨b, ys, rfl, hb, eb⟩ := dp_list hy
      refine op_addL pins s σ H _ _ v u Q I rx ry ⟨a, b, xs, ys, rfl, rfl, s0.seq ha, s0.seq hb, by rw [dps_length ea, dps_length eb]; exact hz, fun p hp => ?_⟩
      exact q _ _ _ (Grow.new s0 hp) (dp_newL s0 hp (dps_append ea eb))
    · cases e
  · split at e
    · rename_i ds1 ds2 hz
      cases e
      obtain ⟨a, xs, rfl, ha, ea⟩ := dp_tup hx
      obtain ⟨b, ys, rfl, hb, eb⟩ := dp_tup hy
      have la := dps_length ea
      have lb := dps_length eb
      refine op_catA pins s σ H _ _ v u Q I rx ry ⟨a, b, xs, ys, rfl, rfl, seqT_same s0 ha, seqT_same s0 hb, by rw [la, lb]; exact hz, fun z => ?_, fun z1 z2 => ?_, fun _ _ p hp => ?_⟩
      · rw [z] at la
        have e0 : ds1 = [] := List.eq_nil_of_length_eq_zero la.symm
        rw [e0] at q
        exact q _ _ _ (Grow.refl s0) (.tup hb eb)
      · rw [z2] at lb
        have e0 : ds2 = [] := List.eq_nil_of_length_eq_zero lb.symm
        rw [e0, List.append_nil] at q
        exact q _ _ _ (Grow.refl s0) (.tup ha ea)
      · exact q _ _ _ (Grow.new s0 hp) (dp_newT s0 hp (dps_append ea eb))
    · cases e
  · cases e
theorem op_subD : OpR X (binaryOp .Sub) (rD X.K subD) := opInt (C := fun _ _ => True) (g := fun i j => i - j) (OpR.imp op_sub fun _ _ _ _ ⟨i, j, a, b, _, q⟩ => ⟨i, j, a, b, q⟩) fun x y d e => by
  unfold subD at e
  split at e
  · cases e; exact ⟨_, _, rfl, rfl, trivial, rfl⟩
  · cases e
theorem op_mulD : OpR X (binaryOp .Mult) (rD X.K mulD) := opInt (C := IntMulOk) (g := fun i j => i * j) (opI fun _ _ _ _ _ _ _ hc q => mul_int q hc) fun x y d e => by
  unfold mulD at e
  split at e
  · split at e
    · rename_i h
      cases e; exact ⟨_, _, rfl, rfl, h, rfl⟩
    · cases e
  · cases e
theorem op_fdivD : OpR X (binaryOp .FloorDiv) (rD X.K fdivD) := opInt (C := fun i j => 0 < j ∧ Builtin.divisionGoesByPylong i j = false) (g := fun i j => i / j) (opI fun i j _ _ _ _ _ hc q =>
    floordiv_int (by omega) (by rw [Int.fdiv_eq_ediv_of_nonneg i (by omega)]; exact q) (.inl hc.2)) fun x y d e => by
  unfold fdivD at e
  split at e
  · split at e
    · rename_i h
      cases e; exact ⟨_, _, rfl, rfl, h, rfl⟩
    · cases e
  · cases e
theorem op_modD : OpR X (binaryOp .Mod) (rD X.K modD) := opInt (C := fun _ j => 0 < j) (g := fun i j => i % j) op_mod fun x y d e => by
  unfold modD at e
  split at e
  · split at e
    · rename_i h
      cases e; exact ⟨_, _, rfl, rfl, h, rfl⟩
    · cases e
  · cases e
theorem op_powD : OpR X (binaryOp .Pow) (rD X.K powD) := opInt (C := CPow) (g := fun i j => i ^ j.toNat) op_pow fun x y d e => by
  unfold powD at e
  split at e
  · split at e
    · rename_i h
      cases e; exact ⟨_, _, rfl, rfl, h, rfl⟩
    · cases e
  · cases e
theorem op_shlD : OpR X (binaryOp .LShift) (rD X.K shlD) := opInt (C := CShl) (g := fun i j => i * 2 ^ j.toNat) op_shlW fun x y d e => by
  unfold shlD at e
  split at e
  · split at e
    · rename_i h
      cases e; exact ⟨_, _, rfl, rfl, h, rfl⟩
    · cases e
  · cases e
theorem op_shrD : OpR X (binaryOp .RShift) (rD X.K shrD) := opInt (C := fun _ j => 0 ≤ j) (g := fun i j => i / 2 ^ j.toNat) op_shr fun x y d e => by
  unfold shrD at e
  split at e
  · split at e
    · rename_i h
      cases e; exact ⟨_, _, rfl, rfl, h, rfl⟩
    · cases e
  · cases e
theorem op_bandD : OpR X (binaryOp .BitAnd) (rD X.K bandD) := opInt (C := fun _ _ => True) (g := Builtin.bitAnd) (OpR.imp op_and fun _ _ _ _ ⟨i, j, a, b, _, q⟩ => ⟨i, j, a, b, q⟩) fun x y d e => by
  unfold bandD at e
  split at e
  · cases e; exact ⟨_, _, rfl, rfl, trivial, rfl⟩
  · cases e
theorem op_borD : OpR X (binaryOp .BitOr) (rD X.K borD) := opInt (C := fun _ _ => True) (g := Builtin.bitOr) (OpR.imp op_or fun _ _ _ _ ⟨i, j, a, b, _, q⟩ => ⟨i, j, a, b, q⟩) fun x y d e => by
  unfold borD at e
  split at e
  · cases e; exact ⟨_, _, rfl, rfl, trivial, rfl⟩
  · cases e
theorem op_bxorD : OpR X (binaryOp .BitXor) (rD X.K bxorD) := opInt (C := fun _ _ => True) (g := Builtin.bitXor) (OpR.imp op_xor fun _ _ _ _ ⟨i, j, a, b, _, q⟩ => ⟨i, j, a, b, q⟩) fun x y d e => by
  unfold bxorD at e
  split at e
  · cases e; exact ⟨_, _, rfl, rfl, trivial, rfl⟩
  · cases e
def boOp : BO → Operator
  | .add => .Add
  | .sub => .Sub
  | .mul => .Mult
  | .fdiv => .FloorDiv
  | .mod => .Mod
  | .pow => .Pow
  | .shl => .LShift
  | .shr => .RShift
  | .band => .BitAnd
  | .bor => .BitOr
  | .bxor => .BitXor
theorem op_binD : ∀ op : BO, OpR X (binaryOp (boOp op)) (rD X.K (binD op))
  | .add => op_addD
  | .sub => op_subD
  | .mul => op_mulD
  | .fdiv => op_fdivD
  | .mod => op_modD
  | .pow => op_powD
  | .shl => op_shlD
  | .shr => op_shrD
  | .band => op_bandD
  | .bor => op_borD
  | .bxor => op_bxorD

/-! ### comparisons -/
theorem dec_non : decide (V.non = V.non) = true := rfl
theorem op_eqB (hu : X.A.units + 64 < cLine) : OpR X (compareOp .Eq) (rB X.K eqB) := by
  intro pins s σ H x y v u Q I rx ry h
  obtain ⟨H0, dx, dy, b, s0, hx, hy, e, q⟩ := h
  unfold eqB at e
  split at e
  · cases e
    rw [dp_int hx] at rx
    rw [dp_int hy] at ry
    exact op_eq pins s σ H _ _ v u Q I rx ry ⟨rfl, by simpa using q⟩
  · cases e
    rw [dp_str hx] at rx
    rw [dp_str hy] at ry
    exact op_eq pins s σ H _ _ v u Q I rx ry ⟨rfl, by simpa using q⟩
  · cases e
    rw [dp_bool hx] at rx
    rw [dp_bool hy] at ry
    exact op_eq pins s σ H _ _ v u Q I rx ry ⟨rfl, by simpa using q⟩
  · cases e
    rw [dp_non hx] at rx
    rw [dp_non hy] at ry
    exact op_eq pins s σ H _ _ v u Q I rx ry ⟨rfl, q⟩
  · split at e
    · rename_i hz
      cases e
      exact op_eqD hu pins s σ H _ _ v u Q I rx ry ⟨_, _, dp_same s0 _ _ hx, dp_same s0 _ _ hy, hz.1, hz.2, q⟩
    · cases e
theorem op_neB (hu : X.A.units + 64 < cLine) : OpR X (compareOp .NotEq) (rB X.K fun x y => (eqB x y).bind fun b => .ok (!b)) := by
  intro pins s σ H x y v u Q I rx ry h
  obtain ⟨H0, dx, dy, b, s0, hx, hy, e, q⟩ := h
  obtain ⟨b', e1, e2⟩ := R.bind_ok e
  clear e
  cases e2
  have e := e1
  clear e1
  unfold eqB at e
  split at e
  · cases e
    rw [dp_int hx] at rx
    rw [dp_int hy] at ry
    exact op_ne pins s σ H _ _ v u Q I rx ry ⟨rfl, by simpa using q⟩
  · cases e
    rw [dp_str hx] at rx
    rw [dp_str hy] at ry
    exact op_ne pins s σ H _ _ v u Q I rx ry ⟨rfl, by simpa using q⟩
  · cases e
    rw [dp_bool hx] at rx
    rw [dp_bool hy] at ry
    exact op_ne pins s σ H _ _ v u Q I rx ry ⟨rfl, by simpa using q⟩
  · cases e
    rw [dp_non hx] at rx
    rw [dp_non hy] at ry
    exact op_ne pins s σ H _ _ v u Q I rx ry ⟨rfl, q⟩
  · split at e
    · rename_i hz
      cases e
      exact op_neD hu pins s σ H _ _ v u Q I rx ry ⟨_, _, dp_same s0 _ _ hx, dp_same s0 _ _ hy, hz.1, hz.2, q⟩
    · cases e
theorem op_inB (hu : X.A.units + 65 < cLine) : OpR X (compareOp .In) (rB X.K inB) := by
  intro pins s σ H x y v u Q I rx ry h
  obtain ⟨H0, dx, dy, b, s0, hx, hy, e, q⟩ := h
  unfold inB at e
  split at e
  · split at e
    · rename_i hz
      cases e
      exact op_inD hu pins s σ H _ _ v u Q I rx ry ⟨_, _, dp_same s0 _ _ hx, dp_same s0 _ _ hy, hz.1, hz.2, q⟩
    · cases e
  · split at e
    · cases e
      rw [dp_str hx] at rx
      rw [dp_str hy] at ry
      exact op_in_str pins s σ H _ _ v u Q I rx ry ⟨_, _, rfl, rfl, q⟩
    · cases e
  · cases e
theorem op_notinB (hu : X.A.units + 65 < cLine) : OpR X (compareOp .NotIn) (rB X.K fun x y => (inB x y).bind fun b => .ok (!b)) := by
  intro pins s σ H x y v u Q I rx ry h
  obtain ⟨H0, dx, dy, b, s0, hx, hy, e, q⟩ := h
  obtain ⟨b', e1, e2⟩ := R.bind_ok e
  clear e
  cases e2
  have e := e1
  clear e1
  unfold inB at e
  split at e
  · split at e
    · rename_i hz
      cases e
      exact op_notInD hu pins s σ H _ _ v u Q I rx ry ⟨_, _, dp_same s0 _ _ hx, dp_same s0 _ _ hy, hz.1, hz.2, q⟩
    · cases e
  · split at e
    · cases e
      rw [dp_str hx] at rx
      rw [dp_str hy] at ry
      exact op_notin_str pins s σ H _ _ v u Q I rx ry ⟨_, _, rfl, rfl, q⟩
    · cases e
  · cases e
def coOp : CO → CmpOp
  | .eq => .Eq
  | .ne => .NotEq
  | .lt => .Lt
  | .le => .LtE
  | .gt => .Gt
  | .ge => .GtE
  | .isN => .Is
  | .notN => .IsNot
  | .inn => .In
  | .notin => .NotIn
theorem dp_nonIff {K : PySem.W.Frag} {H : Hp} {v : V} {d : D} (h : Dp K H v d) (e : d ≠ .none) : v ≠ .non := by
  rintro rfl
  cases h
  exact e rfl
theorem opIntB {f : Value → Value → Sem Value} {g : Int → Int → Bool} {G : D → D → R Bool} (h : OpR X f (rI0 fun i j => .bl (g i j)))
    (k : ∀ x y d, G x y = .ok d → ∃ i j, x = .int i ∧ y = .int j ∧ d = g i j) : OpR X f (rB X.K G) :=
  OpR.imp h fun x y H Q ⟨H0, dx, dy, d, s, hx, hy, e, q⟩ => by
    obtain ⟨i, j, rfl, rfl, rfl⟩ := k _ _ _ e
    cases hx
    cases hy
    exact ⟨i, j, rfl, rfl, q⟩
theorem cmpB_ints {op : CO} {g : Int → Int → Bool} (h1 : ∀ i j, cmpB op (.int i) (.int j) = .ok (g i j)) (h2 : ∀ x y d, cmpB op x y = .ok d → ∃ i j, x = .int i ∧ y = .int j) : ∀ x y d, cmpB op x y = .ok d → ∃ i j, x = .int i ∧ y = .int j ∧ d = g i j := fun x y d e => by
  obtain ⟨i, j, rfl, rfl⟩ := h2 x y d e
  rw [h1] at e
  cases e
  exact ⟨i, j, rfl, rfl, rfl⟩
theorem op_cmpB (hu : X.A.units + 65 < cLine) : ∀ op : CO, OpR X (compareOp (coOp op)) (rB X.K (cmpB op))
  | .eq => op_eqB (by omega)
  | .ne => op_neB (by omega)
  | .lt => opIntB op_lt (cmpB_ints (fun _ _ => rfl) fun x y d e => by cases x <;> cases y <;> first | exact ⟨_, _, rfl, rfl⟩ | cases e)
  | .le => opIntB op_le (cmpB_ints (fun _ _ => rfl) fun x y d e => by cases x <;> cases y <;> first | exact ⟨_, _, rfl, rfl⟩ | cases e)
  | .gt => opIntB op_gt (cmpB_ints (fun _ _ => rfl) fun x y d e => by cases x <;> cases y <;> first | exact ⟨_, _, rfl, rfl⟩ | cases e)
  | .ge => opIntB op_ge (cmpB_ints (fun _ _ => rfl) fun x y d e => by cases x <;> cases y <;> first | exact ⟨_, _, rfl, rfl⟩ | cases e)
  | .inn => op_inB hu
  | .notin => op_notinB hu
  | .isN => by
    intro pins s σ H x y v u Q I rx ry h
    obtain ⟨H0, dx, dy, b, s0, hx, hy, e, q⟩ := h
    by_cases hn : dy = .none
    · subst hn
      refine op_isN pins s σ H x y v u Q I rx ry ⟨dp_non hy, ?_⟩
      by_cases hm : dx = .none
      · subst hm
        have e' : (R.ok true : R Bool) = .ok b := e
        cases e'
        rw [dp_non hx]
        exact q
      · have e' : (R.ok false : R Bool) = .ok b := by
          rw [← e]
          cases dx <;> first | rfl | exact absurd rfl hm
        cases e'
        rw [decide_eq_false (dp_nonIff hx hm)]
        exact q
    · have : ∃ i j, dx = .bool i ∧ dy = .bool j ∧ b = decide (i = j) := by
        cases dx <;> cases dy <;> first | exact absurd rfl hn | (cases e; exact ⟨_, _, rfl, rfl, rfl⟩) | cases e
      obtain ⟨i, j, rfl, rfl, rfl⟩ := this
      rw [dp_bool hx] at rx
      rw [dp_bool hy] at ry
      exact op_is_bl pins s σ H _ _ v u Q I rx ry ⟨_, _, rfl, rfl, q⟩
  | .notN => by
    intro pins s σ H x y v u Q I rx ry h
    obtain ⟨H0, dx, dy, b, s0, hx, hy, e, q⟩ := h
    by_cases hn : dy = .none
    · subst hn
      refine op_notN pins s σ H x y v u Q I rx ry ⟨dp_non hy, ?_⟩
      by_cases hm : dx = .none
      · subst hm
        have e' : (R.ok false : R Bool) = .ok b := e
        cases e'
        rw [dp_non hx]
        exact q
      · have e' : (R.ok true : R Bool) = .ok b := by
          rw [← e]
          cases dx <;> first | rfl | exact absurd rfl hm
        cases e'
        rw [decide_eq_false (dp_nonIff hx hm)]
        exact q
    · have : ∃ i j, dx = .bool i ∧ dy = .bool j ∧ b = !decide (i = j) := by
        cases dx <;> cases dy <;> first | exact absurd rfl hn | (cases e; exact ⟨_, _, rfl, rfl, rfl⟩) | cases e
      obtain ⟨i, j, rfl, rfl, rfl⟩ := this
      rw [dp_bool hx] at rx
      rw [dp_bool hy] at ry
      exact op_isnot_bl pins s σ H _ _ v u Q I rx ry ⟨_, _, rfl, rfl, q⟩
end
end Y

/-! Y5: truth, built-in functions, subscripts. -/
namespace Y
open PySem L2 PyProof.Rows

section
variable {K : PySem.W.Frag} {H0 H : Hp}
theorem truV_of {v : V} {d : D} {k : Bool} (s : Same H0 H) (h : Dp K H0 v d) (e : truthD d = .ok k) : TruV K v H k := by
  cases d with
  | none => cases e; rw [dp_non h]; exact rfl
  | bool b => cases e; rw [dp_bool h]; exact rfl
  | int i => cases e; rw [dp_int h]; exact rfl
  | str x =>
    unfold truthD at e
    simp only at e
    split at e
    · rename_i hz
      cases e
      rw [dp_str h]
      exact ⟨hz, rfl⟩
    · cases e
  | list xs =>
    cases e
    obtain ⟨a, vs, rfl, ha, hd⟩ := dp_list h
    refine .inl ⟨vs, s.seq ha, ?_⟩
    have l := dps_length hd
    cases vs <;> cases xs <;> first | rfl | (simp at l)
  | tuple xs =>
    cases e
    obtain ⟨a, vs, rfl, ha, hd⟩ := dp_tup h
    refine .inr (.inl ⟨vs, seqT_same s ha, ?_⟩)
    have l := dps_length hd
    cases vs <;> cases xs <;> first | rfl | (simp at l)
  | dict x => cases e
theorem dps_one {vs : List V} {d : D} (h : DpAll K H vs [d]) : ∃ v, vs = [v] ∧ Dp K H v d := by
  cases h with
  | cons a b => cases b; exact ⟨_, rfl, a⟩
theorem dps_two {vs : List V} {d e : D} (h : DpAll K H vs [d, e]) : ∃ v w, vs = [v, w] ∧ Dp K H v d ∧ Dp K H w e := by
  cases h with
  | cons a b =>
    obtain ⟨w, rfl, c⟩ := dps_one b
    exact ⟨_, _, rfl, a, c⟩
theorem maxL_mem : ∀ (i : Int) (r : List Int), maxL (i :: r) ∈ i :: r ∧ ∀ y ∈ i :: r, y ≤ maxL (i :: r)
  | i, [] => ⟨List.mem_cons_self, fun y h => by
    rcases List.mem_cons.mp h with e | e
    · subst e; exact Int.le_refl _
    · cases e⟩
  | i, j :: r => by
    obtain ⟨h1, h2⟩ := maxL_mem j r
    show (if maxL (j :: r) > i then maxL (j :: r) else i) ∈ _ ∧ ∀ y ∈ _, y ≤ (if maxL (j :: r) > i then maxL (j :: r) else i)
    split
    · refine ⟨List.mem_cons_of_mem _ h1, fun y h => ?_⟩
      rcases List.mem_cons.mp h with e | e
      · subst e; omega
      · exact h2 y e
    · refine ⟨List.mem_cons_self, fun y h => ?_⟩
      rcases List.mem_cons.mp h with e | e
      · subst e; exact Int.le_refl _
      · have := h2 y e; omega
theorem minL_mem : ∀ (i : Int) (r : List Int), minL (i :: r) ∈ i :: r ∧ ∀ y ∈ i :: r, minL (i :: r) ≤ y
  | i, [] => ⟨List.mem_cons_self, fun y h => by
    rcases List.mem_cons.mp h with e | e
    · subst e; exact Int.le_refl _
    · cases e⟩
  | i, j :: r => by
    obtain ⟨h1, h2⟩ := minL_mem j r
    show (if minL (j :: r) < i then minL (j :: r) else i) ∈ _ ∧ ∀ y ∈ _, (if minL (j :: r) < i then minL (j :: r) else i) ≤ y
    split
    · refine ⟨List.mem_cons_of_mem _ h1, fun y h => ?_⟩
      rcases List.mem_cons.mp h with e | e
      · subst e; omega
      · exact h2 y e
    · refine ⟨List.mem_cons_self, fun y h => ?_⟩
      rcases List.mem_cons.mp h with e | e
      · subst e; exact Int.le_refl _
      · have := h2 y e; omega
theorem bools_dps : ∀ {vs : List V} {ds : List D} {ns : List Bool}, DpAll K H vs ds → boolsOf ds = some ns → vs = ns.map V.bl
  | _, [], ns, h, e => by
    cases h
    have e' : (some [] : Option (List Bool)) = some ns := e
    cases e'
    rfl
  | _, d :: ds, ns, h, e => by
    cases h with
    | cons h1 h2 =>
      cases d with
      | bool i =>
        cases h1
        have e' : (boolsOf ds).map (i :: ·) = some ns := e
        cases q : boolsOf ds with
        | none => rw [q] at e'; cases e'
        | some ms =>
          rw [q] at e'
          cases e'
          rw [bools_dps h2 q]
          rfl
      | none => cases e
      | int b => cases e
      | str x => cases e
      | list x => cases e
      | tuple x => cases e
      | dict x => cases e
end
section
variable {X : Cx}
theorem CallR.imp {f : Value} {r r' : List V → Hp → VK → Prop} (h : CallR X f r) (k : ∀ xs H Q, r' xs H Q → r xs H Q) : CallR X f r' :=
  fun pins s σ H xs us Q I rx q => h pins s σ H xs us Q I rx (k _ _ _ q)
/-- one argument -/
theorem call1 {f : Value} {r : List V → Hp → VK → Prop} {g : D → R D} (h : CallR X f r)
    (k : ∀ (H0 H : Hp) (x : V) (dx d : D) (Q : VK), Same H0 H → Dp X.K H0 x dx → g dx = .ok d → (∀ v H0' H', Grow H0 H H0' H' → Dp X.K H0' v d → Q v H') → r [x] H Q) : CallR X f (rC X.K (bi1 g)) :=
  CallR.imp h fun xs H Q ⟨H0, ds, d, s, hd, e, q⟩ => by
    unfold bi1 at e
    split at e
    · obtain ⟨v, rfl, hv⟩ := dps_one hd
      exact k H0 H v _ d Q s hv e q
    · cases e
theorem call_lenD : CallR X (.builtin "len") (rC X.K (bi1 lenD)) := call1 call_len fun H0 H x dx d Q s hx e q => by
  unfold lenD at e
  split at e
  · cases e
    obtain ⟨a, vs, rfl, ha, hd⟩ := dp_list hx
    refine ⟨_, vs.length, rfl, .inl ⟨vs, s.seq ha, rfl⟩, ?_⟩
    rw [dps_length hd]
    exact q _ _ _ (Grow.refl s) (.int _)
  · cases e
    obtain ⟨a, vs, rfl, ha, hd⟩ := dp_tup hx
    refine ⟨_, vs.length, rfl, .inr ⟨vs, seqT_same s ha, rfl⟩, ?_⟩
    rw [dps_length hd]
    exact q _ _ _ (Grow.refl s) (.int _)
  · split at e
    · rename_i hz
      cases e
      rw [dp_str hx]
      exact ⟨_, _, rfl, ⟨hz, rfl⟩, q _ _ _ (Grow.refl s) (.int _)⟩
    · cases e
  · cases e
theorem call_intD : CallR X (.type "int") (rC X.K (bi1 intD)) := call1 call_int1 fun H0 H x dx d Q s hx e q => by
  unfold intD at e
  split at e
  · cases e
    rw [dp_int hx]
    exact .inl ⟨_, rfl, q _ _ _ (Grow.refl s) (.int _)⟩
  · cases e
    rw [dp_bool hx]
    exact .inr ⟨_, rfl, q _ _ _ (Grow.refl s) (.int _)⟩
  · cases e
theorem call_boolD : CallR X (.type "bool") (rC X.K (bi1 boolD)) := call1 call_bool1 fun H0 H x dx d Q s hx e q => by
  unfold boolD at e
  split at e
  · cases e
    rw [dp_int hx]
    exact .inl ⟨_, rfl, q _ _ _ (Grow.refl s) (.bl _)⟩
  · cases e
    rw [dp_bool hx]
    exact .inr ⟨_, rfl, q _ _ _ (Grow.refl s) (.bl _)⟩
  · cases e
theorem call_absD : CallR X (.builtin "abs") (rC X.K (bi1 absD)) := call1 call_abs fun H0 H x dx d Q s hx e q => by
  unfold absD at e
  split at e
  · cases e
    rw [dp_int hx]
    exact ⟨_, rfl, q _ _ _ (Grow.refl s) (.int _)⟩
  · cases e
theorem call_maxD (hc : X.calm = true) : CallR X (.builtin "max") (rC X.K maxD) := by
  refine CallR.imp (CallR.or (call_max2 hc) (cr_max hc)) fun xs H Q ⟨H0, ds, d, s, hd, e, q⟩ => ?_
  unfold maxD at e
  split at e
  · cases e
    obtain ⟨v, w, rfl, h1, h2⟩ := dps_two hd
    rw [dp_int h1, dp_int h2]
    exact .inl ⟨_, _, rfl, q _ _ _ (Grow.refl s) (.int _)⟩
  · split at e
    · rename_i i r hi
      cases e
      obtain ⟨v, rfl, h1⟩ := dps_one hd
      obtain ⟨a, vs, rfl, ha, hv⟩ := dp_list h1
      have ev := ints_dps hv hi
      subst ev
      refine .inr ⟨a, i :: r, rfl, s.seq ha, Nat.succ_pos _, fun m hm hle => ?_⟩
      obtain ⟨m1, m2⟩ := maxL_mem i r
      have : m = maxL (i :: r) := Int.le_antisymm (m2 m hm) (hle _ m1)
      rw [this]
      exact q _ _ _ (Grow.refl s) (.int _)
    · cases e
  · cases e
theorem call_minD (hc : X.calm = true) : CallR X (.builtin "min") (rC X.K minD) := by
  refine CallR.imp (CallR.or (call_min2 hc) (cr_min hc)) fun xs H Q ⟨H0, ds, d, s, hd, e, q⟩ => ?_
  unfold minD at e
  split at e
  · cases e
    obtain ⟨v, w, rfl, h1, h2⟩ := dps_two hd
    rw [dp_int h1, dp_int h2]
    exact .inl ⟨_, _, rfl, q _ _ _ (Grow.refl s) (.int _)⟩
  · split at e
    · rename_i i r hi
      cases e
      obtain ⟨v, rfl, h1⟩ := dps_one hd
      obtain ⟨a, vs, rfl, ha, hv⟩ := dp_list h1
      have ev := ints_dps hv hi
      subst ev
      refine .inr ⟨a, i :: r, rfl, s.seq ha, Nat.succ_pos _, fun m hm hle => ?_⟩
      obtain ⟨m1, m2⟩ := minL_mem i r
      have : m = minL (i :: r) := Int.le_antisymm (hle _ m1) (m2 m hm)
      rw [this]
      exact q _ _ _ (Grow.refl s) (.int _)
    · cases e
  · cases e
theorem call_sumD (hc : X.calm = true) : CallR X (.builtin "sum") (rC X.K (bi1 sumD)) := call1 (cr_sum hc) fun H0 H x dx d Q s hx e q => by
  unfold sumD at e
  split at e
  · split at e
    · rename_i ns hi
      cases e
      obtain ⟨a, vs, rfl, ha, hv⟩ := dp_list hx
      have ev := ints_dps hv hi
      subst ev
      exact ⟨a, ns, rfl, s.seq ha, q _ _ _ (Grow.refl s) (.int _)⟩
    · cases e
  · cases e
theorem insI_perm (i : Int) : ∀ l, (insI i l).Perm (i :: l)
  | [] => .refl _
  | j :: r => by
    unfold insI
    split
    · exact .refl _
    · exact ((insI_perm i r).cons j).trans (.swap i j r)
theorem sortI_perm : ∀ l, (sortI l).Perm l
  | [] => .refl _
  | i :: r => (insI_perm i (sortI r)).trans ((sortI_perm r).cons i)
theorem insI_rise (i : Int) : ∀ l : List Int, l.Pairwise (· ≤ ·) → (insI i l).Pairwise (· ≤ ·)
  | [], _ => by simp [insI]
  | j :: r, h => by
    unfold insI
    have h1 := List.pairwise_cons.mp h
    split
    · rename_i hij
      exact List.pairwise_cons.mpr ⟨fun x hx => by
        rcases List.mem_cons.mp hx with e | e
        · rw [e]; exact hij
        · exact Int.le_trans hij (h1.1 x e), h⟩
    · rename_i hij
      refine List.pairwise_cons.mpr ⟨fun x hx => ?_, insI_rise i r h1.2⟩
      rcases List.mem_cons.mp ((insI_perm i r).mem_iff.mp hx) with e | e
      · rw [e]; omega
      · exact h1.1 x e
theorem sortI_rise : ∀ l, (sortI l).Pairwise (· ≤ ·)
  | [] => .nil
  | i :: r => insI_rise i _ (sortI_rise r)
theorem rise_uniq : ∀ {a b : List Int}, a.Perm b → a.Pairwise (· ≤ ·) → b.Pairwise (· ≤ ·) → a = b
  | [], b, p, _, _ => (List.Perm.nil_eq p)
  | i :: r, [], p, _, _ => by have := p.length_eq; simp at this
  | i :: r, j :: t, p, ha, hb => by
    have h1 := List.pairwise_cons.mp ha
    have h2 := List.pairwise_cons.mp hb
    have e : i = j := by
      have a1 : i ∈ j :: t := p.mem_iff.mp List.mem_cons_self
      have a2 : j ∈ i :: r := p.mem_iff.mpr List.mem_cons_self
      rcases List.mem_cons.mp a1 with e | e
      · exact e
      · rcases List.mem_cons.mp a2 with e2 | e2
        · exact e2.symm
        · exact Int.le_antisymm (h1.1 _ e2) (h2.1 _ e)
    subst e
    rw [rise_uniq p.cons_inv h1.2 h2.2]
theorem sortI_uniq {a b : List Int} (p : a.Perm b) (h : a.Pairwise (· ≤ ·)) : a = sortI b := rise_uniq (p.trans (sortI_perm b).symm) h (sortI_rise b)
theorem call_sortedD : CallR X (.builtin "sorted") (rC X.K (bi1 sortedD)) := call1 cr_sortedI fun H0 H x dx d Q s hx e q => by
  unfold sortedD at e
  split at e
  · split at e
    · rename_i ns hi
      cases e
      obtain ⟨a, vs, rfl, ha, hv⟩ := dp_list hx
      have ev := ints_dps hv hi
      subst ev
      refine ⟨a, ns, rfl, s.seq ha, fun ns' p pm hr hp => ?_⟩
      rw [sortI_uniq pm hr]
      exact q _ _ _ (Grow.new s hp) (dp_newL s hp (dps_ints _))
    · cases e
  · cases e
theorem call_allD (hc : X.calm = true) : CallR X (.builtin "all") (rC X.K (bi1 allD)) := call1 (cr_all hc) fun H0 H x dx d Q s hx e q => by
  unfold allD at e
  split at e
  · split at e
    · rename_i ns hi
      cases e
      obtain ⟨a, vs, rfl, ha, hv⟩ := dp_list hx
      have ev := bools_dps hv hi
      subst ev
      exact ⟨a, ns, rfl, s.seq ha, q _ _ _ (Grow.refl s) (.bl _)⟩
    · cases e
  · cases e
theorem call_anyD (hc : X.calm = true) : CallR X (.builtin "any") (rC X.K (bi1 anyD)) := call1 (cr_any hc) fun H0 H x dx d Q s hx e q => by
  unfold anyD at e
  split at e
  · split at e
    · rename_i ns hi
      cases e
      obtain ⟨a, vs, rfl, ha, hv⟩ := dp_list hx
      have ev := bools_dps hv hi
      subst ev
      exact ⟨a, ns, rfl, s.seq ha, q _ _ _ (Grow.refl s) (.bl _)⟩
    · cases e
  · cases e
theorem call_listD : CallR X (.type "list") (rC X.K (bi1 listD)) := call1 call_list_of fun H0 H x dx d Q s hx e q => by
  unfold listD at e
  split at e
  · cases e
    obtain ⟨a, vs, rfl, ha, hd⟩ := dp_list hx
    exact ⟨a, vs, rfl, .inl (s.seq ha), fun p hp => q _ _ _ (Grow.new s hp) (dp_newL s hp hd)⟩
  · cases e
    obtain ⟨a, vs, rfl, ha, hd⟩ := dp_tup hx
    exact ⟨a, vs, rfl, .inr (seqT_same s ha), fun p hp => q _ _ _ (Grow.new s hp) (dp_newL s hp hd)⟩
  · cases e
theorem call_tupleD : CallR X (.type "tuple") (rC X.K (bi1 tupleD)) := call1 call_tuple_of fun H0 H x dx d Q s hx e q => by
  unfold tupleD at e
  split at e
  · cases e
    obtain ⟨a, vs, rfl, ha, hd⟩ := dp_list hx
    exact ⟨a, vs, rfl, .inl ⟨s.seq ha, fun p hp => q _ _ _ (Grow.new s hp) (dp_newT s hp hd)⟩⟩
  · cases e
    obtain ⟨a, vs, rfl, ha, hd⟩ := dp_tup hx
    exact ⟨a, vs, rfl, .inr ⟨seqT_same s ha, q _ _ _ (Grow.refl s) (.tup ha hd)⟩⟩
  · cases e
theorem call_gcdD : CallR X (.builtin "math.gcd") (rC X.K gcdD) := CallR.imp cr_gcd fun xs H Q ⟨H0, ds, d, s, hd, e, q⟩ => by
  unfold gcdD at e
  split at e
  · cases e
    obtain ⟨v, w, rfl, h1, h2⟩ := dps_two hd
    rw [dp_int h1, dp_int h2]
    exact ⟨_, _, rfl, q _ _ _ (Grow.refl s) (.int _)⟩
  · cases e
/-- what stands behind the name of a built-in function -/
def bval : String → Option Value
  | "sorted" => some (.builtin "sorted")
  | "len" => some (.builtin "len")
  | "int" => some (.type "int")
  | "bool" => some (.type "bool")
  | "abs" => some (.builtin "abs")
  | "max" => some (.builtin "max")
  | "min" => some (.builtin "min")
  | "sum" => some (.builtin "sum")
  | "list" => some (.type "list")
  | "tuple" => some (.type "tuple")
  | "all" => some (.builtin "all")
  | "any" => some (.builtin "any")
  | _ => none
theorem call_biD (hc : X.calm = true) {f : String} {u : Value} (h : bval f = some u) : CallR X u (rC X.K (biD f)) := by
  unfold bval at h
  split at h
  · cases h; exact call_sortedD
  · cases h; exact call_lenD
  · cases h; exact call_intD
  · cases h; exact call_boolD
  · cases h; exact call_absD
  · cases h; exact call_maxD hc
  · cases h; exact call_minD hc
  · cases h; exact call_sumD hc
  · cases h; exact call_listD
  · cases h; exact call_tupleD
  · cases h; exact call_allD hc
  · cases h; exact call_anyD hc
  · cases h
theorem bval_boot {f : String} {u : Value} (h : bval f = some u) : bootBuiltins (Str.ofString f) = some u ∧ (Str.ofString f ≠ ("__name__" : Str)) ∧ ((Str.ofString f == ("__debug__" : Str)) = false) ∧ ((∃ id, u = .builtin id) ∨ ∃ T, u = .type T) := by
  unfold bval at h
  split at h <;> first
    | (cases h; exact ⟨by decide +kernel, by decide +kernel, by decide +kernel, .inl ⟨_, rfl⟩⟩)
    | (cases h; exact ⟨by decide +kernel, by decide +kernel, by decide +kernel, .inr ⟨_, rfl⟩⟩)
    | cases h

/-! ### methods -/
def rM (K : PySem.W.Frag) (g : D → List D → R D) : V → List V → Hp → VK → Prop := fun x vs H Q => ∃ H0 dx ds d, Same H0 H ∧ Dp K H0 x dx ∧ DpAll K H0 vs ds ∧ g dx ds = .ok d ∧ ∀ v H0' H', Grow H0 H H0' H' → Dp K H0' v d → Q v H'
theorem MtR.imp {id : String} {r r' : V → List V → Hp → VK → Prop} (h : MtR X id r) (k : ∀ x xs H Q, r' x xs H Q → r x xs H Q) : MtR X id r' :=
  fun pins s σ H x xs v us Q I rx rs q => h pins s σ H x xs v us Q I rx rs (k _ _ _ _ q)
theorem mt_countD : MtR X "list.count" (rM X.K countD) := MtR.imp mt_lcount fun x xs H Q ⟨H0, dx, ds, d, s, hx, hd, e, q⟩ => by
  unfold countD at e
  split at e
  · split at e
    · rename_i ns hi
      cases e
      obtain ⟨a, vs, rfl, ha, hv⟩ := dp_list hx
      obtain ⟨w, rfl, hw⟩ := dps_one hd
      have ev := ints_dps hv hi
      subst ev
      rw [dp_int hw]
      exact ⟨a, ns, _, rfl, rfl, s.seq ha, q _ _ _ (Grow.refl s) (.int _)⟩
    · cases e
  · cases e

/-! ### subscripts -/
theorem IxR.imp {r r' : R2} (h : IxR X r) (k : ∀ x y H Q, r' x y H Q → r x y H Q) : IxR X r' :=
  fun value slice pins s σ H x y v u Q I rx ry q hs => h value slice pins s σ H x y v u Q I rx ry (k _ _ _ _ q) hs
theorem atI_dps {K : PySem.W.Frag} {H : Hp} {vs : List V} {ds : List D} {i : Int} {d : D} (h : DpAll K H vs ds) (e : atI ds i = some d) : ∃ v, atI vs i = some v ∧ Dp K H v d := by
  unfold atI at e ⊢
  rw [dps_length h]
  cases q : ixN ds.length i with
  | none => rw [q] at e; cases e
  | some j =>
    rw [q] at e
    exact dps_get h e
theorem ix_D : IxR X (rD X.K ixD) := IxR.imp ix_seq fun x y H Q ⟨H0, dx, dy, d, s, hx, hy, e, q⟩ => by
  unfold ixD at e
  split at e
  · unfold atD at e
    split at e
    · rename_i d' hd
      cases e
      obtain ⟨a, vs, rfl, ha, hv⟩ := dp_list hx
      obtain ⟨v, e1, e2⟩ := atI_dps hv hd
      rw [dp_int hy]
      exact .inl ⟨a, vs, _, v, rfl, rfl, s.seq ha, e1, q _ _ _ (Grow.refl s) e2⟩
    · cases e
  · unfold atD at e
    split at e
    · rename_i d' hd
      cases e
      obtain ⟨a, vs, rfl, ha, hv⟩ := dp_tup hx
      obtain ⟨v, e1, e2⟩ := atI_dps hv hd
      rw [dp_int hy]
      exact .inr (.inl ⟨a, vs, _, v, rfl, rfl, seqT_same s ha, e1, q _ _ _ (Grow.refl s) e2⟩)
    · cases e
  · split at e
    · rename_i hz
      split at e
      · rename_i c hc
        cases e
        rw [dp_str hx, dp_int hy]
        exact .inr (.inr ⟨_, _, c, rfl, rfl, hz, hc, q _ _ _ (Grow.refl s) (.str _)⟩)
      · cases e
    · cases e
  · cases e
theorem SlR.imp {r r' : V → Option Int → Option Int → Hp → VK → Prop} (h : SlR X r) (k : ∀ x l u H Q, r' x l u H Q → r x l u H Q) : SlR X r' :=
  fun pins s σ H x v vl vu lo hi sl Q I rx hs pl pu q => h pins s σ H x v vl vu lo hi sl Q I rx hs pl pu (k _ _ _ _ _ q)
def rS (K : PySem.W.Frag) : V → Option Int → Option Int → Hp → VK → Prop := fun x lo hi H Q => ∃ H0 dx d, Same H0 H ∧ Dp K H0 x dx ∧ slD dx lo hi = .ok d ∧ ∀ v H0' H', Grow H0 H H0' H' → Dp K H0' v d → Q v H'
theorem dps_cut {K : PySem.W.Frag} {H : Hp} {vs : List V} {ds : List D} (lo hi : Option Int) (h : DpAll K H vs ds) : DpAll K H (cutV vs lo hi) (cutL ds lo hi) := by
  unfold cutV cutL
  rw [dps_length h]
  exact dps_take _ (dps_drop _ h)
theorem sl_D : SlR X (rS X.K) := SlR.imp (sl_list.or (sl_tupA.or sl_str)) fun x lo hi H Q ⟨H0, dx, d, s, hx, e, q⟩ => by
  unfold slD at e
  split at e
  · cases e
    obtain ⟨a, vs, rfl, ha, hv⟩ := dp_list hx
    exact .inl ⟨a, vs, rfl, s.seq ha, fun p hp => q _ _ _ (Grow.new s hp) (dp_newL s hp (dps_cut _ _ hv))⟩
  · cases e
    obtain ⟨a, vs, rfl, ha, hv⟩ := dp_tup hx
    refine .inr (.inl ⟨a, vs, rfl, seqT_same s ha, fun z => ?_, fun _ p hp => q _ _ _ (Grow.new s hp) (dp_newT s hp (dps_cut _ _ hv))⟩)
    refine q _ _ _ (Grow.refl s) (.tup ha ?_)
    have hc := dps_cut lo hi hv
    have e1 : cutV vs lo hi = vs := by
      unfold cutV
      rw [z.1, z.2]
      simp
    rw [e1] at hc
    exact hc
  · split at e
    · rename_i hz
      cases e
      rw [dp_str hx]
      exact .inr (.inr ⟨_, rfl, hz, q _ _ _ (Grow.refl s) (.str _)⟩)
    · cases e
  · cases e
end
end Y

/-! Y6: expressions. -/
namespace Y
open PySem L2 PyProof.Rows

section
variable {X : Cx}
def tD (X : Cx) (f : Env → R D) : TE := fun σ H Q => ∃ B env H0 d, Rel X.K X.mg B env σ H0 H ∧ f env = .ok d ∧ ∀ v H0' H', Grow H0 H H0' H' → Dp X.K H0' v d → Q v H'
def tDs (X : Cx) (f : Env → R (List D)) : TA := fun σ H Q => ∃ B env H0 ds, Rel X.K X.mg B env σ H0 H ∧ f env = .ok ds ∧ ∀ vs H0' H', Grow H0 H H0' H' → DpAll X.K H0' vs ds → Q vs H'
def tDT (X : Cx) (f : Env → R Bool) : TT := fun σ H Q => ∃ B env H0 b, Rel X.K X.mg B env σ H0 H ∧ f env = .ok b ∧ ∀ H0' H', Grow H0 H H0' H' → Q b H'
/-- a new list -/
def tDF (X : Cx) (f : Env → R (List D)) : TE := fun σ H Q => ∃ B env H0 ds, Rel X.K X.mg B env σ H0 H ∧ f env = .ok ds ∧ ∀ p vs H0' H', Grow H0 H H0' H' → H p = none → H0' p = none → H' p = some (.lst vs) → DpAll X.K H0' vs ds → Q (.ref p) H'
abbrev DE (X : Cx) (e : Expr) (f : Env → R D) : Prop := PE X e (tD X f)
abbrev DEs (X : Cx) (es : List Expr) (f : Env → R (List D)) : Prop := PA X es (tDs X f)
abbrev DT (X : Cx) (e : Expr) (f : Env → R Bool) : Prop := PT X e (tDT X f)
abbrev DF (X : Cx) (e : Expr) (f : Env → R (List D)) : Prop := PE X e (tDF X f)
theorem PE.imp {e : Expr} {t t' : TE} (h : PE X e t) (k : ∀ σ H Q, t' σ H Q → t σ H Q) : PE X e t' := ⟨fun pins s σ H Q I q => h.run pins s σ H Q I (k _ _ _ q)⟩
theorem PT.imp {e : Expr} {t t' : TT} (h : PT X e t) (k : ∀ σ H Q, t' σ H Q → t σ H Q) : PT X e t' := ⟨fun pins s σ H Q I q => h.run pins s σ H Q I (k _ _ _ q)⟩
theorem PA.imp {e : List Expr} {t t' : TA} (h : PA X e t) (k : ∀ σ H Q, t' σ H Q → t σ H Q) : PA X e t' := ⟨fun pos pins s σ H Q I q => h.run pos pins s σ H Q I (k _ _ _ q)⟩
theorem de_eq {e : Expr} {f g : Env → R D} (h : DE X e f) (k : ∀ env, g env = f env) : DE X e g := (funext k : g = f) ▸ h

theorem de_var {i : Nat} {x : Str} {pos : Pos} (hN : X.N[i]? = some x) (hv : Vis X.env.scope x) (hd : (x == ("__debug__" : Str)) = false) (hcd : (x == ("__classdict__" : Str)) = false) : DE X (.Name x pos) (fun env => getV env i) :=
  PE.imp (pe_var hN hv hd hcd) fun σ H Q ⟨B, env, H0, d, r, e, q⟩ => by
    obtain ⟨v, e1, h⟩ := r.get (getV_ok e)
    exact ⟨v, e1, q _ _ _ (Grow.refl r.sub) h⟩
theorem de_c {e : Expr} {v : V} {d : D} (h : PE X e (tC v)) (hd : Dp X.K (fun _ => none) v d) : DE X e (fun _ => .ok d) :=
  PE.imp h fun σ H Q ⟨B, env, H0, d', r, e, q⟩ => by
    cases e
    exact q _ _ _ (Grow.refl r.sub) (dp_same (fun _ _ z => by cases z) _ _ hd)
/-- a name that may hold an owned list: looked into -/
theorem Rel.peekL {K : PySem.W.Frag} {mg : Str → Option Value} {B : Base} {env : Env} {σ : L2.St} {H0 H : Hp} (r : Rel K mg B env σ H0 H) {i : Nat} {d : D} (e : peek env i = .ok d) :
    ∃ v, σ[i]? = some (some v) ∧ ((Dp K H0 v d) ∨ ∃ p vs ds, v = .ref p ∧ d = .list ds ∧ H p = some (.lst vs) ∧ DpAll K H0 vs ds) := by
  unfold peek at e
  split at e
  · rename_i d' h
    cases e
    obtain ⟨v, h1, h2⟩ := r.get h
    exact ⟨v, h1, .inl h2⟩
  · rename_i ds h
    cases e
    obtain ⟨ow, r⟩ := r
    have q := r.slot i
    rw [h] at q
    obtain ⟨p, vs, h1, h2, h3, h4, _⟩ := q
    exact ⟨.ref p, join_some h1, .inr ⟨p, vs, ds, rfl, rfl, h3, h4⟩⟩
  · cases e
/-- what is looked into, known for a while -/
theorem peek_dp {K : PySem.W.Frag} {H0 H : Hp} {v : V} {d : D} (s : Same H0 H) (h : (Dp K H0 v d) ∨ ∃ p vs ds, v = .ref p ∧ d = .list ds ∧ H p = some (.lst vs) ∧ DpAll K H0 vs ds) : Dp K H v d := by
  rcases h with h | ⟨p, vs, ds, rfl, rfl, hp, hd⟩
  · exact dp_same s _ _ h
  · exact .lst (SqL.of hp) (dps_same s _ _ hd)

/-! ### operators -/
theorem de_bin {a b : Expr} {fa fb : Env → R D} {pos : Pos} (op : BO) (ha : DE X a fa) (hb : DE X b fb) : DE X (.BinOp a (boOp op) b pos) (fun env => fa env >>= fun x => fb env >>= fun y => binD op x y) :=
  PE.imp (pe_op (op_binD op) ha hb) fun σ H Q ⟨B, env, H0, d, r, e, q⟩ => by
    obtain ⟨x, e1, e⟩ := R.bind_ok e
    obtain ⟨y, e2, e⟩ := R.bind_ok e
    refine ⟨B, env, H0, x, r, e1, fun v H1 H1' g1 hv => ⟨B, env, H1, y, r.grow g1, e2, fun w H2 H2' g2 hw => ?_⟩⟩
    exact ⟨H2, x, y, d, g2.c, dp_same g2.a _ _ hv, hw, e, fun z H3 H3' g3 hz => q z _ _ (g1.trans (g2.trans g3)) hz⟩
theorem de_neg {a : Expr} {fa : Env → R D} {pos : Pos} (ha : DE X a fa) : DE X (.UnaryOp .USub a pos) (fun env => fa env >>= negD) :=
  PE.imp (pe_un un_neg ha) fun σ H Q ⟨B, env, H0, d, r, e, q⟩ => by
    obtain ⟨x, e1, e⟩ := R.bind_ok e
    unfold negD at e
    split at e
    · cases e
      exact ⟨B, env, H0, _, r, e1, fun v H1 H1' g1 hv => ⟨_, dp_int hv, q _ _ _ g1 (.int _)⟩⟩
    · cases e
/-! ### comparisons -/
theorem cmp_run {fa fb : Env → R D} {σ : L2.St} {H : Hp} {op : CO} {Q : Bool → Hp → Prop} {B : Base} {env : Env} {H0 : Hp} {b : Bool} (r : Rel X.K X.mg B env σ H0 H) (e : (fa env >>= fun x => fb env >>= fun y => cmpB op x y) = .ok b)
    (q : ∀ H0' H', Grow H0 H H0' H' → Q b H') : tOp (rB X.K (cmpB op)) (tD X fa) (tD X fb) σ H (fun v H' => ∃ k, v = .bl k ∧ Q k H') := by
  obtain ⟨x, e1, e⟩ := R.bind_ok e
  obtain ⟨y, e2, e⟩ := R.bind_ok e
  refine ⟨B, env, H0, x, r, e1, fun v H1 H1' g1 hv => ⟨B, env, H1, y, r.grow g1, e2, fun w H2 H2' g2 hw => ?_⟩⟩
  exact ⟨H2, x, y, b, g2.c, dp_same g2.a _ _ hv, hw, e, b, rfl, q _ _ (g1.trans g2)⟩
theorem tOp_mono {r : R2} {ta tb : TE} {σ : L2.St} {H : Hp} {Q Q' : VK} (hr : ∀ x y H Q Q', (∀ v H, Q v H → Q' v H) → r x y H Q → r x y H Q') (ma : ∀ σ H Q Q', (∀ v H, Q v H → Q' v H) → ta σ H Q → ta σ H Q') (mb : ∀ σ H Q Q', (∀ v H, Q v H → Q' v H) → tb σ H Q → tb σ H Q')
    (k : ∀ v H, Q v H → Q' v H) (h : tOp r ta tb σ H Q) : tOp r ta tb σ H Q' :=
  ma _ _ _ _ (fun x H1 h1 => mb _ _ _ _ (fun y H2 h2 => hr _ _ _ _ _ k h2) h1) h
theorem tD_mono {f : Env → R D} {σ : L2.St} {H : Hp} {Q Q' : VK} (k : ∀ v H, Q v H → Q' v H) (h : tD X f σ H Q) : tD X f σ H Q' := by
  obtain ⟨B, env, H0, d, r, e, q⟩ := h
  exact ⟨B, env, H0, d, r, e, fun v H0' H' g hv => k _ _ (q v H0' H' g hv)⟩
theorem de_cmp {a b : Expr} {fa fb : Env → R D} {pos : Pos} (hu : X.A.units + 65 < cLine) (op : CO) (ha : DE X a fa) (hb : DE X b fb) (hm : behindInMarks (coOp op) b = false) :
    DE X (.Compare a [coOp op] [b] pos) (fun env => fa env >>= fun x => fb env >>= fun y => cmpB op x y >>= boolR) :=
  PE.imp (pe_cmpR (op_cmpB hu op) ha hb hm) fun σ H Q ⟨B, env, H0, d, r, e, q⟩ => by
    obtain ⟨x, e1, e⟩ := R.bind_ok e
    obtain ⟨y, e2, e⟩ := R.bind_ok e
    obtain ⟨b, e3, e⟩ := R.bind_ok e
    cases e
    refine ⟨B, env, H0, x, r, e1, fun v H1 H1' g1 hv => ⟨B, env, H1, y, r.grow g1, e2, fun w H2 H2' g2 hw => ?_⟩⟩
    exact ⟨H2, x, y, b, g2.c, dp_same g2.a _ _ hv, hw, e3, q _ _ _ (g1.trans g2) (.bl _)⟩
theorem dt_cmp {a b : Expr} {fa fb : Env → R D} {pos : Pos} (hu : X.A.units + 65 < cLine) (op : CO) (ha : DE X a fa) (hb : DE X b fb) (hm : behindInMarks (coOp op) b = false) :
    DT X (.Compare a [coOp op] [b] pos) (fun env => (fa env >>= fun x => fb env >>= fun y => cmpB op x y >>= boolR) >>= truthD) :=
  PT.imp (pt_cmpR (op_cmpB hu op) ha hb hm) fun σ H Q ⟨B, env, H0, b, r, e, q⟩ => by
    obtain ⟨d, e, e4⟩ := R.bind_ok e
    obtain ⟨x, e1, e⟩ := R.bind_ok e
    obtain ⟨y, e2, e⟩ := R.bind_ok e
    obtain ⟨b', e3, e⟩ := R.bind_ok e
    cases e
    cases e4
    refine ⟨B, env, H0, x, r, e1, fun v H1 H1' g1 hv => ⟨B, env, H1, y, r.grow g1, e2, fun w H2 H2' g2 hw => ?_⟩⟩
    exact ⟨H2, x, y, b, g2.c, dp_same g2.a _ _ hv, hw, e3, b, rfl, q _ _ (g1.trans g2)⟩
theorem lastMarks2 {op op' : CmpOp} {b c : Expr} (h : behindInMarks op' c = false) : lastMarks [op, op'] [b, c] = false := h
theorem chain_run {fa fb fc : Env → R D} {σ : L2.St} {H : Hp} {o1 o2 : CO} {Q : Bool → Hp → Prop} {B : Base} {env : Env} {H0 : Hp} {d : D} (r : Rel X.K X.mg B env σ H0 H)
    (e : (fa env >>= fun x => fb env >>= fun y => cmpB o1 x y >>= fun k => if k = true then fc env >>= fun z => cmpB o2 y z >>= boolR else .ok (.bool false)) = .ok d)
    (q : ∀ b H0' H', d = .bool b → Grow H0 H H0' H' → Q b H') : tChain (rB X.K (cmpB o1)) (rB X.K (cmpB o2)) (tD X fa) (tD X fb) (tD X fc) σ H (fun v H' => ∃ k, v = .bl k ∧ Q k H') := by
  obtain ⟨x, e1, e⟩ := R.bind_ok e
  obtain ⟨y, e2, e⟩ := R.bind_ok e
  obtain ⟨k, e3, e⟩ := R.bind_ok e
  refine ⟨B, env, H0, x, r, e1, fun v H1 H1' g1 hv => ⟨B, env, H1, y, r.grow g1, e2, fun w H2 H2' g2 hw => ?_⟩⟩
  refine ⟨H2, x, y, k, g2.c, dp_same g2.a _ _ hv, hw, e3, k, rfl, ?_⟩
  cases k with
  | false =>
    simp only [Bool.false_eq_true, if_false] at e ⊢
    cases e
    exact ⟨false, rfl, q _ _ _ rfl (g1.trans g2)⟩
  | true =>
    simp only [if_true] at e ⊢
    obtain ⟨z, e4, e⟩ := R.bind_ok e
    obtain ⟨b, e5, e⟩ := R.bind_ok e
    cases e
    refine ⟨B, env, H2, z, r.grow (g1.trans g2), e4, fun u H3 H3' g3 hz => ?_⟩
    exact ⟨H3, y, z, b, g3.c, dp_same g3.a _ _ hw, hz, e5, b, rfl, q _ _ _ rfl (g1.trans (g2.trans g3))⟩
theorem tChain_mono {r r' : R2} {fa fb fc : Env → R D} {σ : L2.St} {H : Hp} {Q Q' : VK} (hr : ∀ x y H Q Q', (∀ v H, Q v H → Q' v H) → r x y H Q → r x y H Q') (hr' : ∀ x y H Q Q', (∀ v H, Q v H → Q' v H) → r' x y H Q → r' x y H Q')
    (k : ∀ v H, Q v H → Q' v H) (h : tChain r r' (tD X fa) (tD X fb) (tD X fc) σ H Q) : tChain r r' (tD X fa) (tD X fb) (tD X fc) σ H Q' := by
  refine tD_mono (fun x H1 h1 => tD_mono (fun y H2 h2 => hr _ _ _ _ _ (fun z H3 h3 => ?_) h2) h1) h
  obtain ⟨c, e, h3⟩ := h3
  refine ⟨c, e, ?_⟩
  split
  · rename_i hc
    rw [if_pos hc] at h3
    exact tD_mono (fun w H4 h4 => hr' _ _ _ _ _ k h4) h3
  · rename_i hc
    rw [if_neg hc] at h3
    exact k _ _ h3
theorem rB_mono {K : PySem.W.Frag} {g : D → D → R Bool} (x y : V) (H : Hp) (Q Q' : VK) (k : ∀ v H, Q v H → Q' v H) (h : rB K g x y H Q) : rB K g x y H Q' := by
  obtain ⟨H0, dx, dy, b, s, h1, h2, h3, q⟩ := h
  exact ⟨H0, dx, dy, b, s, h1, h2, h3, k _ _ q⟩
theorem de_chain {a b c : Expr} {fa fb fc : Env → R D} {pos : Pos} (hu : X.A.units + 65 < cLine) (o1 o2 : CO) (ha : DE X a fa) (hb : DE X b fb) (hc : DE X c fc) (hm : behindInMarks (coOp o2) c = false) :
    DE X (.Compare a [coOp o1, coOp o2] [b, c] pos) (fun env => fa env >>= fun x => fb env >>= fun y => cmpB o1 x y >>= fun k => if k = true then fc env >>= fun z => cmpB o2 y z >>= boolR else .ok (.bool false)) :=
  PE.imp (pe_chain (op_cmpB hu o1) (op_cmpB hu o2) ha hb hc (lastMarks2 hm)) fun σ H Q ⟨B, env, H0, d, r, e, q⟩ => by
    refine tChain_mono rB_mono rB_mono (fun v H1 h1 => ?_) (chain_run (Q := fun b H' => Q (.bl b) H') r e fun b H0' H' e2 g => ?_)
    · obtain ⟨k, rfl, h⟩ := h1
      exact h
    · subst e2
      exact q _ _ _ g (.bl _)
theorem dt_chain {a b c : Expr} {fa fb fc : Env → R D} {pos : Pos} (hu : X.A.units + 65 < cLine) (o1 o2 : CO) (ha : DE X a fa) (hb : DE X b fb) (hc : DE X c fc) (hm : behindInMarks (coOp o2) c = false) :
    DT X (.Compare a [coOp o1, coOp o2] [b, c] pos) (fun env => (fa env >>= fun x => fb env >>= fun y => cmpB o1 x y >>= fun k => if k = true then fc env >>= fun z => cmpB o2 y z >>= boolR else .ok (.bool false)) >>= truthD) :=
  PT.imp (pt_chain (op_cmpB hu o1) (op_cmpB hu o2) ha hb hc (lastMarks2 hm)) fun σ H Q ⟨B, env, H0, b, r, e, q⟩ => by
    obtain ⟨d, e, e4⟩ := R.bind_ok e
    refine chain_run (Q := Q) r e fun b' H0' H' e2 g => ?_
    subst e2
    cases e4
    exact q _ _ g
/-! ### and, or, not, if -/
theorem dt_truth {a : Expr} {f : Env → R D} (ha : DE X a f) (he : ∀ whole, isTrue a X.env whole = (do let v ← whole; standAt a.pos; holding [v] (truthy v))) : DT X a (fun env => f env >>= truthD) :=
  PT.imp (pt_truth ha he) fun σ H Q ⟨B, env, H0, b, r, e, q⟩ => by
    obtain ⟨x, e1, e⟩ := R.bind_ok e
    exact ⟨B, env, H0, x, r, e1, fun v H1 H1' g hv => ⟨b, truV_of g.c hv e, q _ _ g⟩⟩
theorem de_and {a b : Expr} {rest : List Expr} {fa fb : Env → R D} {pos : Pos} (ha : DE X a fa) (hb : DE X (.BoolOp .And (b :: rest) pos) fb) :
    DE X (.BoolOp .And (a :: b :: rest) pos) (fun env => fa env >>= fun x => truthD x >>= fun k => if k = true then fb env else .ok x) :=
  PE.imp (pe_andT ha hb) fun σ H Q ⟨B, env, H0, d, r, e, q⟩ => by
    obtain ⟨x, e1, e⟩ := R.bind_ok e
    obtain ⟨k, e2, e⟩ := R.bind_ok e
    refine ⟨B, env, H0, x, r, e1, fun v H1 H1' g1 hv => ⟨k, truV_of g1.c hv e2, ?_⟩⟩
    cases k with
    | true =>
      simp only [if_true] at e ⊢
      exact ⟨B, env, H1, d, r.grow g1, e, fun w H2 H2' g2 hw => q _ _ _ (g1.trans g2) hw⟩
    | false =>
      simp only [Bool.false_eq_true, if_false] at e ⊢
      cases e
      exact q _ _ _ g1 hv
theorem de_or {a b : Expr} {rest : List Expr} {fa fb : Env → R D} {pos : Pos} (ha : DE X a fa) (hb : DE X (.BoolOp .Or (b :: rest) pos) fb) :
    DE X (.BoolOp .Or (a :: b :: rest) pos) (fun env => fa env >>= fun x => truthD x >>= fun k => if k = true then .ok x else fb env) :=
  PE.imp (pe_orT ha hb) fun σ H Q ⟨B, env, H0, d, r, e, q⟩ => by
    obtain ⟨x, e1, e⟩ := R.bind_ok e
    obtain ⟨k, e2, e⟩ := R.bind_ok e
    refine ⟨B, env, H0, x, r, e1, fun v H1 H1' g1 hv => ⟨k, truV_of g1.c hv e2, ?_⟩⟩
    cases k with
    | false =>
      simp only [Bool.false_eq_true, if_false] at e ⊢
      exact ⟨B, env, H1, d, r.grow g1, e, fun w H2 H2' g2 hw => q _ _ _ (g1.trans g2) hw⟩
    | true =>
      simp only [if_true] at e ⊢
      cases e
      exact q _ _ _ g1 hv
theorem de_not {a : Expr} {fa : Env → R D} {pos : Pos} (ha : DE X a fa) : DE X (.UnaryOp .Not a pos) (fun env => fa env >>= fun x => truthD x >>= fun k => .ok (.bool (!k))) :=
  PE.imp (pe_notT ha) fun σ H Q ⟨B, env, H0, d, r, e, q⟩ => by
    obtain ⟨x, e1, e⟩ := R.bind_ok e
    obtain ⟨k, e2, e⟩ := R.bind_ok e
    cases e
    exact ⟨B, env, H0, x, r, e1, fun v H1 H1' g1 hv => ⟨k, truV_of g1.c hv e2, q _ _ _ g1 (.bl _)⟩⟩
theorem dt_and {a b : Expr} {rest : List Expr} {fa fb : Env → R D} {pos : Pos} (ha : DT X a (fun env => fa env >>= truthD)) (hb : PW X (.BoolOp .And (b :: rest) pos) (tDT X fun env => fb env >>= truthD)) :
    DT X (.BoolOp .And (a :: b :: rest) pos) (fun env => (fa env >>= fun x => truthD x >>= fun k => if k = true then fb env else .ok x) >>= truthD) :=
  PT.imp (PW.pt (pw_and ha hb)) fun σ H Q ⟨B, env, H0, b, r, e, q⟩ => by
    obtain ⟨d, e, e4⟩ := R.bind_ok e
    obtain ⟨x, e1, e⟩ := R.bind_ok e
    obtain ⟨k, e2, e⟩ := R.bind_ok e
    refine ⟨B, env, H0, k, r, by show (fa env >>= truthD) = _; rw [e1]; exact e2, fun H1 H1' g1 => ?_⟩
    cases k with
    | true =>
      simp only [if_true] at e ⊢
      exact ⟨B, env, H1, b, r.grow g1, by show (fb env >>= truthD) = _; rw [e]; exact e4, fun H2 H2' g2 => q _ _ (g1.trans g2)⟩
    | false =>
      simp only [Bool.false_eq_true, if_false] at e ⊢
      cases e
      rw [e2] at e4
      cases e4
      exact q _ _ g1
theorem dt_or {a b : Expr} {rest : List Expr} {fa fb : Env → R D} {pos : Pos} (ha : DT X a (fun env => fa env >>= truthD)) (hb : PW X (.BoolOp .Or (b :: rest) pos) (tDT X fun env => fb env >>= truthD)) :
    DT X (.BoolOp .Or (a :: b :: rest) pos) (fun env => (fa env >>= fun x => truthD x >>= fun k => if k = true then .ok x else fb env) >>= truthD) :=
  PT.imp (PW.pt (pw_or ha hb)) fun σ H Q ⟨B, env, H0, b, r, e, q⟩ => by
    obtain ⟨d, e, e4⟩ := R.bind_ok e
    obtain ⟨x, e1, e⟩ := R.bind_ok e
    obtain ⟨k, e2, e⟩ := R.bind_ok e
    refine ⟨B, env, H0, k, r, by show (fa env >>= truthD) = _; rw [e1]; exact e2, fun H1 H1' g1 => ?_⟩
    cases k with
    | false =>
      simp only [Bool.false_eq_true, if_false] at e ⊢
      exact ⟨B, env, H1, b, r.grow g1, by show (fb env >>= truthD) = _; rw [e]; exact e4, fun H2 H2' g2 => q _ _ (g1.trans g2)⟩
    | true =>
      simp only [if_true] at e ⊢
      cases e
      rw [e2] at e4
      cases e4
      exact q _ _ g1
theorem dw_of {op : BoolOp} {vs : List Expr} {pos : Pos} {t : TT} (h : PT X (.BoolOp op vs pos) t) : PW X (.BoolOp op vs pos) t := ⟨fun whole pins s σ H Q I q => h.run pins s σ H Q I q⟩
theorem dt_not {a : Expr} {fa : Env → R D} {pos : Pos} (ha : DT X a (fun env => fa env >>= truthD)) : DT X (.UnaryOp .Not a pos) (fun env => (fa env >>= fun x => truthD x >>= fun k => .ok (.bool (!k))) >>= truthD) :=
  PT.imp (pt_not ha) fun σ H Q ⟨B, env, H0, b, r, e, q⟩ => by
    obtain ⟨d, e, e4⟩ := R.bind_ok e
    obtain ⟨x, e1, e⟩ := R.bind_ok e
    obtain ⟨k, e2, e⟩ := R.bind_ok e
    cases e
    cases e4
    exact ⟨B, env, H0, k, r, by show (fa env >>= truthD) = _; rw [e1]; exact e2, fun H1 H1' g1 => q _ _ g1⟩
theorem de_ite {c a b : Expr} {fc fa fb : Env → R D} {pos : Pos} (hc : DT X c (fun env => fc env >>= truthD)) (ha : DE X a fa) (hb : DE X b fb) : DE X (.IfExp c a b pos) (fun env => fc env >>= fun x => truthD x >>= fun k => if k = true then fa env else fb env) :=
  PE.imp (pe_ifExp hc ha hb) fun σ H Q ⟨B, env, H0, d, r, e, q⟩ => by
    obtain ⟨x, e1, e⟩ := R.bind_ok e
    obtain ⟨k, e2, e⟩ := R.bind_ok e
    refine ⟨B, env, H0, k, r, by show (fc env >>= truthD) = _; rw [e1]; exact e2, fun H1 H1' g1 => ?_⟩
    cases k with
    | true =>
      simp only [if_true] at e ⊢
      exact ⟨B, env, H1, d, r.grow g1, e, fun w H2 H2' g2 hw => q _ _ _ (g1.trans g2) hw⟩
    | false =>
      simp only [Bool.false_eq_true, if_false] at e ⊢
      exact ⟨B, env, H1, d, r.grow g1, e, fun w H2 H2' g2 hw => q _ _ _ (g1.trans g2) hw⟩
theorem dt_ite {c a b : Expr} {fc fa fb : Env → R D} {pos : Pos} (hc : DT X c (fun env => fc env >>= truthD)) (ha : DT X a (fun env => fa env >>= truthD)) (hb : DT X b (fun env => fb env >>= truthD)) :
    DT X (.IfExp c a b pos) (fun env => (fc env >>= fun x => truthD x >>= fun k => if k = true then fa env else fb env) >>= truthD) := by
  refine ⟨fun pins s σ H Q I ⟨B, env, H0, b, r, e, q⟩ => ?_⟩
  obtain ⟨d, e, e4⟩ := R.bind_ok e
  obtain ⟨x, e1, e⟩ := R.bind_ok e
  obtain ⟨k, e2, e⟩ := R.bind_ok e
  refine isTrue_IfExp (thn (hc.run pins s σ H (fun c H' => c = k ∧ ∃ H0', Grow H0 H H0' H') I ⟨B, env, H0, k, r, by show (fc env >>= truthD) = _; rw [e1]; exact e2, fun H1 H1' g1 => ⟨rfl, H1, g1⟩⟩) fun c' s1 ⟨H1', I1, ec, H1, g1⟩ => ?_)
  subst ec
  cases c' with
  | true =>
    simp only [if_true] at e ⊢
    exact ha.run pins s1 σ H1' Q I1 ⟨B, env, H1, b, r.grow g1, by show (fa env >>= truthD) = _; rw [e]; exact e4, fun H2 H2' g2 => q _ _ (g1.trans g2)⟩
  | false =>
    simp only [Bool.false_eq_true, if_false] at e ⊢
    exact hb.run pins s1 σ H1' Q I1 ⟨B, env, H1, b, r.grow g1, by show (fb env >>= truthD) = _; rw [e]; exact e4, fun H2 H2' g2 => q _ _ (g1.trans g2)⟩
/-! ### argument lists, displays -/
theorem des_nil : DEs X [] (fun _ => .ok []) := PA.imp pa_nil fun σ H Q ⟨B, env, H0, ds, r, e, q⟩ => by
  cases e
  exact q _ _ _ (Grow.refl r.sub) .nil
theorem des_cons {e : Expr} {es : List Expr} {f : Env → R D} {g : Env → R (List D)} (h : DE X e f) (k : DEs X es g) (hs : starEach (e :: es) X.env = (false, eval e X.env) :: starEach es X.env) :
    DEs X (e :: es) (fun env => f env >>= fun d => g env >>= fun ds => .ok (d :: ds)) := PA.imp (pa_cons h k hs) fun σ H Q ⟨B, env, H0, ds, r, e, q⟩ => by
  obtain ⟨x, e1, e⟩ := R.bind_ok e
  obtain ⟨xs, e2, e⟩ := R.bind_ok e
  cases e
  exact ⟨B, env, H0, x, r, e1, fun v H1 H1' g1 hv => ⟨B, env, H1, xs, r.grow g1, e2, fun vs H2 H2' g2 hvs => q _ _ _ (g1.trans g2) (.cons (dp_same g2.a _ _ hv) hvs)⟩⟩
theorem de_tup {es : List Expr} {g : Env → R (List D)} {x1 : Nat} {pos : Pos} (h : DEs X es g) : DE X (.Tuple es x1 pos) (fun env => g env >>= fun ds => if ds.length ≤ sizeLine then .ok (.tuple ds) else .no) :=
  PE.imp (pe_tup h) fun σ H Q ⟨B, env, H0, d, r, e, q⟩ => by
    obtain ⟨ds, e1, e⟩ := R.bind_ok e
    split at e
    · rename_i hz
      cases e
      refine ⟨B, env, H0, ds, r, e1, fun vs H1 H1' g1 hv => ⟨by rw [dps_length hv]; exact hz, fun p hp => ?_⟩⟩
      exact q _ _ _ (g1.trans (Grow.new g1.c hp)) (dp_newT g1.c hp hv)
    · cases e
theorem df_lst {es : List Expr} {g : Env → R (List D)} {pos : Pos} (h : DEs X es g) : DF X (.List es pos) (fun env => g env >>= fun ds => if ds.length ≤ sizeLine then .ok ds else .no) :=
  PE.imp (pe_lst h) fun σ H Q ⟨B, env, H0, ds, r, e, q⟩ => by
    obtain ⟨ds, e1, e⟩ := R.bind_ok e
    split at e
    · rename_i hz
      cases e
      refine ⟨B, env, H0, ds, r, e1, fun vs H1 H1' g1 hv => ⟨by rw [dps_length hv]; exact hz, fun p hp => ?_⟩⟩
      have h0 : H p = none := g1.b.free hp
      exact q p vs H1 _ (g1.trans (Grow.newH g1.c hp)) h0 (g1.c.free hp) upd_same hv
    · cases e
/-- a new list as a value -/
theorem de_of_df {e : Expr} {f : Env → R (List D)} (h : DF X e f) : DE X e (fun env => f env >>= fun ds => .ok (.list ds)) :=
  PE.imp h fun σ H Q ⟨B, env, H0, d, r, e, q⟩ => by
    obtain ⟨ds, e1, e⟩ := R.bind_ok e
    cases e
    refine ⟨B, env, H0, ds, r, e1, fun p vs H1 H1' g hp h0 h1 hv => ?_⟩
    refine q _ (upd H1 p (.lst vs)) H1' ⟨g.a.trans (same_upd h0), g.b, fun b o z => ?_, fun x x1 x2 => ?_⟩ (.lst (SqL.of upd_same) (dps_same (same_upd h0) _ _ hv))
    · by_cases y : b = p
      · subst y
        rw [upd_same] at z
        rw [← z]
        exact h1
      · rw [upd_ne y] at z
        exact g.c _ _ z
    · rw [upd_ne (fun y => x1 (by rw [y]; exact hp))]
      exact g.d x x1 x2
theorem de_lst {es : List Expr} {g : Env → R (List D)} {pos : Pos} (h : DEs X es g) : DE X (.List es pos) (fun env => g env >>= fun ds => if ds.length ≤ sizeLine then .ok (.list ds) else .no) :=
  de_eq (de_of_df (df_lst h)) fun env => by
    cases g env with
    | ok ds =>
      simp only [R.ok_bind]
      split <;> rfl
    | ex c => rfl
    | no => rfl
theorem df_rep {es : List Expr} {k : Expr} {g : Env → R (List D)} {f : Env → R D} {pos pos' : Pos} (h : DEs X es g) (hk : DE X k f) :
    DF X (.BinOp (.List es pos) .Mult k pos') (fun env => g env >>= fun ds => if ds.length ≤ sizeLine then f env >>= fun y => match y with
      | .int n => if -(2 ^ 63) ≤ n ∧ n < 2 ^ 63 ∧ ds.length * n.toNat ≤ sizeLine then .ok (List.replicate n.toNat ds).flatten else .no
      | _ => .no else .no) :=
  PE.imp (pe_op op_rep (df_lst h) hk) fun σ H Q ⟨B, env, H0, ds, r, e, q⟩ => by
    obtain ⟨xs, e1, e⟩ := R.bind_ok e
    split at e
    · rename_i hz
      obtain ⟨y, e2, e⟩ := R.bind_ok e
      split at e
      · rename_i n
        split at e
        · rename_i hn
          cases e
          refine ⟨B, env, H0, xs, r, by show (g env >>= _) = _; rw [e1]; simp only [R.ok_bind]; rw [if_pos hz], fun p vs H1 H1' g1 hp h0 h1 hv => ⟨B, env, H1, _, r.grow g1, e2, fun w H2 H2' g2 hw => ?_⟩⟩
          refine ⟨p, n, vs, rfl, dp_int hw, g2.b _ _ h1, hn.1, hn.2.1, by rw [dps_length hv]; exact hn.2.2, fun p2 hp2 => ?_⟩
          exact q p2 _ H2 _ (g1.trans (g2.trans (Grow.newH g2.c hp2))) (g1.b.free (g2.b.free hp2)) (g2.c.free hp2) upd_same (dps_rep (dps_same g2.a _ _ hv) _)
        · cases e
      · cases e
    · cases e
theorem de_ix {a b : Expr} {fa fb : Env → R D} {pos : Pos} (ha : DE X a fa) (hb : DE X b fb) (hp : PlainIx b) : DE X (.Subscript a b pos) (fun env => fa env >>= fun x => fb env >>= fun y => ixD x y) :=
  PE.imp (pe_ix ix_D ha hb hp) fun σ H Q ⟨B, env, H0, d, r, e, q⟩ => by
    obtain ⟨x, e1, e⟩ := R.bind_ok e
    obtain ⟨y, e2, e⟩ := R.bind_ok e
    refine ⟨B, env, H0, x, r, e1, fun v H1 H1' g1 hv => ⟨B, env, H1, y, r.grow g1, e2, fun w H2 H2' g2 hw => ?_⟩⟩
    exact ⟨H2, x, y, d, g2.c, dp_same g2.a _ _ hv, hw, e, fun z H3 H3' g3 hz => q z _ _ (g1.trans (g2.trans g3)) hz⟩
/-- a[b], a a name that may hold an owned list -/
theorem de_oix {i : Nat} {x : Str} {b : Expr} {fb : Env → R D} {pos pos' : Pos} (hN : X.N[i]? = some x) (hv : Vis X.env.scope x) (hd : (x == ("__debug__" : Str)) = false) (hcd : (x == ("__classdict__" : Str)) = false) (hb : DE X b fb) (hp : PlainIx b) :
    DE X (.Subscript (.Name x pos) b pos') (fun env => peek env i >>= fun z => fb env >>= fun y => ixD z y) :=
  PE.imp (pe_ix ix_seq (pe_var hN hv hd hcd) hb hp) fun σ H Q ⟨B, env, H0, d, r, e, q⟩ => by
    obtain ⟨z, e1, e⟩ := R.bind_ok e
    obtain ⟨y, e2, e⟩ := R.bind_ok e
    obtain ⟨v, hσ, hz⟩ := r.peekL e1
    refine ⟨v, hσ, B, env, H0, y, r, e2, fun w H2 H2' g2 hw => ?_⟩
    rcases hz with hz | ⟨p, vs, ds, rfl, rfl, hp, hds⟩
    · have hz := dp_same g2.a _ _ hz
      unfold ixD at e
      split at e
      · unfold atD at e
        split at e
        · rename_i d' hd'
          cases e
          obtain ⟨a, vs, rfl, ha, hvs⟩ := dp_list hz
          obtain ⟨v, k1, k2⟩ := atI_dps hvs hd'
          rw [dp_int hw]
          exact .inl ⟨a, vs, _, v, rfl, rfl, g2.c.seq ha, k1, q _ _ _ g2 k2⟩
        · cases e
      · unfold atD at e
        split at e
        · rename_i d' hd'
          cases e
          obtain ⟨a, vs, rfl, ha, hvs⟩ := dp_tup hz
          obtain ⟨v, k1, k2⟩ := atI_dps hvs hd'
          rw [dp_int hw]
          exact .inr (.inl ⟨a, vs, _, v, rfl, rfl, seqT_same g2.c ha, k1, q _ _ _ g2 k2⟩)
        · cases e
      · split at e
        · rename_i hl
          split at e
          · rename_i c hc
            cases e
            rw [dp_str hz, dp_int hw]
            exact .inr (.inr ⟨_, _, c, rfl, rfl, hl, hc, q _ _ _ g2 (.str _)⟩)
          · cases e
        · cases e
      · cases e
    · cases y with
      | int j =>
        have e' : atD ds j = .ok d := e
        unfold atD at e'
        split at e'
        · rename_i d' hd'
          cases e'
          obtain ⟨v, k1, k2⟩ := atI_dps (dps_same g2.a _ _ hds) hd'
          rw [dp_int hw]
          exact .inl ⟨p, vs, _, v, rfl, rfl, SqL.of (g2.b _ _ hp), k1, q _ _ _ g2 k2⟩
        · cases e'
      | none => cases e
      | bool _ => cases e
      | str _ => cases e
      | list _ => cases e
      | tuple _ => cases e
      | dict _ => cases e
def tDO (X : Cx) (f : Env → R (Option Int)) : TO := fun σ H Q => ∃ B env H0 o, Rel X.K X.mg B env σ H0 H ∧ f env = .ok o ∧ ∀ H0' H', Grow H0 H H0' H' → Q o H'
theorem PO.imp {e : Option Expr} {t t' : TO} (h : PO X e t) (k : ∀ σ H Q, t' σ H Q → t σ H Q) : PO X e t' := ⟨fun pins s σ H Q I q => h.run pins s σ H Q I (k _ _ _ q)⟩
theorem do_none : PO X none (tDO X fun _ => .ok none) := PO.imp po_none fun σ H Q ⟨B, env, H0, o, r, e, q⟩ => by
  cases e
  exact q _ _ (Grow.refl r.sub)
theorem do_some {e : Expr} {f : Env → R D} (h : DE X e f) : PO X (some e) (tDO X fun env => f env >>= intO) := PO.imp (po_some h) fun σ H Q ⟨B, env, H0, o, r, e, q⟩ => by
  obtain ⟨d, e1, e⟩ := R.bind_ok e
  unfold intO at e
  split at e
  · cases e
    exact ⟨B, env, H0, _, r, e1, fun v H1 H1' g hv => ⟨_, dp_int hv, q _ _ g⟩⟩
  · cases e
theorem de_sl {a : Expr} {lo hi : Option Expr} {fa : Env → R D} {fl fh : Env → R (Option Int)} {pos p2 : Pos} (ha : DE X a fa) (hl : PO X lo (tDO X fl)) (hh : PO X hi (tDO X fh)) :
    DE X (.Subscript a (.Slice lo hi none p2) pos) (fun env => fa env >>= fun x => fl env >>= fun l => fh env >>= fun h => slD x l h) :=
  PE.imp (pe_slice sl_D ha hl hh) fun σ H Q ⟨B, env, H0, d, r, e, q⟩ => by
    obtain ⟨x, e1, e⟩ := R.bind_ok e
    obtain ⟨l, e2, e⟩ := R.bind_ok e
    obtain ⟨h, e3, e⟩ := R.bind_ok e
    refine ⟨B, env, H0, x, r, e1, fun v H1 H1' g1 hv => ⟨B, env, H1, l, r.grow g1, e2, fun H2 H2' g2 => ⟨B, env, H2, h, r.grow (g1.trans g2), e3, fun H3 H3' g3 => ?_⟩⟩⟩
    exact ⟨H3, x, d, g3.c, dp_same (g2.a.trans g3.a) _ _ hv, e, fun z H4 H4' g4 hz => q z _ _ (g1.trans (g2.trans (g3.trans g4))) hz⟩
/-! ### calls -/
/-- a def that computes F -/
def spF (K : PySem.W.Frag) (F : List D → R D) : Sp := fun vs H Q _ => ∃ H0 ds d, Same H0 H ∧ DpAll K H0 vs ds ∧ F ds = .ok d ∧ ∀ v H0' H', Grow H0 H H0' H' → Dp K H0' v d → Q v H'
def Callee (P : Program) (w : World) (K : PySem.W.Frag) (mg : Str → Option Value) (base : Heap) (k : Nat) (x : Str) (F : List D → R D) : Prop :=
  ∃ f fd ps, mg x = some (.ref f) ∧ PySem.W.keepIn K (.ref f) = true ∧ Binds K fd ps [] ∧ FnOk P w K mg base CX0 k f fd ps (spF K F)
theorem Callee.mono {P : Program} {w : World} {K : PySem.W.Frag} {mg : Str → Option Value} {base : Heap} {j k : Nat} {x : Str} {F : List D → R D} (h : Callee P w K mg base j x F) (hj : j ≤ k) : Callee P w K mg base k x F := by
  obtain ⟨f, fd, ps, h1, h2, h3, h4⟩ := h
  exact ⟨f, fd, ps, h1, h2, h3, h4.mono hj⟩
theorem call_tail {g : Env → R (List D)} {F : List D → R D} {σ : L2.St} {H : Hp} {Q : VK} (h : tD X (fun env => g env >>= fun ds => F ds) σ H Q) : tCall (spF X.K F) [] E0 (tDs X g) σ H Q := by
  obtain ⟨B, env, H0, d, r, e, q⟩ := h
  obtain ⟨ds, e1, e⟩ := R.bind_ok e
  refine ⟨B, env, H0, ds, r, e1, fun vs H1 H1' g1 hv => ?_⟩
  show spF X.K F (vs ++ []) H1' Q E0
  rw [List.append_nil]
  exact ⟨H1, ds, d, g1.c, hv, e, fun v H2 H2' g2 hd => q _ _ _ (g1.trans g2) hd⟩
theorem de_call0 {k : Nat} {x : Str} {p pos : Pos} {F : List D → R D} (C : Callee X.prog X.w X.K X.mg X.base k x F) (hr : Room k X.A) (hg : Gl X x) (hdb : (x == ("__debug__" : Str)) = false) :
    DE X (.Call (.Name x p) [] [] pos) (fun env => F []) := by
  obtain ⟨f, fd, ps, h1, h2, h3, h4⟩ := C
  refine PE.imp (pe_call0 (E := E0) h4 hr hg h1 h2 h3 .nil pass0 hdb) fun σ H Q ⟨B, env, H0, d, r, e, q⟩ => ?_
  exact ⟨H0, [], d, r.sub, .nil, e, fun v H2 H2' g2 hd => q _ _ _ g2 hd⟩
theorem de_call {k : Nat} {x : Str} {p pos : Pos} {e : Expr} {es : List Expr} {g : Env → R (List D)} {F : List D → R D} (C : Callee X.prog X.w X.K X.mg X.base k x F) (hr : Room k X.A) (hg : Gl X x) (hdb : (x == ("__debug__" : Str)) = false) (h : DEs X (e :: es) g)
    (hst : starEach (e :: es) X.env = (false, eval e X.env) :: starEach es X.env) (hpl : (backTo pos (starEach es X.env)).any (·.1) = false) :
    DE X (.Call (.Name x p) (e :: es) [] pos) (fun env => g env >>= fun ds => F ds) := by
  obtain ⟨f, fd, ps, h1, h2, h3, h4⟩ := C
  exact PE.imp (pe_call (E := E0) h4 hr hg h1 h2 h3 .nil pass0 h hdb hst hpl) fun σ H Q q => call_tail q
/-- a built-in function -/
theorem de_bi {x : Str} {p pos : Pos} {e : Expr} {es : List Expr} {g : Env → R (List D)} {G : List D → R D} {u : Value} (hc : CallR X u (rC X.K G)) (hu : (∃ id, u = .builtin id) ∨ ∃ T, u = .type T) (hg : Gl X x) (hm : X.mg x = none) (hv : bootBuiltins x = some u)
    (hn : x ≠ "__name__") (hdb : (x == ("__debug__" : Str)) = false) (h : DEs X (e :: es) g)
    (hst : starEach (e :: es) X.env = (false, eval e X.env) :: starEach es X.env) (hpl : (backTo pos (starEach es X.env)).any (·.1) = false) :
    DE X (.Call (.Name x p) (e :: es) [] pos) (fun env => g env >>= fun ds => G ds) := by
  have fin : PE X (.Call (.Name x p) (e :: es) [] pos) (tCB (rC X.K G) (tDs X g)) := by
    rcases hu with ⟨id, rfl⟩ | ⟨T, rfl⟩
    · exact pe_callB hc hg hm hv h hn hdb hst hpl
    · exact pe_callTy hc hg hm hv h hn hdb hst hpl
  refine PE.imp fin fun σ H Q ⟨B, env, H0, d, r, e, q⟩ => ?_
  obtain ⟨ds, e1, e⟩ := R.bind_ok e
  exact ⟨B, env, H0, ds, r, e1, fun vs H1 H1' g1 hv => ⟨H1, ds, d, g1.c, hv, e, fun v H2 H2' g2 hd => q _ _ _ (g1.trans g2) hd⟩⟩
/-- sorted({a: True, b: True}) -/
theorem de_pairSet (hc : X.calm = true) {x : Str} {p p1 p2 p3 pos : Pos} {b1 b2 : Nat} {a b : Expr} {fa fb : Env → R D} (hg : Gl X "sorted") (hm : X.mg "sorted" = none) (ha : DE X a fa) (hb : DE X b fb) :
    DE X (.Call (.Name "sorted" p) [.Dict [some a, some b] [.Constant (.bool true) b1 p1, .Constant (.bool true) b2 p2] p3] [] pos) (fun env => fa env >>= fun x => fb env >>= fun y => pairSetD [x, y]) := by
  refine PE.imp (pe_callB (call_sortedDI hc) hg hm (by decide +kernel) (pa_cons (pe_disp (pps_cons ha pe_bl (pps_cons hb pe_bl pps_nil)) (by rfl) (by rfl) (fun z => by cases z) (show (2 : Nat) ≤ 15 by decide)) pa_nil)) fun σ H Q ⟨B, env, H0, d, r, e, q⟩ => ?_
  obtain ⟨x, e1, e3⟩ := R.bind_ok e
  obtain ⟨y, e2, e4⟩ := R.bind_ok e3
  clear e e3
  unfold pairSetD at e4
  split at e4
  · rename_i i j ez
    simp only [List.cons.injEq, and_true] at ez
    obtain ⟨ez1, ez2⟩ := ez
    subst ez1 ez2
    have ed := R.ok.inj e4
    subst ed
    intro p hp
    have g0 := Grow.newH (o := .dK []) r.sub hp
    refine ⟨B, env, H0, _, r.grow g0, e1, fun v H1 H1' g1 hv => ?_⟩
    rw [dp_int hv]
    refine ⟨B, env, H1, _, (r.grow g0).grow g1, e2, fun w H2 H2' g2 hw => ?_⟩
    rw [dp_int hw]
    have gg := (g0.trans g1).trans g2
    have hp2 : H2' p = some (.dK []) := (g1.trans g2).b _ _ upd_same
    have h0 : H0 p = none := r.sub.free hp
    have h2 : H2 p = none := (g1.trans g2).d p (by rw [upd_same]; simp) h0
    refine ⟨hp2, [(.inl i, .bl true), (.inl j, .bl true)], rfl, (show (2 : Nat) ≤ 15 by decide), ?_⟩
    have gs : Grow H0 H H2 (upd H2' p (.dK (mergeK [] [(.inl i, .bl true), (.inl j, .bl true)]))) := by
      refine ⟨gg.a, fun b u e => ?_, fun b u e => ?_, gg.d⟩
      · rw [upd_ne (ne_of_none e hp)]; exact gg.b b u e
      · rw [upd_ne (ne_of_none e h2)]; exact gg.c b u e
    refine ⟨p, _, if i = j then [i] else [i, j], rfl, .of upd_same, ?_, ?_, fun ys p2 pm hr hp2 => ?_⟩
    · by_cases hij : i = j
      · subst hij; simp [mergeK, putK]
      · simp [mergeK, putK, hij]
    · split
      · exact (show (1 : Nat) < 64 by decide)
      · exact (show (2 : Nat) < 64 by decide)
    · rw [sortI_uniq pm hr]
      exact q _ _ _ (gs.trans (Grow.new gs.c hp2)) (dp_newL gs.c hp2 (dps_ints _))
  · cases e4
/-- a built-in function by a name of the module -/
theorem de_bfun {x : Str} {p pos : Pos} {e : Expr} {es : List Expr} {g : Env → R (List D)} {G : List D → R D} {id : String} (hc : CallR X (.builtin id) (rC X.K G)) (hg : Gl X x) (hm : X.mg x = some (.builtin id)) (hdb : (x == ("__debug__" : Str)) = false) (h : DEs X (e :: es) g)
    (hst : starEach (e :: es) X.env = (false, eval e X.env) :: starEach es X.env) (hpl : (backTo pos (starEach es X.env)).any (·.1) = false) :
    DE X (.Call (.Name x p) (e :: es) [] pos) (fun env => g env >>= fun ds => G ds) := by
  refine PE.imp (pe_callBfun hc hg hm h hdb hst hpl) fun σ H Q ⟨B, env, H0, d, r, e, q⟩ => ?_
  obtain ⟨ds, e1, e⟩ := R.bind_ok e
  exact ⟨B, env, H0, ds, r, e1, fun vs H1 H1' g1 hv => ⟨H1, ds, d, g1.c, hv, e, fun v H2 H2' g2 hd => q _ _ _ (g1.trans g2) hd⟩⟩
/-- len(a), a a name that may hold an owned list -/
theorem de_olen {i : Nat} {x : Str} {p p2 pos : Pos} (hg : Gl X "len") (hm : X.mg "len" = none) (hN : X.N[i]? = some x) (hv : Vis X.env.scope x) (hd : (x == ("__debug__" : Str)) = false) (hcd : (x == ("__classdict__" : Str)) = false) :
    DE X (.Call (.Name "len" p) [.Name x p2] [] pos) (fun env => peek env i >>= lenD) := by
  refine PE.imp (pe_callB call_len hg hm PySem.boot_len (pa_cons (pe_var hN hv hd hcd) pa_nil)) fun σ H Q ⟨B, env, H0, d, r, e, q⟩ => ?_
  obtain ⟨z, e1, e⟩ := R.bind_ok e
  obtain ⟨v, hσ, hz⟩ := r.peekL e1
  have hz := peek_dp r.sub hz
  refine ⟨v, hσ, ?_⟩
  unfold lenD at e
  split at e
  · cases e
    obtain ⟨a, vs, rfl, ha, hd⟩ := dp_list hz
    refine ⟨_, vs.length, rfl, .inl ⟨vs, ha, rfl⟩, ?_⟩
    rw [dps_length hd]
    exact q _ _ _ (Grow.refl r.sub) (.int _)
  · cases e
    obtain ⟨a, vs, rfl, ha, hd⟩ := dp_tup hz
    refine ⟨_, vs.length, rfl, .inr ⟨vs, ha, rfl⟩, ?_⟩
    rw [dps_length hd]
    exact q _ _ _ (Grow.refl r.sub) (.int _)
  · split at e
    · rename_i hl
      cases e
      rw [dp_str hz]
      exact ⟨_, _, rfl, ⟨hl, rfl⟩, q _ _ _ (Grow.refl r.sub) (.int _)⟩
    · cases e
  · cases e
/-! ### isinstance -/
theorem dp_ty {v : V} {d : D} {H : Hp} (h : Dp X.K H v d) : TyX X.K H v (.type (tyD d)) := by
  cases d with
  | none => rw [dp_non h]; exact .base .non
  | bool b => rw [dp_bool h]; exact .base (.bl b)
  | int i => rw [dp_int h]; exact .base (.int i)
  | str x => rw [dp_str h]; exact .base (.str x)
  | list ds =>
    obtain ⟨a, vs, rfl, ha, _⟩ := dp_list h
    rcases ha with (ha | ⟨o, ha⟩) | ⟨o, its, n, hk, hc, _⟩
    · exact .base (.lst ha)
    · exact .base (.frz ha)
    · exact .kList hk hc
  | tuple ds =>
    obtain ⟨a, vs, rfl, ha, _⟩ := dp_tup h
    rcases ha with (ha | ⟨o, ha⟩) | ⟨o, its, n, hk, hc, _⟩
    · exact .base (.tup ha)
    · exact .fTuple ha
    · exact .kTuple hk hc
  | dict x => cases h
def isiTypes : List String := ["list", "tuple", "bool", "int", "str"]
theorem kit_isTy (d : D) {t : String} (ht : t ∈ isiTypes) : PySem.W.kitOne X.K (.type (tyD d)) (.type t) = some (isTy d t) := by
  have h2 : ∀ a ∈ ["NoneType", "bool", "int", "str", "list", "tuple", "dict"], ∀ t ∈ isiTypes, kitB a t = some (a == t || (a == "bool" && t == "int")) := by decide +kernel
  exact kit_ty (h2 _ (by cases d <;> simp [tyD]) t ht)
theorem isi_boot {t : String} (ht : t ∈ isiTypes) : bootBuiltins (Str.ofString t) = some (.type t) ∧ (Str.ofString t ≠ ("__name__" : Str)) ∧ ((Str.ofString t == ("__debug__" : Str)) = false) := by
  have h : ∀ t ∈ isiTypes, (bootBuiltins (Str.ofString t) == some (.type t)) = true ∧ (Str.ofString t ≠ ("__name__" : Str)) ∧ ((Str.ofString t == ("__debug__" : Str)) = false) := by decide +kernel
  obtain ⟨h1, h2, h3⟩ := h t ht
  exact ⟨eq_of_beq h1, h2, h3⟩
theorem de_isi {e : Expr} {f : Env → R D} {t : String} {p p2 pos : Pos} (h : DE X e f) (ht : t ∈ isiTypes) (hg : Gl X "isinstance") (hm : X.mg "isinstance" = none) (hgt : Gl X (Str.ofString t)) (hmt : X.mg (Str.ofString t) = none)
    (hst : starEach [e, .Name (Str.ofString t) p2] X.env = (false, eval e X.env) :: starEach [.Name (Str.ofString t) p2] X.env) :
    DE X (.Call (.Name "isinstance" p) [e, .Name (Str.ofString t) p2] [] pos) (fun env => f env >>= fun x => .ok (.bool (isTy x t))) := by
  obtain ⟨b1, b2, b3⟩ := isi_boot ht
  refine PE.imp (pe_callB call_isi hg hm PyProof.Rows.boot_isinstance (pa_cons h (pa_cons (pe_bltn (v := .ty t) hgt hmt b1 rfl b2 b3) pa_nil) hst) (by decide) (by decide) hst (by rfl)) fun σ H Q ⟨B, env, H0, d, r, e, q⟩ => ?_
  obtain ⟨x, e1, e⟩ := R.bind_ok e
  cases e
  refine ⟨B, env, H0, x, r, e1, fun v H1 H1' g1 hv => ?_⟩
  exact ⟨v, .ty t, .type (tyD x), .type t, isTy x t, rfl, .ty t, dp_ty (dp_same g1.c _ _ hv), kit_isTy x ht, q _ _ _ g1 (.bl _)⟩
/-! ### methods of built-in types -/
theorem de_count {o e : Expr} {fo : Env → R D} {g : Env → R (List D)} {apos cpos : Pos} (ho : DE X o fo) (h : DEs X [e] g) (hbase : attributeBase o "count" X.env (eval o X.env) = eval o X.env) (hst : starEach [e] X.env = [(false, eval e X.env)])
    (hline : (apos.endLine == cpos.line) = true) : DE X (.Call (.Attribute o "count" apos) [e] [] cpos) (fun env => fo env >>= fun x => g env >>= fun ds => countD x ds) := by
  refine PE.imp (pe_bm PySem.F.plainAttrs_list PySem.F.slot_list_count PySem.F.type_list_count mt_countD ho h hbase (by rw [hst]; rfl) hline hst (by rfl)) fun σ H Q ⟨B, env, H0, d, r, e, q⟩ => ?_
  obtain ⟨x, e1, e⟩ := R.bind_ok e
  obtain ⟨ds, e2, e⟩ := R.bind_ok e
  refine ⟨B, env, H0, x, r, e1, fun v H1 H1' g1 hv => ⟨?_, B, env, H1, ds, r.grow g1, e2, fun vs H2 H2' g2 hvs => ?_⟩⟩
  · unfold countD at e
    split at e
    · obtain ⟨a, xs, rfl, ha, _⟩ := dp_list hv
      exact .inl ⟨rfl, xs, g1.c.seq ha⟩
    · cases e
  · exact ⟨H2, x, ds, d, g2.c, dp_same g2.a _ _ hv, hvs, e, fun z H3 H3' g3 hz => q z _ _ (g1.trans (g2.trans g3)) hz⟩
theorem de_bits {o : Expr} {fo : Env → R D} {apos cpos : Pos} (ho : DE X o fo) (hbase : attributeBase o "bit_length" X.env (eval o X.env) = eval o X.env) (hline : (apos.endLine == cpos.line) = true) :
    DE X (.Call (.Attribute o "bit_length" apos) [] [] cpos) (fun env => fo env >>= fun x => bitsD x []) := by
  refine PE.imp (pe_bits ho hbase hline) fun σ H Q ⟨B, env, H0, d, r, e, q⟩ => ?_
  obtain ⟨x, e1, e⟩ := R.bind_ok e
  refine ⟨B, env, H0, x, r, e1, fun v H1 H1' g1 hv => ?_⟩
  unfold bitsD at e
  split at e
  · cases e
    exact ⟨_, dp_int hv, q _ _ _ g1 (.int _)⟩
  · cases e
end
end Y

/-! Y7: loops' sources, targets, comprehensions. -/
namespace Y
open PySem L2 PyProof.Rows

/-! ### targets -/
mutual
def tgVars : Tg → List Nat
  | .nm i => [i]
  | .tup ts => tgsVars ts
def tgsVars : List Tg → List Nat
  | [] => []
  | t :: ts => tgVars t ++ tgsVars ts
end
theorem wipe_in {σ : L2.St} {j : Nat} : ∀ {vs : List Nat}, j ∈ vs → (L2.wipe σ vs)[j]? = if j < σ.length then some none else none
  | [], h => by cases h
  | v :: vs, h => by
    show ((L2.wipe σ vs).set v none)[j]? = _
    have hl := L2.wipe_length σ vs
    by_cases q : v = j
    · subst q
      by_cases z : v < σ.length
      · rw [List.getElem?_set_self (by omega), if_pos z]
      · rw [List.getElem?_eq_none (by rw [List.length_set]; omega), if_neg z]
    · rw [List.getElem?_set_ne q]
      rcases List.mem_cons.mp h with e | e
      · exact absurd e.symm q
      · exact wipe_in e
theorem wipe_idem {σ : L2.St} {vs : List Nat} : L2.wipe (L2.wipe σ vs) vs = L2.wipe σ vs := by
  refine List.ext_getElem? fun j => ?_
  by_cases q : j ∈ vs
  · rw [wipe_in q, wipe_in q, L2.wipe_length]
  · rw [wipe_out q]
theorem wipe_set {σ : L2.St} {i : Nat} {v : Option V} {vs : List Nat} (h : i ∈ vs) : L2.wipe (σ.set i v) vs = L2.wipe σ vs := by
  refine List.ext_getElem? fun j => ?_
  by_cases q : j ∈ vs
  · rw [wipe_in q, wipe_in q, List.length_set]
  · rw [wipe_out q, wipe_out q, List.getElem?_set_ne (fun e => q (by rw [← e]; exact h))]
section
variable {X : Cx}
def tDG (X : Cx) (t : Tg) : TG := fun v σ H Q => ∃ B env H0 d env', Rel X.K X.mg B env σ H0 H ∧ Dp X.K H0 v d ∧ bindT t d env = .ok env' ∧
  ∀ σ', Rel X.K X.mg B env' σ' H0 H → (∀ vs, (∀ i ∈ tgVars t, i ∈ vs) → L2.wipe σ' vs = L2.wipe σ vs) → Q σ' H
def tDGs (X : Cx) (ts : List Tg) : TGs := fun vs σ H Q => ∃ B env H0 ds env', Rel X.K X.mg B env σ H0 H ∧ DpAll X.K H0 vs ds ∧ bindTs ts ds env = .ok env' ∧
  ∀ σ', Rel X.K X.mg B env' σ' H0 H → (∀ vs, (∀ i ∈ tgsVars ts, i ∈ vs) → L2.wipe σ' vs = L2.wipe σ vs) → Q σ' H
abbrev DG (X : Cx) (e : Expr) (t : Tg) : Prop := PG X e (tDG X t)
abbrev DGs (X : Cx) (es : List Expr) (ts : List Tg) : Prop := PGs X es (tDGs X ts)
theorem PG.imp {e : Expr} {t t' : TG} (h : PG X e t) (k : ∀ v σ H Q, t' v σ H Q → t v σ H Q) : PG X e t' := ⟨fun pins s σ H v u Q I r q => h.run pins s σ H v u Q I r (k _ _ _ _ q)⟩
theorem PGs.imp {e : List Expr} {t t' : TGs} (h : PGs X e t) (k : ∀ v σ H Q, t' v σ H Q → t v σ H Q) : PGs X e t' := ⟨fun pins s σ H v u Q I r q => h.run pins s σ H v u Q I r (k _ _ _ _ q)⟩
theorem dg_nm {i : Nat} {x : Str} {pos : Pos} (hN : X.N.Nodup) (hi : X.N[i]? = some x) (hx : Loc X.env.scope x) (hf : X.fn x = true ∨ X.env.scope.names.lookup x = some .local) : DG X (.Name x pos) (.nm i) :=
  PG.imp (pg_name hN hi hx hf) fun v σ H Q ⟨B, env, H0, d, env', r, hd, e, q⟩ => by
    have e' : (R.ok (env.set i (.val d)) : R Env) = .ok env' := by
      simpa only [bindT] using e
    cases e'
    exact q _ (r.set i hd) fun vs h => wipe_set (h i (by simp [tgVars]))
theorem dgs_nil : DGs X [] [] := PGs.imp pgs_nil fun vs σ H Q ⟨B, env, H0, ds, env', r, hd, e, q⟩ => by
  cases ds with
  | nil =>
    cases hd
    have e' : (R.ok env : R Env) = .ok env' := by simpa only [bindTs] using e
    cases e'
    exact ⟨rfl, q σ r fun _ _ => rfl⟩
  | cons d ds => simp [bindTs] at e
theorem dgs_cons {e : Expr} {es : List Expr} {t : Tg} {ts : List Tg} (h1 : DG X e t) (h2 : DGs X es ts) (hs : (assignEach (e :: es) X.env).map (·.2) = assign e X.env :: (assignEach es X.env).map (·.2)) : DGs X (e :: es) (t :: ts) :=
  PGs.imp (pgs_cons h1 h2 hs) fun vs σ H Q ⟨B, env, H0, ds, env', r, hd, e, q⟩ => by
    cases ds with
    | nil => simp [bindTs] at e
    | cons d ds =>
      cases hd with
      | cons hd hds =>
        have e2 : (bindT t d env).bind (fun env2 => bindTs ts ds env2) = .ok env' := by simpa only [bindTs] using e
        obtain ⟨env2, e3, e4⟩ := R.bind_ok e2
        refine ⟨_, _, rfl, B, env, H0, d, env2, r, hd, e3, fun σ2 r2 w2 => ⟨B, env2, H0, ds, env', r2, hds, e4, fun σ3 r3 w3 => q σ3 r3 fun vs h => ?_⟩⟩
        rw [w3 vs fun i hi => h i (by simp [tgsVars, hi]), w2 vs fun i hi => h i (by simp [tgsVars, hi])]
theorem dg_tup {es : List Expr} {ts : List Tg} {k : Nat} {pos : Pos} (hc : X.calm = true) (h : DGs X es ts) (hlen : es.length = ts.length) (hn : (assignEach es X.env).length = es.length) (hst : (assignEach es X.env).findIdx? (·.1) = none) :
    DG X (.Tuple es k pos) (.tup ts) :=
  PG.imp (pg_tup hc h hn hst) fun v σ H Q ⟨B, env, H0, d, env', r, hd, e, q⟩ => by
    cases d with
    | tuple ds =>
      obtain ⟨a, xs, rfl, ha, hds⟩ := dp_tup hd
      have e' : bindTs ts ds env = .ok env' := by simpa only [bindT] using e
      have hl : ∀ (ts : List Tg) (ds : List D) (env env' : Env), bindTs ts ds env = .ok env' → ts.length = ds.length := by
        intro ts
        induction ts with
        | nil =>
          intro ds env env' h
          cases ds with
          | nil => rfl
          | cons d ds => simp [bindTs] at h
        | cons t ts ih =>
          intro ds env env' h
          cases ds with
          | nil => simp [bindTs] at h
          | cons d ds =>
            have e2 : (bindT t d env).bind (fun env2 => bindTs ts ds env2) = .ok env' := by simpa only [bindTs] using h
            obtain ⟨env2, e3, e4⟩ := R.bind_ok e2
            rw [List.length_cons, List.length_cons, ih ds _ _ e4]
      refine ⟨a, xs, rfl, seqT_same r.sub ha, by rw [dps_length hds, ← hl _ _ _ _ e', hlen], B, env, H0, ds, env', r, hds, e', fun σ' r' w => q σ' r' fun vs h => w vs fun i hi => h i (by simpa [tgVars] using hi)⟩
    | none => simp [bindT] at e
    | bool _ => simp [bindT] at e
    | int _ => simp [bindT] at e
    | str _ => simp [bindT] at e
    | list _ => simp [bindT] at e
    | dict _ => simp [bindT] at e

/-! ### what is walked -/
def Serves (K : PySem.W.Frag) (J : It) (H0 : Hp) (ds : List D) : Prop := ∀ H0' H', Same H0 H0' → Same H0' H' → ∀ i, (ds.length ≤ i → J.stop i H') ∧ ∀ d, ds[i]? = some d → J.go i H' ∧ ∀ x H2, J.yld i H' x H2 → ∃ H0'', Grow H0' H' H0'' H2 ∧ Dp K H0'' x d
def tDI (X : Cx) (f : Env → R (List D)) : TI := fun σ H R => ∃ B env H0 ds, Rel X.K X.mg B env σ H0 H ∧ f env = .ok ds ∧ ∀ J H0' H', Grow H0 H H0' H' → Serves X.K J H0' ds → R J H'
abbrev DI (X : Cx) (tg e : Expr) (f : Env → R (List D)) : Prop := PI X tg e (tDI X f)
theorem PI.imp {tg e : Expr} {w w' : TI} (h : PI X tg e w) (k : ∀ σ H R, w' σ H R → w σ H R) : PI X tg e w' := ⟨fun pins s σ H R I q => h.run pins s σ H R I (k _ _ _ q)⟩
theorem PI.or {tg e : Expr} {w w' : TI} (h : PI X tg e w) (h' : PI X tg e w') : PI X tg e (fun σ H R => w σ H R ∨ w' σ H R) := ⟨fun pins s σ H R I q => q.elim (h.run pins s σ H R I) (h'.run pins s σ H R I)⟩
theorem serves_list {K : PySem.W.Frag} {H0 : Hp} {a : Addr} {xs : List V} {ds : List D} (h : SqL K H0 a xs) (hd : DpAll K H0 xs ds) : Serves K (Itl K a) H0 ds := fun H0' H' s1 s2 i => by
  have hl := dps_length hd
  refine ⟨fun hi => ⟨xs, (s1.trans s2).seq h, by omega⟩, fun d e => ?_⟩
  obtain ⟨v, e1, e2⟩ := dps_get hd e
  refine ⟨⟨xs, v, (s1.trans s2).seq h, e1⟩, fun x H2 ⟨e3, y⟩ => ?_⟩
  subst e3
  have e4 := y xs ((s1.trans s2).seq h)
  rw [e1] at e4
  cases e4
  exact ⟨H0', Grow.refl s2, dp_same s1 _ _ e2⟩
theorem serves_tup {K : PySem.W.Frag} {H0 : Hp} {a : Addr} {xs : List V} {ds : List D} (h : SqT K H0 a xs) (hd : DpAll K H0 xs ds) : Serves K (Itt K a) H0 ds := fun H0' H' s1 s2 i => by
  have hl := dps_length hd
  refine ⟨fun hi => ⟨xs, seqT_same (s1.trans s2) h, by omega⟩, fun d e => ?_⟩
  obtain ⟨v, e1, e2⟩ := dps_get hd e
  refine ⟨⟨xs, v, seqT_same (s1.trans s2) h, e1⟩, fun x H2 ⟨e3, y⟩ => ?_⟩
  subst e3
  have e4 := y xs (seqT_same (s1.trans s2) h)
  rw [e1] at e4
  cases e4
  exact ⟨H0', Grow.refl s2, dp_same s1 _ _ e2⟩
theorem di_seq {tg e : Expr} {f : Env → R D} (h : DE X e f) : DI X tg e (fun env => f env >>= iterD) :=
  PI.imp (PI.or (pi_list h) (pi_tup h)) fun σ H S ⟨B, env, H0, ds, r, e, q⟩ => by
    obtain ⟨d, e1, e⟩ := R.bind_ok e
    unfold iterD at e
    split at e
    · cases e
      refine .inl ⟨B, env, H0, _, r, e1, fun v H1 H1' g hv => ?_⟩
      obtain ⟨a, xs, rfl, ha, hd⟩ := dp_list hv
      exact ⟨a, rfl, ⟨xs, g.c.seq ha⟩, q _ _ _ g (serves_list ha hd)⟩
    · cases e
      refine .inr ⟨B, env, H0, _, r, e1, fun v H1 H1' g hv => ?_⟩
      obtain ⟨a, xs, rfl, ha, hd⟩ := dp_tup hv
      exact ⟨a, rfl, ⟨xs, seqT_same g.c ha⟩, q _ _ _ g (serves_tup ha hd)⟩
    · cases e
theorem serves_range {K : PySem.W.Frag} {H0 : Hp} (lo hi : Int) : Serves K (Itr lo (hi - lo).toNat) H0 (rangeL lo hi) := fun H0' H' s1 s2 i => by
  have hl : (rangeL lo hi).length = (hi - lo).toNat := by simp [rangeL]
  refine ⟨fun h => by show (hi - lo).toNat ≤ i; omega, fun d e => ?_⟩
  have hi' : i < (hi - lo).toNat := by
    have := (List.getElem?_eq_some_iff.mp e).1
    omega
  refine ⟨hi', fun x H2 ⟨e3, y⟩ => ?_⟩
  subst e3 y
  have : d = .int (lo + (i : Nat)) := by
    unfold rangeL at e
    rw [List.getElem?_map, List.getElem?_range hi'] at e
    exact (Option.some.inj e).symm
  subst this
  exact ⟨H0', Grow.refl s2, .int _⟩
theorem smallI_ok {i : Int} (h : smallI i = true) : -(2 ^ 62) ≤ i ∧ i < 2 ^ 62 := by
  unfold smallI at h
  rw [Bool.and_eq_true] at h
  exact ⟨of_decide_eq_true h.1, of_decide_eq_true h.2⟩
theorem range_small {ds ls : List D} (e : itBi "range" ds = .ok ls) : (∃ j, ds = [.int j] ∧ smallI j = true ∧ ls = rangeL 0 j) ∨ ∃ i j, ds = [.int i, .int j] ∧ smallI i = true ∧ smallI j = true ∧ ls = rangeL i j := by
  have e : rangeD ds = .ok ls := e
  unfold rangeD at e
  split at e
  · split at e
    · rename_i h
      cases e
      exact .inl ⟨_, rfl, h, rfl⟩
    · cases e
  · split at e
    · rename_i h
      rw [Bool.and_eq_true] at h
      cases e
      exact .inr ⟨_, _, rfl, h.1, h.2, rfl⟩
    · cases e
  · cases e
theorem di_range1 {tg a : Expr} {fa : Env → R D} {p pos : Pos} (hg : Gl X "range") (hm : X.mg "range" = none) (ha : DE X a fa) (hs : starEach [a] X.env = [(false, eval a X.env)]) :
    DI X tg (.Call (.Name "range" p) [a] [] pos) (fun env => fa env >>= fun d => itBi "range" [d]) :=
  PI.imp (pi_range1 hg hm (pa_cons ha pa_nil hs) hs) fun σ H S ⟨B, env, H0, ds, r, e, q⟩ => by
    obtain ⟨d, e1, e⟩ := R.bind_ok e
    refine ⟨B, env, H0, d, r, e1, fun v H1 H1' g1 hv => ?_⟩
    rcases range_small e with ⟨j, h1, h2, h3⟩ | ⟨i, j, h1, _⟩
    · cases h1
      subst h3
      obtain ⟨j1, j2⟩ := smallI_ok h2
      rw [dp_int hv]
      refine ⟨j, rfl, j1, j2, q _ _ _ g1 ?_⟩
      have := serves_range (K := X.K) (H0 := H1) 0 j
      simpa using this
    · cases h1
theorem di_range2 {tg a b : Expr} {fa fb : Env → R D} {p pos : Pos} (hg : Gl X "range") (hm : X.mg "range" = none) (ha : DE X a fa) (hb : DE X b fb) (hs : starEach [a, b] X.env = [(false, eval a X.env), (false, eval b X.env)]) (hs2 : starEach [b] X.env = [(false, eval b X.env)]) :
    DI X tg (.Call (.Name "range" p) [a, b] [] pos) (fun env => fa env >>= fun d => fb env >>= fun d2 => itBi "range" [d, d2]) :=
  PI.imp (pi_range2 hg hm (pa_cons ha (pa_cons hb pa_nil hs2) (by rw [hs, hs2])) hs hs2) fun σ H S ⟨B, env, H0, ds, r, e, q⟩ => by
    obtain ⟨d, e1, e⟩ := R.bind_ok e
    obtain ⟨d2, e2, e⟩ := R.bind_ok e
    refine ⟨B, env, H0, d, r, e1, fun v H1 H1' g1 hv => ⟨B, env, H1, d2, r.grow g1, e2, fun w H2 H2' g2 hw => ?_⟩⟩
    rcases range_small e with ⟨j, h1, h2, h3⟩ | ⟨i, j, h1, h2, h3, h4⟩
    · cases h1
    · cases h1
      subst h4
      obtain ⟨i1, i2⟩ := smallI_ok h2
      obtain ⟨j1, j2⟩ := smallI_ok h3
      rw [dp_int hv, dp_int hw]
      exact ⟨i, j, rfl, ⟨i1, i2, j1, j2⟩, q _ _ _ (g1.trans g2) (serves_range i j)⟩

/-! ### comprehensions -/
def tYesD (X : Cx) (f : Env → R Bool) : TT := tDT X f
theorem PTs.imp {ifs : List Expr} {t t' : TT} (h : PTs X ifs t) (k : ∀ σ H Q, t' σ H Q → t σ H Q) : PTs X ifs t' := ⟨fun pins s σ H Q I q => h.run pins s σ H Q I (k _ _ _ q)⟩
theorem dts_nil : PTs X [] (tDT X fun _ => .ok true) := PTs.imp pts_nil fun σ H Q ⟨B, env, H0, b, r, e, q⟩ => by
  cases e
  exact q _ _ (Grow.refl r.sub)
def stepC (t : Tg) (own : List Nat) (ft : Env → R Bool) (fe : Env → R D) (env : Env) (d : D) : R (Option D) :=
  (bindT t d (wipeE env own)).bind fun env' => (ft env').bind fun k => if k = true then (fe env').bind fun x => .ok (some x) else .ok none
theorem compD_length {f : D → R (Option D)} : ∀ {ds rs : List D}, compD f ds = .ok rs → rs.length ≤ ds.length
  | [], rs, e => by cases e; exact Nat.le_refl _
  | d :: ds, rs, e => by
    have e' : ((f d).bind fun o => (compD f ds).bind fun r => .ok (match o with | some x => x :: r | none => r)) = .ok rs := e
    obtain ⟨o, e1, e2⟩ := R.bind_ok e'
    obtain ⟨r, e3, e4⟩ := R.bind_ok e2
    have := compD_length e3
    cases e4
    cases o with
    | none => simp; omega
    | some x => simp; omega
theorem df_comp {own : List (Str × Nat)} {fi : Env → R (List D)} {t : Tg} {ft : Env → R Bool} {fe : Env → R D} :
    ∀ σ H Q, tDF X (fun env => fi env >>= fun ds => if ds.length ≤ sizeLine then compD (stepC t (own.map (·.2)) ft fe env) ds else .no) σ H Q → (∀ i ∈ tgVars t, i ∈ own.map (·.2)) →
      tLc (tDI X fi) (tDG X t) (tDT X ft) (tD X fe) (own.map (·.2)) σ H Q := by
  intro σ H Q ⟨B, env, H0, total, r, e, q⟩ htg
  obtain ⟨ds, e1, e⟩ := R.bind_ok e
  split at e
  case isFalse => cases e
  rename_i hz
  refine ⟨B, env, H0, ds, r, e1, fun J H1 H1' g1 sv Dn hDn => ?_⟩
  refine ⟨fun i m H => m = ds.length - i ∧ i ≤ ds.length ∧ ∃ H2 acc rs rest, Grow H1 H1' H2 H ∧ H Dn = some (.lst acc) ∧ H2 Dn = none ∧ DpAll X.K H2 acc rs ∧ compD (stepC t (own.map (·.2)) ft fe env) (ds.drop i) = .ok rest ∧ rs ++ rest = total ∧ rs.length ≤ i,
    ⟨ds.length, by simp, Nat.zero_le _, H1, [], [], total, Grow.newH g1.c hDn, upd_same, g1.c.free hDn, .nil, by simpa using e, rfl, Nat.le_refl _⟩, ?_⟩
  rintro i m H3 ⟨rfl, hi, H2, acc, rs, rest, g2, hD, h2D, hacc, ec, et, hl⟩
  have s2 := sv H2 H3 g2.a g2.c i
  by_cases hlt : i < ds.length
  · refine .inr ⟨(s2.2 ds[i] (List.getElem?_eq_getElem hlt)).1, fun H4 => i + 1 ≤ ds.length ∧ ∃ H2 acc rs rest, Grow H1 H1' H2 H4 ∧ H4 Dn = some (.lst acc) ∧ H2 Dn = none ∧ DpAll X.K H2 acc rs ∧ compD (stepC t (own.map (·.2)) ft fe env) (ds.drop (i + 1)) = .ok rest ∧ rs ++ rest = total ∧ rs.length ≤ i + 1,
      fun H4 h4 => ⟨ds.length - (i + 1), by omega, rfl, h4⟩, fun x H4 y => ?_⟩
    obtain ⟨H2', g3, hx⟩ := (s2.2 ds[i] (List.getElem?_eq_getElem hlt)).2 x H4 y
    have hdrop : ds.drop i = ds[i] :: ds.drop (i + 1) := List.drop_eq_getElem_cons hlt
    rw [hdrop] at ec
    have ec' : ((stepC t (own.map (·.2)) ft fe env ds[i]).bind fun o => (compD (stepC t (own.map (·.2)) ft fe env) (ds.drop (i + 1))).bind fun r => .ok (match o with | some x => x :: r | none => r)) = .ok rest := ec
    obtain ⟨o, e2, e3⟩ := R.bind_ok ec'
    obtain ⟨rest', e4, e5⟩ := R.bind_ok e3
    unfold stepC at e2
    obtain ⟨env', e6, e7⟩ := R.bind_ok e2
    obtain ⟨k, e8, e9⟩ := R.bind_ok e7
    have gA := g1.trans (g2.trans g3)
    have hD4 : H4 Dn = some (.lst acc) := g3.b _ _ hD
    have h2D4 : H2' Dn = none := g3.d Dn (by rw [hD]; simp) h2D
    refine ⟨B, wipeE env (own.map (·.2)), H2', ds[i], env', (r.grow gA).wipe _, hx, e6, fun σ' r' w' => ⟨(w' _ htg).trans wipe_idem, ?_⟩⟩
    refine ⟨B, env', H2', k, r', e8, fun H5 H5' g5 => ?_⟩
    have hD5 : H5' Dn = some (.lst acc) := g5.b _ _ hD4
    have h2D5 : H5 Dn = none := g5.d Dn (by rw [hD4]; simp) h2D4
    cases k with
    | false =>
      simp only [Bool.false_eq_true, if_false] at e9 ⊢
      cases e9
      cases e5
      exact ⟨hlt, H5, acc, rs, rest', g2.trans (g3.trans g5), hD5, h2D5, dps_same (g3.a.trans g5.a) _ _ hacc, e4, et, by omega⟩
    | true =>
      simp only [if_true] at e9 ⊢
      obtain ⟨xv, e10, e11⟩ := R.bind_ok e9
      cases e11
      cases e5
      refine ⟨B, env', H5, xv, r'.grow g5, e10, fun v H6 H6' g6 hv => ?_⟩
      have hD6 : H6' Dn = some (.lst acc) := g6.b _ _ hD5
      have h2D6 : H6 Dn = none := g6.d Dn (by rw [hD5]; simp) h2D5
      have hla := dps_length hacc
      refine ⟨acc, hD6, by omega, hlt, H6, acc ++ [v], rs ++ [xv], rest', ?_, upd_same, h2D6, dps_append (dps_same (g3.a.trans (g5.a.trans g6.a)) _ _ hacc) (.cons hv .nil), e4, by rw [List.append_assoc]; exact et, by simp; omega⟩
      have gB := g2.trans (g3.trans (g5.trans g6))
      refine ⟨gB.a, fun b o z => ?_, fun b o z => ?_, gB.d⟩
      · rw [upd_ne (fun h => by rw [h, hDn] at z; cases z)]
        exact gB.b _ _ z
      · rw [upd_ne (fun h => by rw [h, h2D6] at z; cases z)]
        exact gB.c _ _ z
  · have hi' : i = ds.length := by omega
    subst hi'
    refine .inl ⟨s2.1 (Nat.le_refl _), ?_⟩
    rw [List.drop_length] at ec
    cases ec
    rw [List.append_nil] at et
    subst et
    exact q Dn acc H2 H3 (g1.trans g2) (g1.b.free hDn) h2D hD hacc
end
end Y

/-! Y8: statements. -/
namespace Y
open PySem L2 PyProof.Rows

section
variable {X : Cx}
def PostO (X : Cx) (B : Base) (o : Out) (D : Ends) : Prop := match o with
  | .nx e => ∀ σ' H0' H', Rel X.K X.mg B e σ' H0' H' → D.nx σ' H'
  | .bk e => ∀ σ' H0' H', Rel X.K X.mg B e σ' H0' H' → D.bk σ' H'
  | .ct e => ∀ σ' H0' H', Rel X.K X.mg B e σ' H0' H' → D.ct σ' H'
  | .rt d e => ∀ v σ' H0' H', Rel X.K X.mg B e σ' H0' H' → Dp X.K H0' v d → D.rt v H'
def tDS (X : Cx) (g : Env → R Out) : TS := fun D σ H => ∃ B env H0 o, Rel X.K X.mg B env σ H0 H ∧ g env = .ok o ∧ PostO X B o D
abbrev DS (X : Cx) (st : Stmt) (g : Env → R Out) : Prop := PS X st (tDS X g)
abbrev DSs (X : Cx) (sts : List Stmt) (g : Env → R Out) : Prop := PSs X sts (tDS X g)
theorem PS.imp {st : Stmt} {t t' : TS} (h : PS X st t) (k : ∀ D σ H, t' D σ H → t D σ H) : PS X st t' := ⟨fun pins s σ H D I q => h.run pins s σ H D I (k _ _ _ q)⟩
theorem PSs.imp {st : List Stmt} {t t' : TS} (h : PSs X st t) (k : ∀ D σ H, t' D σ H → t D σ H) : PSs X st t' := ⟨fun pins s σ H D I q => h.run pins s σ H D I (k _ _ _ q)⟩
theorem PostO.of {B : Base} {o : Out} {D D' : Ends} (h : PostO X B o D) (hn : ∀ e, o ≠ .nx e) (hr : D'.rt = D.rt) (hb : D'.bk = D.bk) (hc : D'.ct = D.ct) : PostO X B o D' := by
  cases o with
  | nx e => exact absurd rfl (hn e)
  | bk e => intro σ' H0' H' r; rw [hb]; exact h σ' H0' H' r
  | ct e => intro σ' H0' H' r; rw [hc]; exact h σ' H0' H' r
  | rt d e => intro v σ' H0' H' r hd; rw [hr]; exact h v σ' H0' H' r hd

theorem dss_nil : DSs X [] (fun env => .ok (.nx env)) := PSs.imp pss_nil fun D σ H ⟨B, env, H0, o, r, e, q⟩ => by
  cases e
  exact q σ H0 H r
theorem dss_cons {st : Stmt} {rest : List Stmt} {g k : Env → R Out} (h1 : DS X st g) (h2 : DSs X rest k) : DSs X (st :: rest) (fun env => seqO (g env) k) := PSs.imp (pss_cons h1 h2) fun D σ H ⟨B, env, H0, o, r, e, q⟩ => by
  have e : seqO (g env) k = .ok o := e
  cases hg : g env with
  | ok o1 =>
    rw [hg] at e
    cases o1 with
    | nx e1 => exact ⟨B, env, H0, .nx e1, r, hg, fun σ' H0' H' r' => ⟨B, e1, H0', o, r', e, q⟩⟩
    | bk e1 => cases e; exact ⟨B, env, H0, _, r, hg, q⟩
    | ct e1 => cases e; exact ⟨B, env, H0, _, r, hg, q⟩
    | rt d e1 => cases e; exact ⟨B, env, H0, _, r, hg, q⟩
  | ex c => rw [hg] at e; cases e
  | no => rw [hg] at e; cases e
theorem ds_pass {pos : Pos} : DS X (.Pass pos) (fun env => .ok (.nx env)) := PS.imp ps_pass fun D σ H ⟨B, env, H0, o, r, e, q⟩ => by
  cases e
  exact q σ H0 H r
theorem ds_doc {x : Str} {j : Nat} {p pos : Pos} : DS X (.Expr (.Constant (.str x) j p) pos) (fun env => .ok (.nx env)) := PS.imp ps_doc fun D σ H ⟨B, env, H0, o, r, e, q⟩ => by
  cases e
  exact q σ H0 H r
theorem ds_brk {pos : Pos} : DS X (.Break pos) (fun env => .ok (.bk env)) := PS.imp ps_break fun D σ H ⟨B, env, H0, o, r, e, q⟩ => by
  cases e
  exact q σ H0 H r
theorem ds_cont {pos : Pos} : DS X (.Continue pos) (fun env => .ok (.ct env)) := PS.imp ps_continue fun D σ H ⟨B, env, H0, o, r, e, q⟩ => by
  cases e
  exact q σ H0 H r
theorem ds_expr {e : Expr} {f : Env → R D} {pos : Pos} (h : DE X e f) (hs : swapsWith e none pos.line X.env = pure false) : DS X (.Expr e pos) (fun env => f env >>= fun _ => .ok (.nx env)) := PS.imp (ps_expr h hs) fun D σ H ⟨B, env, H0, o, r, e, q⟩ => by
  obtain ⟨d, e1, e⟩ := R.bind_ok e
  cases e
  exact ⟨B, env, H0, d, r, e1, fun v H1 H1' g hv => q σ H1 H1' (r.grow g)⟩
theorem keep_rel {K : PySem.W.Frag} {mg : Str → Option Value} {B : Base} {env : Env} {σ : L2.St} {H0 H Hf H1 H1' : Hp} {fr : List Nat} {d : D} {v : V} (r : Rel K mg B env σ H0 H) (rf : Rel K mg B (freeze fr env) σ Hf H) (g : Grow Hf H H1 H1') (hv : Dp K H1 v d) :
    ∃ H2, Rel K mg B (keep fr d env) σ H2 H1' ∧ Dp K H2 v d := by
  unfold keep
  by_cases hs : scalar d = true
  · rw [if_pos hs]
    exact ⟨H0, r.back g, dp_none d v hs hv H0⟩
  · rw [if_neg hs]
    exact ⟨H1, rf.grow g, hv⟩
theorem asg_run {f : Env → R D} {t : Tg} {fr : List Nat} {D : Ends} {σ : L2.St} {H : Hp} (h : tDS X (fun env => f (freeze fr env) >>= fun d => bindT t d (keep fr d env) >>= fun env' => .ok (.nx env')) D σ H) : tAsg (tD X f) (tDG X t) D σ H := by
  obtain ⟨B, env, H0, o, r, e, q⟩ := h
  obtain ⟨d, e1, e⟩ := R.bind_ok e
  obtain ⟨env', e2, e⟩ := R.bind_ok e
  cases e
  obtain ⟨Hf, sf, rf⟩ := r.freeze fr
  refine ⟨B, _, Hf, d, rf, e1, fun v H1 H1' g hv => ?_⟩
  obtain ⟨H2, r2, hd2⟩ := keep_rel r rf g hv
  exact ⟨B, _, H2, d, env', r2, hd2, e2, fun σ' r' _ => q σ' H2 H1' r'⟩
theorem ds_asg {tg e : Expr} {t : Tg} {fr : List Nat} {f : Env → R D} {pos : Pos} (he : DE X e f) (hg : DG X tg t) (hs : swapsWithSole [tg] e pos.line X.env = pure false) (hw : swappedStores [tg] e X.env = pure none)
    (h1 : (assignEach [tg] X.env).map (·.2) = [assign tg X.env]) : DS X (.Assign [tg] e pos) (fun env => f (freeze fr env) >>= fun d => bindT t d (keep fr d env) >>= fun env' => .ok (.nx env')) :=
  PS.imp (ps_asg he hg hs hw h1) fun D σ H h => asg_run h
theorem asgn_run {f : Env → R D} {i : Nat} {fr : List Nat} {D : Ends} {σ : L2.St} {H : Hp} (h : tDS X (fun env => f (freeze fr env) >>= fun d => bindT (.nm i) d (keep fr d env) >>= fun env' => .ok (.nx env')) D σ H) : tAsg (tD X f) (gName i) D σ H := by
  obtain ⟨B, env, H0, o, r, e, q⟩ := h
  obtain ⟨d, e1, e⟩ := R.bind_ok e
  obtain ⟨env', e2, e⟩ := R.bind_ok e
  cases e
  obtain ⟨Hf, sf, rf⟩ := r.freeze fr
  refine ⟨B, _, Hf, d, rf, e1, fun v H1 H1' g hv => ?_⟩
  obtain ⟨H2, r2, hd2⟩ := keep_rel r rf g hv
  have e2' : (R.ok ((keep fr d env).set i (.val d)) : R Env) = .ok env' := by simpa only [bindT] using e2
  cases e2'
  exact q _ H2 H1' (r2.set i hd2)
theorem ds_set {i : Nat} {x : Str} {e : Expr} {fr : List Nat} {f : Env → R D} {p pos : Pos} (hN : X.N.Nodup) (hi : X.N[i]? = some x) (hx : Loc X.env.scope x) (hf : X.fn x = true ∨ X.env.scope.names.lookup x = some .local) (he : DE X e f)
    (hs : swapsWith e (some (.Name x p)) pos.line X.env = pure false) : DS X (.Assign [.Name x p] e pos) (fun env => f (freeze fr env) >>= fun d => bindT (.nm i) d (keep fr d env) >>= fun env' => .ok (.nx env')) :=
  PS.imp (ps_set hN hi hx he hs hf) fun D σ H h => asgn_run h
/-- a name made to hold a new list -/
theorem new_run {f : Env → R (List D)} {i : Nat} {D : Ends} {σ : L2.St} {H : Hp} (h : tDS X (fun env => f env >>= fun ds => .ok (.nx (env.set i (.own ds)))) D σ H) : tAsg (tDF X f) (gName i) D σ H := by
  obtain ⟨B, env, H0, o, r, e, q⟩ := h
  obtain ⟨ds, e1, e⟩ := R.bind_ok e
  cases e
  refine ⟨B, env, H0, ds, r, e1, fun p vs H1 H1' g hp h1 h1' hv => ?_⟩
  obtain ⟨ow, r0⟩ := r
  refine q _ H1 H1' (r0.put i (.ref p) (.own ds) [p] g.a g.c (fun _ _ _ z => g.b _ _ z) (fun _ z => same_ne g.b z) g.d ⟨p, vs, rfl, rfl, h1', hv, ?_⟩ (by simp) (fun a ha => ?_) (fun a ha => ?_))
  · exact fun z => absurd hp (r0.fr.z p z).1
  · rw [List.mem_singleton.mp ha]
    exact .inr hp
  · rw [List.mem_singleton.mp ha]
    exact h1
theorem ds_new {i : Nat} {x : Str} {e : Expr} {f : Env → R (List D)} {p pos : Pos} (hN : X.N.Nodup) (hi : X.N[i]? = some x) (hx : Loc X.env.scope x) (hf : X.fn x = true ∨ X.env.scope.names.lookup x = some .local) (he : DF X e f)
    (hs : swapsWith e (some (.Name x p)) pos.line X.env = pure false) : DS X (.Assign [.Name x p] e pos) (fun env => f env >>= fun ds => .ok (.nx (env.set i (.own ds)))) :=
  PS.imp (ps_set hN hi hx he hs hf) fun D σ H h => new_run h
/-- a, b = x, y: plain local names -/
theorem ds_par {i j : Nat} {x y : Str} {a b : Expr} {fa fb : Env → R D} {px py pt : Pos} {kt k2 : Nat} {pt2 pos : Pos} (hc : X.calm = true) (hN : X.N.Nodup) (hi : X.N[i]? = some x) (hj : X.N[j]? = some y) (hij : i ≠ j)
    (hx : X.env.scope.names.lookup x = some .local) (hy : X.env.scope.names.lookup y = some .local) (ha : DE X a fa) (hb : DE X b fb) (h1 : starEach [a, b] X.env = (false, eval a X.env) :: starEach [b] X.env) (h2 : starEach [b] X.env = (false, eval b X.env) :: starEach [] X.env)
    (hw : swappedStores [.Tuple [.Name x px, .Name y py] kt pt] (.Tuple [a, b] k2 pt2) X.env = pure (some [x, y])) :
    DS X (.Assign [.Tuple [.Name x px, .Name y py] kt pt] (.Tuple [a, b] k2 pt2) pos) (fun env => fa env >>= fun d => fb env >>= fun d2 => .ok (.nx ((env.set i (.val d)).set j (.val d2)))) :=
  PS.imp (ps_par hc hN hi hj hij hx hy (pa_cons ha (pa_cons hb pa_nil h2) h1) hw rfl) fun D σ H ⟨B, env, H0, o, r, e, q⟩ => by
    obtain ⟨d, e1, e⟩ := R.bind_ok e
    obtain ⟨d2, e2, e⟩ := R.bind_ok e
    cases e
    refine ⟨B, env, H0, d, r, e1, fun v H1 H1' g hv => ⟨B, env, H1, d2, r.grow g, e2, fun w H2 H2' g2 hw => ⟨v, w, rfl, ?_⟩⟩⟩
    exact q _ H2 H2' (((r.grow (g.trans g2)).set i (dp_same g2.a _ _ hv)).set j hw)
theorem ds_par3 {i j l : Nat} {x y z : Str} {a b c : Expr} {fa fb fc : Env → R D} {px py pz pt : Pos} {kt k2 : Nat} {pt2 pos : Pos} (hc : X.calm = true) (hN : X.N.Nodup) (hi : X.N[i]? = some x) (hj : X.N[j]? = some y) (hl : X.N[l]? = some z) (hij : i ≠ j) (hil : i ≠ l) (hjl : j ≠ l)
    (hx : X.env.scope.names.lookup x = some .local) (hy : X.env.scope.names.lookup y = some .local) (hz : X.env.scope.names.lookup z = some .local) (ha : DE X a fa) (hb : DE X b fb) (hcc : DE X c fc) (h1 : starEach [a, b, c] X.env = (false, eval a X.env) :: starEach [b, c] X.env) (h2 : starEach [b, c] X.env = (false, eval b X.env) :: starEach [c] X.env) (h3 : starEach [c] X.env = (false, eval c X.env) :: starEach [] X.env)
    (hw : swappedStores [.Tuple [.Name x px, .Name y py, .Name z pz] kt pt] (.Tuple [a, b, c] k2 pt2) X.env = pure (some [x, y, z])) :
    DS X (.Assign [.Tuple [.Name x px, .Name y py, .Name z pz] kt pt] (.Tuple [a, b, c] k2 pt2) pos) (fun env => fa env >>= fun d => fb env >>= fun d2 => fc env >>= fun d3 => .ok (.nx (((env.set i (.val d)).set j (.val d2)).set l (.val d3)))) :=
  PS.imp (ps_par3 hc hN hi hj hl hij hil hjl hx hy hz (pa_cons ha (pa_cons hb (pa_cons hcc pa_nil h3) h2) h1) hw rfl) fun D σ H ⟨B, env, H0, o, r, e, q⟩ => by
    obtain ⟨d, e1, e⟩ := R.bind_ok e
    obtain ⟨d2, e2, e⟩ := R.bind_ok e
    obtain ⟨d3, e3, e⟩ := R.bind_ok e
    cases e
    refine ⟨B, env, H0, d, r, e1, fun v H1 H1' g hv => ⟨B, env, H1, d2, r.grow g, e2, fun w H2 H2' g2 hw => ⟨B, env, H2, d3, r.grow (g.trans g2), e3, fun u H3 H3' g3 hu => ⟨v, w, u, rfl, ?_⟩⟩⟩⟩
    exact q _ H3 H3' ((((r.grow (g.trans (g2.trans g3))).set i (dp_same (g2.a.trans g3.a) _ _ hv)).set j (dp_same g3.a _ _ hw)).set l hu)
/-! ### x op= e -/
theorem ip_augD : ∀ op : BO, PIp X (boOp op) (rD X.K (augD op))
  | .add => fun pins s σ H x y v u Q I rx ry h => by
    obtain ⟨H0, dx, dy, d, s0, hx, hy, e, q⟩ := h
    unfold augD at e
    split at e
    · cases e
      rw [dp_int hx] at rx
      rw [dp_int hy] at ry
      exact iop_add pins s σ H _ _ v u Q I rx ry ⟨_, _, rfl, rfl, q _ _ _ (Grow.refl s0) (.int _)⟩
    · split at e
      · rename_i hz
        cases e
        rw [dp_str hx] at rx
        rw [dp_str hy] at ry
        exact iop_add_str pins s σ H _ _ v u Q I rx ry ⟨_, _, rfl, rfl, hz, q _ _ _ (Grow.refl s0) (.str _)⟩
      · cases e
    · rename_i h; cases h
    · cases e
  | .sub => fun pins s σ H x y v u Q I rx ry h => by
    obtain ⟨H0, dx, dy, d, s0, hx, hy, e, q⟩ := h
    unfold augD at e
    split at e
    · rename_i h; cases h
    · rename_i h; cases h
    · cases e
      rw [dp_int hx] at rx
      rw [dp_int hy] at ry
      exact iop_sub pins s σ H _ _ v u Q I rx ry ⟨_, _, rfl, rfl, q _ _ _ (Grow.refl s0) (.int _)⟩
    · cases e
  | .mul => fun pins s σ H x y v u Q I rx ry ⟨_, _, _, _, _, _, _, e, _⟩ => by cases e
  | .fdiv => fun pins s σ H x y v u Q I rx ry ⟨_, _, _, _, _, _, _, e, _⟩ => by cases e
  | .mod => fun pins s σ H x y v u Q I rx ry ⟨_, _, _, _, _, _, _, e, _⟩ => by cases e
  | .pow => fun pins s σ H x y v u Q I rx ry ⟨_, _, _, _, _, _, _, e, _⟩ => by cases e
  | .shl => fun pins s σ H x y v u Q I rx ry ⟨_, _, _, _, _, _, _, e, _⟩ => by cases e
  | .shr => fun pins s σ H x y v u Q I rx ry ⟨_, _, _, _, _, _, _, e, _⟩ => by cases e
  | .band => fun pins s σ H x y v u Q I rx ry ⟨_, _, _, _, _, _, _, e, _⟩ => by cases e
  | .bor => fun pins s σ H x y v u Q I rx ry ⟨_, _, _, _, _, _, _, e, _⟩ => by cases e
  | .bxor => fun pins s σ H x y v u Q I rx ry ⟨_, _, _, _, _, _, _, e, _⟩ => by cases e
theorem ds_aug {i : Nat} {x : Str} {e : Expr} {f : Env → R D} {p pos : Pos} (op : BO) (hN : X.N.Nodup) (hi : X.N[i]? = some x) (hx : Loc X.env.scope x) (hf : X.fn x = true ∨ X.env.scope.names.lookup x = some .local) (he : DE X e f) :
    DS X (.AugAssign (.Name x p) (boOp op) e pos) (fun env => getV env i >>= fun d => f env >>= fun y => augD op d y >>= fun z => .ok (.nx (env.set i (.val z)))) :=
  PS.imp (ps_aug hN hi hx he (ip_augD op) hf) fun D σ H ⟨B, env, H0, o, r, e, q⟩ => by
    obtain ⟨d, e1, e⟩ := R.bind_ok e
    obtain ⟨y, e2, e⟩ := R.bind_ok e
    obtain ⟨z, e3, e⟩ := R.bind_ok e
    cases e
    obtain ⟨v, e4, hv⟩ := r.get (getV_ok e1)
    refine ⟨v, e4, B, env, H0, y, r, e2, fun w H1 H1' g hw => ⟨H1, d, y, z, g.c, dp_same g.a _ _ hv, hw, e3, fun u H2 H2' g2 hu => ?_⟩⟩
    exact q _ H2 H2' ((r.grow (g.trans g2)).set i hu)
/-! ### x.append(e), x[k] = e -/
theorem RelO.owned {K : PySem.W.Frag} {mg : Str → Option Value} {B : Base} {env : Env} {σ : L2.St} {H0 H : Hp} {ow : Nat → List Addr} (r : RelO K mg B env σ H0 H ow) {i : Nat} {ds : List D} (e : env.getD i .un = .own ds) :
    ∃ p vs, σ[i]? = some (some (.ref p)) ∧ ow i = [p] ∧ H p = some (.lst vs) ∧ DpAll K H0 vs ds ∧ ¬ B.Z p ∧ H0 p = none := by
  have h := r.slot i
  rw [e] at h
  obtain ⟨p, vs, h1, h2, h3, h4, h5⟩ := h
  exact ⟨p, vs, join_some h1, h2, h3, h4, h5, (r.fre i p (by rw [h2]; exact List.mem_cons_self)).1⟩
theorem set_same {σ : L2.St} {i : Nat} {v : V} (h : σ[i]? = some (some v)) : σ.set i (some v) = σ := by
  refine List.ext_getElem? fun j => ?_
  by_cases q : j = i
  · subst q
    rw [List.getElem?_set_self (List.getElem?_eq_some_iff.mp h).1, h]
  · rw [List.getElem?_set_ne (Ne.symm q)]
/-- an owned list gets other items -/
theorem Rel.upd {K : PySem.W.Frag} {mg : Str → Option Value} {B : Base} {env : Env} {σ : L2.St} {H0 H : Hp} (r : Rel K mg B env σ H0 H) {i : Nat} {ds es : List D} {p : Addr} {vs ws : List V} (e : env.getD i .un = .own ds) (hσ : σ[i]? = some (some (.ref p))) (hp : H p = some (.lst vs)) (hw : DpAll K H0 ws es) :
    Rel K mg B (env.set i (.own es)) σ H0 (L2.upd H p (.lst ws)) := by
  obtain ⟨ow, r⟩ := r
  obtain ⟨p', vs', h1, h2, h3, h4, h5, h6⟩ := r.owned e
  rw [hσ] at h1
  cases h1
  rw [← set_same hσ]
  refine r.put i (.ref p) (.own es) [p] (.refl _) (fun b o z => ?_) (fun a o ha z => ?_) (fun a z => ?_) (fun a _ z => z) ⟨p, ws, rfl, rfl, upd_same, hw, h5⟩ (by simp) (fun a ha => ?_) (fun a ha => ?_)
  · rw [upd_ne (fun q => by rw [q, h6] at z; cases z)]
    exact r.fr.sub _ _ z
  · rw [upd_ne (fun q => ha (by rw [q, h2]; exact List.mem_cons_self))]
    exact z
  · by_cases q : a = p
    · rw [q, upd_same]
      simp
    · rw [upd_ne q]
      exact z
  · rw [List.mem_singleton.mp ha, h2]
    exact .inl List.mem_cons_self
  · rw [List.mem_singleton.mp ha]
    exact h6
theorem freeze1_back {env : Env} {i j : Nat} {ds : List D} (h : (Y.freeze1 j env).getD i .un = .own ds) : env.getD i .un = .own ds := by
  unfold Y.freeze1 at h
  split at h
  · rename_i es e
    rw [set_getD (getD_lt (by rw [e]; simp))] at h
    split at h
    · cases h
    · exact h
  · exact h
theorem freeze_back {is : List Nat} {i : Nat} {ds : List D} : ∀ {env : Env}, (Y.freeze is env).getD i .un = .own ds → env.getD i .un = .own ds := by
  induction is with
  | nil => intro env h; exact h
  | cons j is ih => intro env h; exact freeze1_back (ih h)
theorem keep_back {fr : List Nat} {d : D} {env : Env} {i : Nat} {ds : List D} (h : (keep fr d env).getD i .un = .own ds) : env.getD i .un = .own ds := by
  unfold keep at h
  split at h
  · exact h
  · exact freeze_back h
theorem ds_app {i : Nat} {x : Str} {e : Expr} {f : Env → R D} {fr : List Nat} {p apos cpos pos : Pos} (hN : X.N[i]? = some x) (hv : Vis X.env.scope x) (hd : (x == ("__debug__" : Str)) = false) (hcd : (x == ("__classdict__" : Str)) = false) (he : DE X e f)
    (hst : starEach [e] X.env = (false, eval e X.env) :: starEach [] X.env) (hline : (apos.endLine == cpos.line) = true) :
    DS X (.Expr (.Call (.Attribute (.Name x p) "append" apos) [e] [] cpos) pos) (fun env => f (freeze fr env) >>= fun d => ownAt (keep fr d env) i fun ds => if ds.length < sizeLine then .ok (.nx ((keep fr d env).set i (.own (ds ++ [d])))) else .no) :=
  PS.imp (ps_expr (pe_bm PySem.F.plainAttrs_list PySem.F.slot_list_append PySem.F.type_list_append mt_append (pe_var hN hv hd hcd) (pa_cons he pa_nil hst) (by rfl) (by rw [hst]; rfl) hline hst (by rfl)) (by rfl)) fun D σ H ⟨B, env, H0, o, r, e, q⟩ => by
    obtain ⟨d, e1, e⟩ := R.bind_ok e
    unfold ownAt at e
    split at e
    · rename_i ds hds
      dsimp only at e
      split at e
      · rename_i hz
        cases e
        obtain ⟨Hf, sf, rf⟩ := r.freeze fr
        have hown := keep_back hds
        obtain ⟨p, vs, k1, k3⟩ : ∃ p vs, σ[i]? = some (some (.ref p)) ∧ H p = some (.lst vs) := by
          obtain ⟨ow, r0⟩ := r
          obtain ⟨p, vs, k1, k2, k3, k4, k5, k6⟩ := r0.owned hown
          exact ⟨p, vs, k1, k3⟩
        refine ⟨.ref p, k1, .inl ⟨rfl, vs, SqL.of k3⟩, B, _, Hf, d, rf, e1, fun v H1 H1' g hv => ?_⟩
        obtain ⟨H2, r2, hd2⟩ := keep_rel r rf g hv
        obtain ⟨m1, m3, m4⟩ : H1' p = some (.lst vs) ∧ DpAll X.K H2 vs ds ∧ True := by
          obtain ⟨ow, r0⟩ := r2
          obtain ⟨p', vs', k1', k2', k3', k4', k5', k6'⟩ := r0.owned hds
          rw [k1] at k1'
          cases k1'
          have := g.b _ _ k3
          rw [this] at k3'
          cases k3'
          exact ⟨this, k4', trivial⟩
        refine ⟨p, vs, v, rfl, rfl, m1, by rw [dps_length m3]; exact hz, ?_⟩
        exact q σ H2 _ (r2.upd hds k1 m1 (dps_append m3 (.cons hd2 .nil)))
      · cases e
    · cases e
theorem ixN_lt {n : Nat} {i : Int} {j : Nat} (h : ixN n i = some j) : j < n := (ixN_seq h).2.1
theorem ds_seti {i : Nat} {x : Str} {k e : Expr} {f fk : Env → R D} {p tp pos : Pos} (hN : X.N[i]? = some x) (hv : Vis X.env.scope x) (hd : (x == ("__debug__" : Str)) = false) (hcd : (x == ("__classdict__" : Str)) = false) (hk : DE X k fk) (he : DE X e f)
    (ha : ∀ v, assign (.Subscript (.Name x p) k tp) X.env v = (do
      let ov ← holding [v] (eval (.Name x p) X.env)
      let iv ← holding [v, ov] (eval k X.env)
      standAt tp
      holding [v, ov, iv] (setItem ov iv v)
      release [v, ov, iv] [])) (hs : swapsWithSole [.Subscript (.Name x p) k tp] e pos.line X.env = pure false) :
    DS X (.Assign [.Subscript (.Name x p) k tp] e pos) (fun env => f env >>= fun d => fk env >>= fun j => ownAt env i fun ds => setD ds j d >>= fun es => .ok (.nx (env.set i (.own es)))) :=
  PS.imp (ps_asg he (pg_sub (pe_var hN hv hd hcd) hk set_list ha) hs (by rfl) (by rfl)) fun D σ H ⟨B, env, H0, o, r, e, q⟩ => by
    obtain ⟨d, e1, e⟩ := R.bind_ok e
    obtain ⟨j, e2, e⟩ := R.bind_ok e
    unfold ownAt at e
    split at e
    · rename_i ds hds
      obtain ⟨es, e3, e⟩ := R.bind_ok e
      cases e
      unfold setD at e3
      split at e3
      · rename_i j'
        split at e3
        · rename_i n hn
          cases e3
          refine ⟨B, env, H0, d, r, e1, fun v H1 H1' g1 hv => ?_⟩
          have r1 := r.grow g1
          obtain ⟨p, vs, k1, k3, k4⟩ : ∃ p vs, σ[i]? = some (some (.ref p)) ∧ H1' p = some (.lst vs) ∧ DpAll X.K H1 vs ds := by
            obtain ⟨ow, r0⟩ := r1
            obtain ⟨p, vs, k1, k2, k3, k4, k5, k6⟩ := r0.owned hds
            exact ⟨p, vs, k1, k3, k4⟩
          refine ⟨.ref p, k1, B, env, H1, _, r1, e2, fun w H2 H2' g2 hw => ?_⟩
          refine ⟨p, vs, j', n, rfl, dp_int hw, g2.b _ _ k3, by rw [dps_length k4]; exact hn, ?_⟩
          exact q σ H2 _ ((r1.grow g2).upd hds k1 (g2.b _ _ k3) (dps_set (dp_same g2.a _ _ hv) n (dps_same g2.a _ _ k4)))
        · cases e3
      · cases e3
    · cases e
/-! ### if, return -/
theorem ds_ite {c : Expr} {a b : List Stmt} {fc : Env → R D} {ga gb : Env → R Out} {fr : List Nat} {pos : Pos} (hc : DT X c (fun env => fc env >>= truthD)) (ha : DSs X a ga) (hb : DSs X b gb) :
    DS X (.If c a b pos) (fun env => fc (freeze fr env) >>= fun x => truthD x >>= fun k => if k = true then ga env else gb env) := PS.imp (ps_if hc ha hb) fun D σ H ⟨B, env, H0, o, r, e, q⟩ => by
  obtain ⟨x, e1, e⟩ := R.bind_ok e
  obtain ⟨k, e2, e⟩ := R.bind_ok e
  obtain ⟨Hf, sf, rf⟩ := r.freeze fr
  refine ⟨B, _, Hf, k, rf, by show (fc (freeze fr env) >>= truthD) = _; rw [e1]; exact e2, fun H1 H1' g => ?_⟩
  cases k with
  | true =>
    simp only [if_true] at e ⊢
    exact ⟨B, env, H0, o, r.back g, e, q⟩
  | false =>
    simp only [Bool.false_eq_true, if_false] at e ⊢
    exact ⟨B, env, H0, o, r.back g, e, q⟩
theorem ds_ret {e : Expr} {f : Env → R D} {fr : List Nat} {pos : Pos} (h : DE X e f) : DS X (.Return (some e) pos) (fun env => f (freeze fr env) >>= fun d => .ok (.rt d (freeze fr env))) := PS.imp (ps_ret h) fun D σ H ⟨B, env, H0, o, r, e, q⟩ => by
  obtain ⟨d, e1, e⟩ := R.bind_ok e
  cases e
  obtain ⟨Hf, sf, rf⟩ := r.freeze fr
  exact ⟨B, _, Hf, d, rf, e1, fun v H1 H1' g hv => q v σ H1 H1' (rf.grow g) hv⟩
theorem ds_retN {pos : Pos} : DS X (.Return none pos) (fun env => .ok (.rt .none env)) := PS.imp ps_retN fun D σ H ⟨B, env, H0, o, r, e, q⟩ => by
  cases e
  exact q .non σ H0 H r .non
/-! ### loops -/
theorem ds_for {tg iter : Expr} {body : List Stmt} {fi : Env → R (List D)} {t : Tg} {gb : Env → R Out} {fr : List Nat} {pos : Pos} (hp : PassesOwn (model X.prog X.w) X.A X.env X.xe) (hc : X.calm = true) (hi : DI X tg iter fi) (hg : DG X tg t) (hb : DSs X body gb)
    (hs : ∀ x, foldedSetIterable iter X.env x = pure x) : DS X (.For tg iter body [] pos) (fun env => fi (freeze fr env) >>= fun ds => forD t gb ds (freeze fr env)) := PS.imp (ps_for hp hc hi hg hb hs) fun D σ H ⟨B, env, H0, o, r, e, q⟩ => by
  obtain ⟨ds, e1, e⟩ := R.bind_ok e
  obtain ⟨Hf, sf, rf⟩ := r.freeze fr
  refine ⟨B, _, Hf, ds, rf, e1, fun J H1 H1' g sv => ?_⟩
  refine ⟨fun i m σ H => m = ds.length - i ∧ i ≤ ds.length ∧ ∃ env H2, Rel X.K X.mg B env σ H2 H ∧ Same H1 H2 ∧ forD t gb (ds.drop i) env = .ok o,
    ⟨ds.length, by simp, Nat.zero_le _, _, H1, rf.grow g, .refl _, by simpa using e⟩, ?_⟩
  rintro i m σ2 H3 ⟨rfl, hi, env2, H2, r2, s2, ef⟩
  have s3 := sv H2 H3 s2 r2.sub i
  by_cases hlt : i < ds.length
  · have hdrop : ds.drop i = ds[i] :: ds.drop (i + 1) := List.drop_eq_getElem_cons hlt
    rw [hdrop] at ef
    have ef' : ((bindT t ds[i] env2).bind fun e => match gb e with
      | .ok (.nx e') => forD t gb (ds.drop (i + 1)) e'
      | .ok (.ct e') => forD t gb (ds.drop (i + 1)) e'
      | .ok (.bk e') => .ok (.nx e')
      | r => r) = .ok o := by
      rw [← ef]
      rfl
    obtain ⟨env3, e3, e4⟩ := R.bind_ok ef'
    refine .inr ⟨(s3.2 ds[i] (List.getElem?_eq_getElem hlt)).1, fun σ' H' => i + 1 ≤ ds.length ∧ ∃ env H2, Rel X.K X.mg B env σ' H2 H' ∧ Same H1 H2 ∧ forD t gb (ds.drop (i + 1)) env = .ok o, fun σ' H' h => ⟨ds.length - (i + 1), by omega, rfl, h⟩, fun x H4 y => ?_⟩
    obtain ⟨H2', g4, hx⟩ := (s3.2 ds[i] (List.getElem?_eq_getElem hlt)).2 x H4 y
    refine ⟨B, env2, H2', ds[i], env3, r2.grow g4, hx, e3, fun σ5 r5 _ => ?_⟩
    cases hgb : gb env3 with
    | ex c => rw [hgb] at e4; cases e4
    | no => rw [hgb] at e4; cases e4
    | ok o2 =>
      rw [hgb] at e4
      have again : ∀ e', forD t gb (ds.drop (i + 1)) e' = .ok o → ∀ σ' H0' H', Rel X.K X.mg (B.now H2' H4) e' σ' H0' H' → i + 1 ≤ ds.length ∧ ∃ env H2, Rel X.K X.mg B env σ' H2 H' ∧ Same H1 H2 ∧ forD t gb (ds.drop (i + 1)) env = .ok o := fun e' ee σ' H0' H' rr => by
        refine ⟨hlt, e', H0', ?_, ?_, ee⟩
        · obtain ⟨ow5, r5'⟩ := r5
          exact Rel.then r5'.fr rr
        · obtain ⟨owr, rr⟩ := rr
          exact (s2.trans g4.a).trans rr.fr.a
      have back : ∀ e' σ' H0' H', Rel X.K X.mg (B.now H2' H4) e' σ' H0' H' → Rel X.K X.mg B e' σ' H0' H' := fun e' σ' H0' H' rr => by
        obtain ⟨ow5, r5'⟩ := r5
        exact Rel.then r5'.fr rr
      refine ⟨B.now H2' H4, env3, H2', o2, r5.now, hgb, ?_⟩
      cases o2 with
      | nx e' => exact again e' e4
      | ct e' => exact again e' e4
      | bk e' =>
        cases e4
        exact fun σ' H0' H' rr => q σ' H0' H' (back _ _ _ _ rr)
      | rt d e' =>
        cases e4
        exact fun v σ' H0' H' rr hd => q v σ' H0' H' (back _ _ _ _ rr) hd
  · have hi' : i = ds.length := by omega
    subst hi'
    rw [List.drop_length] at ef
    cases ef
    exact .inl ⟨s3.1 (Nat.le_refl _), q σ2 H2 H3 r2⟩
end
end Y

/-! Y9: while, a def from its body. -/
namespace Y
open PySem L2 PyProof.Rows

theorem whN_more {c : Env → R Bool} {b : Env → R Out} : ∀ {n m : Nat} {env : Env} {r : R Out}, n ≤ m → whN c b n env = some r → whN c b m env = some r := by
  intro n
  induction n with
  | zero => intro m env r _ h; cases h
  | succ n ih =>
    intro m env r hm h
    cases m with
    | zero => omega
    | succ m =>
      unfold whN at h ⊢
      split
      · rename_i e
        rw [e] at h
        exact h
      · rename_i e
        rw [e] at h
        simp only at h ⊢
        split
        · rename_i e2
          rw [e2] at h
          exact ih (by omega) h
        · rename_i e2
          rw [e2] at h
          exact ih (by omega) h
        · rename_i e2
          rw [e2] at h
          exact h
        · rename_i h1 h2 h3
          split at h
          · rename_i e2; exact absurd e2 (h1 _)
          · rename_i e2; exact absurd e2 (h2 _)
          · rename_i e2; exact absurd e2 (h3 _)
          · exact h
      · rename_i e
        rw [e] at h
        exact h
      · rename_i e
        rw [e] at h
        exact h
theorem whD_of {c : Env → R Bool} {b : Env → R Out} {n : Nat} {env : Env} {r : R Out} (h : whN c b n env = some r) : whD c b env = r := by
  unfold whD
  have hx : ∃ n, (whN c b n env).isSome = true := ⟨n, by rw [h]; rfl⟩
  rw [dif_pos hx]
  have hs := Classical.choose_spec hx
  cases q : whN c b (Classical.choose hx) env with
  | none => rw [q] at hs; cases hs
  | some r2 =>
    have h1 := whN_more (Nat.le_max_left n (Classical.choose hx)) h
    have h2 := whN_more (Nat.le_max_right n (Classical.choose hx)) q
    rw [h1] at h2
    cases h2
    rfl
theorem whD_ok {c : Env → R Bool} {b : Env → R Out} {env : Env} {o : Out} (h : whD c b env = .ok o) : ∃ n, whN c b n env = some (.ok o) := by
  unfold whD at h
  split at h
  · rename_i hx
    refine ⟨Classical.choose hx, ?_⟩
    have hs := Classical.choose_spec hx
    cases q : whN c b (Classical.choose hx) env with
    | none => rw [q] at hs; cases hs
    | some r2 =>
      rw [q] at h
      have h : r2 = .ok o := h
      rw [h]
  · cases h
/-- one turn -/
theorem whD_step {c : Env → R Bool} {b : Env → R Out} (env : Env) : whD c b env = (match c env with
    | .ok false => .ok (.nx env)
    | .ok true => match b env with
      | .ok (.nx e) => whD c b e
      | .ok (.ct e) => whD c b e
      | .ok (.bk e) => .ok (.nx e)
      | r => r
    | .ex x => .ex x
    | .no => .no) := by
  have go : ∀ e : Env, (∀ n, whN c b (n + 1) env = whN c b n e) → whD c b env = whD c b e := fun e he => by
    by_cases hx : ∃ n, (whN c b n e).isSome = true
    · obtain ⟨n, hn⟩ := hx
      obtain ⟨r, hr⟩ := Option.isSome_iff_exists.mp hn
      rw [whD_of hr, whD_of ((he n).trans hr)]
    · have hy : ¬ ∃ n, (whN c b n env).isSome = true := fun ⟨n, hn⟩ => by
        cases n with
        | zero => cases hn
        | succ n => exact hx ⟨n, by rw [← he n]; exact hn⟩
      unfold whD
      rw [dif_neg hx, dif_neg hy]
  have fin : ∀ r : R Out, whN c b 1 env = some r → whD c b env = r := fun r h => whD_of h
  cases hc : c env with
  | ok k =>
    cases k with
    | false => exact fin _ (by unfold whN; rw [hc])
    | true =>
      cases hb : b env with
      | ok o =>
        cases o with
        | nx e => exact go e fun n => by rw [whN, hc, hb]
        | ct e => exact go e fun n => by rw [whN, hc, hb]
        | bk e => exact fin _ (by unfold whN; rw [hc]; simp only; rw [hb])
        | rt d e => exact fin _ (by unfold whN; rw [hc]; simp only; rw [hb])
      | ex x => exact fin _ (by unfold whN; rw [hc]; simp only; rw [hb])
      | no => exact fin _ (by unfold whN; rw [hc]; simp only; rw [hb])
  | ex x => exact fin _ (by unfold whN; rw [hc])
  | no => exact fin _ (by unfold whN; rw [hc])
section
variable {X : Cx}
theorem ds_whil {c : Expr} {body : List Stmt} {fc : Env → R D} {gb : Env → R Out} {fr : List Nat} {pos : Pos} (hp : PassesOwn (model X.prog X.w) X.A X.env X.xe) (hc : DT X c (fun env => fc env >>= truthD)) (hb : DSs X body gb) :
    DS X (.While c body [] pos) (fun env => whD (fun env => fc (freeze fr env) >>= truthD) gb env) := PS.imp (ps_while hp hc hb) fun D σ H ⟨B, env, H0, o, r, e, q⟩ => by
  obtain ⟨n, hn⟩ := whD_ok e
  refine ⟨fun m σ H => ∃ env H0, Rel X.K X.mg B env σ H0 H ∧ whN (fun env => fc (freeze fr env) >>= truthD) gb m env = some (.ok o), ⟨n, env, H0, r, hn⟩, ?_⟩
  rintro m σ2 H2 ⟨env2, H02, r2, h2⟩
  cases m with
  | zero => cases h2
  | succ m =>
    cases hk : (fc (freeze fr env2) >>= truthD) with
    | ex x => unfold whN at h2; simp only [hk] at h2; cases h2
    | no => unfold whN at h2; simp only [hk] at h2; cases h2
    | ok k =>
      obtain ⟨Hf, sf, rf⟩ := r2.freeze fr
      refine ⟨B, _, Hf, k, rf, hk, fun H1 H1' g => ?_⟩
      unfold whN at h2
      simp only [hk] at h2
      cases k with
      | false =>
        simp only [Bool.false_eq_true, if_false]
        cases h2
        exact q _ _ _ (r2.back g)
      | true =>
        simp only [if_true]
        simp only at h2
        refine ⟨fun σ' H' => ∃ env H0, Rel X.K X.mg B env σ' H0 H' ∧ whN (fun env => fc (freeze fr env) >>= truthD) gb m env = some (.ok o), fun σ' H' h => ⟨m, Nat.lt_succ_self _, h⟩, ?_⟩
        cases hb' : gb env2 with
        | ex x => rw [hb'] at h2; cases h2
        | no => rw [hb'] at h2; cases h2
        | ok o2 =>
          rw [hb'] at h2
          refine ⟨B, env2, H02, o2, r2.back g, hb', ?_⟩
          cases o2 with
          | nx e' => exact fun σ' H0' H' rr => ⟨e', H0', rr, h2⟩
          | ct e' => exact fun σ' H0' H' rr => ⟨e', H0', rr, h2⟩
          | bk e' =>
            cases h2
            exact q
          | rt d e' =>
            cases h2
            exact q
end
/-! ### a def -/
theorem start_get (N : List Str) (vs : List V) (i : Nat) : (L2.start N vs)[i]?.join = vs[i]? := by
  unfold L2.start
  by_cases h : i < vs.length
  · rw [List.getElem?_append_left (by simpa using h), List.getElem?_map, List.getElem?_eq_getElem h]
    rfl
  · rw [List.getElem?_append_right (by simpa using h), List.getElem?_replicate, List.getElem?_eq_none (by omega)]
    split <;> rfl
theorem rel_start {K : PySem.W.Frag} {mg : Str → Option Value} {H0 H : Hp} {N : List Str} {vs : List V} {ds : List D} {sl ps : Nat} (s : Same H0 H) (hd : DpAll K H0 vs ds) (hps : ds.length = ps) (hsl : N.length = sl) (hle : ps ≤ sl) :
    Rel K mg ⟨fun _ => False, fun x => H x ≠ none ∧ H0 x = none, H0, H⟩ (ds.map .val ++ List.replicate (sl - ps) .un) (L2.start N vs) H0 H := by
  have hl := dps_length hd
  refine ⟨fun _ => [], ⟨s, .refl _, fun _ h => h, fun _ h => h, fun _ _ _ h => h⟩, ?_, fun i => ?_, fun _ => List.nodup_nil, (fun _ _ a _ h => absurd h List.not_mem_nil), (fun i a h => absurd h List.not_mem_nil)⟩
  · unfold L2.start
    simp
    omega
  · rw [start_get]
    by_cases h : i < ds.length
    · obtain ⟨v, e1, e2⟩ := dps_get hd (List.getElem?_eq_getElem h)
      rw [List.getD_eq_getElem?_getD, List.getElem?_append_left (by simpa using h), List.getElem?_map, List.getElem?_eq_getElem h, e1]
      exact ⟨rfl, v, rfl, e2⟩
    · rw [List.getD_eq_getElem?_getD, List.getElem?_append_right (by simpa using h), List.getElem?_replicate]
      split <;> exact rfl
theorem runF_ok {T : Tab} {p : Fn} {ds : List D} {d : D} (h : runF T p ds = .ok d) : ds.length = p.ps ∧ ∃ o, semSs T p.body (ds.map .val ++ List.replicate (p.sl - p.ps) .un) = .ok o ∧ ((∃ env, o = .rt d env) ∨ ∃ env, o = .nx env ∧ d = .none) := by
  unfold runF at h
  split at h
  · rename_i hl
    refine ⟨hl, ?_⟩
    split at h
    · rename_i d' env e
      cases h
      exact ⟨_, e, .inl ⟨env, rfl⟩⟩
    · rename_i env e
      cases h
      exact ⟨_, e, .inr ⟨env, rfl, rfl⟩⟩
    · cases h
    · cases h
    · cases h
  · cases h
theorem fn_ok {P : Program} {w : World} {K : PySem.W.Frag} {mg : Str → Option Value} {base : Heap} {x qual : Str} {st : Stmt} {f : Addr} {fd : FuncData} {N ps : List Str} {k : Nat} {T : Tab} {p : Fn}
    (F : Fun K x qual st f fd) (S : FnScope N ps (defScope st)) (hps : p.ps = ps.length) (hsl : N.length = p.sl) (hle : p.ps ≤ p.sl)
    (body : ∀ X : Cx, X.prog = P → X.w = w → X.K = K → X.mg = mg → X.base = base → X.N = N → X.calm = true → X.env.scope = defScope st → X.fn = (fun _ => true) → X.xe = (fun _ _ => False) → Room k X.A → DSs X (defBody st) (semSs T p.body)) :
    FnOk P w K mg base CX0 (k + 1) f fd ps (spF K (runF T p)) := by
  refine F.ok S (fun vs H Q E h => ?_) fun cdv A outer s H vs Q E hr h => ?_
  · obtain ⟨H0, ds, d, s, hd, e, _⟩ := h
    rw [dps_length hd, (runF_ok e).1, hps]
  · obtain ⟨H0, ds, d, s0, hd, e, q⟩ := h
    obtain ⟨hl, o, e1, e2⟩ := runF_ok e
    refine ⟨_, body (cxOf CX0 P w K mg base N qual (defScope st) f cdv A outer s H E).nox rfl rfl rfl rfl rfl rfl rfl rfl rfl rfl hr, ?_⟩
    refine ⟨_, _, H0, o, rel_start s0 hd hl hsl hle, e1, ?_⟩
    have fin : ∀ (env : Env) (σ' : L2.St) (H0' H' : Hp), Rel K mg ⟨fun _ => False, fun x => H x ≠ none ∧ H0 x = none, H0, H⟩ env σ' H0' H' → Grow H0 H H0' H' := fun env σ' H0' H' ⟨_, r⟩ =>
      ⟨r.fr.a, fun b o z => r.fr.b b o (fun h => h) z, r.fr.sub, fun x h1 h2 => (r.fr.z x ⟨h1, h2⟩).2⟩
    rcases e2 with ⟨env, rfl⟩ | ⟨env, rfl, rfl⟩
    · exact fun v σ' H0' H' r hv => q v H0' H' (fin _ _ _ _ r) hv
    · exact fun σ' H0' H' r => q .non H0' H' (fin _ _ _ _ r) .non
end Y

/-! Y10: does an expression of the program say what one of the tongue says? -/
namespace Y
open PySem L2 PyProof.Rows

structure Names where
  N : List Str
  fns : List String
  gls : List String
  blt : List String
  gcd : Bool
def visB (sc : Scope) (x : Str) : Bool := match sc.names.lookup x with
  | some .local => true
  | some .cell => true
  | some .free => true
  | _ => false
def glB (sc : Scope) (x : Str) : Bool := (match sc.names.lookup x with
  | some .globalImplicit => true
  | _ => false) && !(x == ("__debug__" : Str))
def varB (Γ : Names) (sc : Scope) (i : Nat) (x : Str) : Bool := decide (Γ.N[i]? = some x) && visB sc x && !(x == ("__debug__" : Str)) && !(x == ("__classdict__" : Str))
def noStar : Expr → Bool
  | .Starred .. => false
  | _ => true
def noSet : Expr → Bool
  | .Set .. => false
  | _ => true
def noSlice : Expr → Bool
  | .Slice .. => false
  | _ => true
def noCall : Expr → Bool
  | .Call .. => false
  | _ => true
def cstB : D → Const → Bool
  | .int j, .int i => decide (i = j)
  | .bool c, .bool b => b == c
  | .none, .none => true
  | .str y, .str x => decide (x = y)
  | _, _ => false
def locB (sc : Scope) (fn : Str → Bool) (x : Str) : Bool := match sc.names.lookup x with
  | some .local => true
  | some .cell => fn x
  | _ => false
mutual
def chkG (Γ : Names) (fn : Str → Bool) : Tg → Scope → Expr → Bool
  | .nm i, sc, e => match e with
    | .Name x _ => decide (Γ.N[i]? = some x) && locB sc fn x
    | _ => false
  | .tup ts, sc, e => match e with
    | .Tuple es _ _ => chkGs Γ fn ts sc es
    | _ => false
def chkGs (Γ : Names) (fn : Str → Bool) : List Tg → Scope → List Expr → Bool
  | [], _, es => match es with
    | [] => true
    | _ => false
  | t :: ts, sc, es => match es with
    | e :: es => noStar e && chkG Γ fn t sc e && chkGs Γ fn ts sc es
    | _ => false
end
def ownP (Γ : Names) (own : List Nat) : List (Str × Nat) := own.map fun i => (Γ.N.getD i ("" : Str), i)
mutual
def chkE (Γ : Names) : Ex → Scope → Expr → Bool
  | .var i, sc, e => match e with
    | .Name x _ => varB Γ sc i x
    | _ => false
  | .cst d, _, e => match e with
    | .Constant c _ _ => cstB d c
    | _ => false
  | .glb g, sc, e => match e with
    | .Name x _ => decide (x = Str.ofString g) && glB sc x && Γ.gls.contains g
    | _ => false
  | .bin op a b, sc, e => match e with
    | .BinOp x o y _ => decide (o = boOp op) && chkE Γ a sc x && chkE Γ b sc y
    | _ => false
  | .neg a, sc, e => match e with
    | .UnaryOp .USub x _ => chkE Γ a sc x
    | _ => false
  | .cmp op a b, sc, e => match e with
    | .Compare x [o] [y] _ => decide (o = coOp op) && noSet y && chkE Γ a sc x && chkE Γ b sc y
    | _ => false
  | .cmp2 o1 o2 a b c, sc, e => match e with
    | .Compare x [p1, p2] [y, z] _ => decide (p1 = coOp o1) && decide (p2 = coOp o2) && noSet z && chkE Γ a sc x && chkE Γ b sc y && chkE Γ c sc z
    | _ => false
  | .and a b, sc, e => match e with
    | .BoolOp .And [x, y] _ => chkE Γ a sc x && chkE Γ b sc y
    | .BoolOp .And (x :: y :: z :: r) p => chkE Γ a sc x && chkE Γ b sc (.BoolOp .And (y :: z :: r) p)
    | _ => false
  | .or a b, sc, e => match e with
    | .BoolOp .Or [x, y] _ => chkE Γ a sc x && chkE Γ b sc y
    | .BoolOp .Or (x :: y :: z :: r) p => chkE Γ a sc x && chkE Γ b sc (.BoolOp .Or (y :: z :: r) p)
    | _ => false
  | .not a, sc, e => match e with
    | .UnaryOp .Not x _ => chkE Γ a sc x
    | _ => false
  | .ite c a b, sc, e => match e with
    | .IfExp z x y _ => chkE Γ c sc z && chkE Γ a sc x && chkE Γ b sc y
    | _ => false
  | .tup es, sc, e => match e with
    | .Tuple xs _ _ => chkEs Γ es sc xs
    | _ => false
  | .lst es, sc, e => match e with
    | .List xs _ => chkEs Γ es sc xs
    | _ => false
  | .rep es k, sc, e => match e with
    | .BinOp (.List xs _) .Mult y _ => chkEs Γ es sc xs && chkE Γ k sc y
    | _ => false
  | .ix a b, sc, e => match e with
    | .Subscript x y _ => noSlice y && chkE Γ a sc x && chkE Γ b sc y
    | _ => false
  | .sl a lo hi, sc, e => match e with
    | .Subscript x (.Slice l h none _) _ => chkE Γ a sc x && (match l with | none => isNo lo | some l => !isNo lo && chkE Γ lo sc l) && (match h with | none => isNo hi | some h => !isNo hi && chkE Γ hi sc h)
    | _ => false
  | .call f es, sc, e => match e with
    | .Call (.Name x _) xs [] _ => decide (x = Str.ofString f) && glB sc x && Γ.fns.contains f && chkEs Γ es sc xs
    | _ => false
  | .bi f es, sc, e => match e with
    | .Call (.Name x _) [.Dict [some k, some l] [.Constant (.bool true) _ _, .Constant (.bool true) _ _] _] [] _ => decide (x = ("sorted" : Str)) && f == "sorted{}" && glB sc x && Γ.blt.contains "sorted" && chkEs Γ es sc [k, l]
    | .Call (.Name x _) (y :: ys) [] _ => decide (x = Str.ofString f) && glB sc x && (Γ.blt.contains f && (bval f).isSome || (f == "gcd" && Γ.gcd)) && chkEs Γ es sc (y :: ys)
    | _ => false
  | .mth m o es, sc, e => match e with
    | .Call (.Attribute x n apos) [] [] pos => m == "bit_length" && decide (n = ("bit_length" : Str)) && noCall x && (apos.endLine == pos.line) && chkE Γ o sc x && chkEs Γ es sc []
    | .Call (.Attribute x n apos) [y] [] pos => m == "count" && decide (n = ("count" : Str)) && noCall x && noStar y && (apos.endLine == pos.line) && chkE Γ o sc x && chkEs Γ es sc [y]
    | _ => false
  | .isi a t, sc, e => match e with
    | .Call (.Name x _) [y, .Name z _] [] _ => decide (x = ("isinstance" : Str)) && decide (z = Str.ofString t) && glB sc x && glB sc z && Γ.blt.contains "isinstance" && Γ.blt.contains t && isiTypes.contains t && noStar y && chkE Γ a sc y
    | _ => false
  | .comp own elt tg itf its ifs, sc, e => match e with
    | .ListComp el [⟨tg', iter, ifs', 0⟩] scope _ =>
      blkC Γ.N sc scope (ownP Γ own) && chkG Γ (fun x => scope.names.lookup x == some .cell) tg (relS scope sc) tg' && ((tgVars tg).all fun i => own.contains i) && noSet iter &&
      (match itf, its, iter with
        | "", [a], it => chkE Γ a sc it
        | "range", [a], .Call (.Name r _) [x] [] _ => decide (r = ("range" : Str)) && glB sc r && Γ.blt.contains "range" && noStar x && chkE Γ a sc x
        | "range", [a, b], .Call (.Name r _) [x, y] [] _ => decide (r = ("range" : Str)) && glB sc r && Γ.blt.contains "range" && noStar x && noStar y && chkE Γ a sc x && chkE Γ b sc y
        | _, _, _ => false) &&
      (match ifs, ifs' with
        | [], [] => true
        | [c], [z] => chkE Γ c (relS scope sc) z
        | _, _ => false) && chkE Γ elt (relS scope sc) el
    | _ => false
  | .oix i b, sc, e => match e with
    | .Subscript (.Name x _) y _ => noSlice y && varB Γ sc i x && chkE Γ b sc y
    | _ => false
  | .olen i, sc, e => match e with
    | .Call (.Name l _) [.Name x _] [] _ => decide (l = ("len" : Str)) && glB sc l && Γ.blt.contains "len" && varB Γ sc i x
    | _ => false
  | .fld _ _, _, _ => false
  | .fix _ _ _, _, _ => false
  | .flen _ _, _, _ => false
  | .mget _ _ _, _, _ => false
def chkEs (Γ : Names) : List Ex → Scope → List Expr → Bool
  | [], _, xs => match xs with
    | [] => true
    | _ => false
  | e :: es, sc, xs => match xs with
    | x :: xs => noStar x && chkE Γ e sc x && chkEs Γ es sc xs
    | _ => false
end
structure Good (X : Cx) (T : Tab) (Γ : Names) (k : Nat) : Prop where
  calm : X.calm = true
  nd : X.N.Nodup
  N : X.N = Γ.N
  room : Room k X.A
  xe : X.xe = fun _ _ => False
  fn : ∀ f ∈ Γ.fns, Callee X.prog X.w X.K X.mg X.base k (Str.ofString f) (T.fn f)
  gl : ∀ x ∈ Γ.gls, ∃ u v d, X.mg (Str.ofString x) = some u ∧ RelV v u ∧ T.glb x = .ok d ∧ Dp X.K (fun _ => none) v d
  blt : ∀ x ∈ Γ.blt, X.mg (Str.ofString x) = none
  gcd : Γ.gcd = true → X.mg "gcd" = some (.builtin "math.gcd")
section
variable {X : Cx} {T : Tab} {Γ : Names} {k : Nat} {sc : Scope}
theorem vis_of {x : Str} (hs : X.env.scope = sc) (h : visB sc x = true) : Vis X.env.scope x := by
  rw [hs]
  unfold visB at h
  split at h
  · rename_i e; exact .inl e
  · rename_i e; exact .inr (.inl e)
  · rename_i e; exact .inr (.inr e)
  · cases h
theorem gl_of {x : Str} (hs : X.env.scope = sc) (h : glB sc x = true) : Gl X x ∧ (x == ("__debug__" : Str)) = false := by
  unfold glB at h
  rw [Bool.and_eq_true, Bool.not_eq_true'] at h
  refine ⟨?_, h.2⟩
  have h1 := h.1
  show X.env.scope.names.lookup x = some .globalImplicit
  rw [hs]
  split at h1
  · assumption
  · cases h1
theorem var_of {i : Nat} {x : Str} (g : Good X T Γ k) (hs : X.env.scope = sc) (h : varB Γ sc i x = true) : X.N[i]? = some x ∧ Vis X.env.scope x ∧ (x == ("__debug__" : Str)) = false ∧ (x == ("__classdict__" : Str)) = false := by
  unfold varB at h
  simp only [Bool.and_eq_true, Bool.not_eq_true', decide_eq_true_eq] at h
  exact ⟨by rw [g.N]; exact h.1.1.1, vis_of hs h.1.1.2, h.1.2, h.2⟩
theorem loc_of {x : Str} {fn : Str → Bool} (hs : X.env.scope = sc) (hf : X.fn = fn) (h : locB sc fn x = true) : Loc X.env.scope x ∧ (X.fn x = true ∨ X.env.scope.names.lookup x = some .local) := by
  rw [hs, hf]
  unfold locB at h
  split at h
  · rename_i e; exact ⟨.inl e, .inr e⟩
  · rename_i e; exact ⟨.inr e, .inl h⟩
  · cases h
theorem star_of {e : Expr} {es : List Expr} {env : PySem.Env} (h : noStar e = true) : starEach (e :: es) env = (false, eval e env) :: starEach es env := by
  cases e <;> first | rfl | cases h
theorem set_of {e : Expr} {op : CmpOp} (h : noSet e = true) : behindInMarks op e = false := by
  cases e <;> first | rfl | cases h
theorem fold_of {e : Expr} {env : PySem.Env} (h : noSet e = true) : ∀ x, foldedSetIterable e env x = pure x := by
  intro x
  cases e <;> first | rfl | cases h
theorem slice_of {e : Expr} (h : noSlice e = true) : PlainIx e := by
  intro o i
  cases e <;> first | rfl | cases h
theorem base_of {e : Expr} {f : Str} {env : PySem.Env} (h : noCall e = true) : attributeBase e f env (eval e env) = eval e env := by
  cases e <;> first | rfl | cases h
theorem assign_star {e : Expr} {es : List Expr} {env : PySem.Env} (h : noStar e = true) : assignEach (e :: es) env = (false, assign e env) :: assignEach es env := by
  cases e <;> first | rfl | cases h
mutual
theorem sound_G {fn : Str → Bool} (hc : X.calm = true) (nd : X.N.Nodup) (hN : X.N = Γ.N) (hf : X.fn = fn) (hs : X.env.scope = sc) : ∀ (t : Tg) (e : Expr), chkG Γ fn t sc e = true → DG X e t
  | .nm i, e, h => by
    unfold chkG at h
    split at h
    · rename_i x p
      rw [Bool.and_eq_true, decide_eq_true_eq] at h
      obtain ⟨h1, h2⟩ := loc_of hs hf h.2
      exact dg_nm nd (by rw [hN]; exact h.1) h1 h2
    · cases h
  | .tup ts, e, h => by
    unfold chkG at h
    split at h
    · rename_i es k p
      obtain ⟨h1, h2, h3, h4⟩ := sound_Gs hc nd hN hf hs ts es h
      exact dg_tup hc h1 h2 h3 h4
    · cases h
theorem sound_Gs {fn : Str → Bool} (hc : X.calm = true) (nd : X.N.Nodup) (hN : X.N = Γ.N) (hf : X.fn = fn) (hs : X.env.scope = sc) : ∀ (ts : List Tg) (es : List Expr), chkGs Γ fn ts sc es = true →
    DGs X es ts ∧ es.length = ts.length ∧ (assignEach es X.env).length = es.length ∧ (assignEach es X.env).findIdx? (·.1) = none
  | [], es, h => by
    unfold chkGs at h
    split at h
    · exact ⟨dgs_nil, rfl, rfl, rfl⟩
    · cases h
  | t :: ts, es, h => by
    unfold chkGs at h
    split at h
    · rename_i e es
      simp only [Bool.and_eq_true] at h
      obtain ⟨h1, h2, h3, h4⟩ := sound_Gs hc nd hN hf hs ts es h.2
      have hst := assign_star (es := es) (env := X.env) h.1.1
      refine ⟨dgs_cons (sound_G hc nd hN hf hs t e h.1.2) h1 (by rw [hst]; rfl), by simp [h2], by rw [hst]; simp [h3], by rw [hst, List.findIdx?_cons]; simp [h4]⟩
    · cases h
end
end
end Y

/-! Y11: then it computes what that one computes. -/
namespace Y
open PySem L2 PyProof.Rows

section
variable {T : Tab} {Γ : Names} {k : Nat}
theorem bothE {X : Cx} {e : Expr} {x : Ex} {f : Env → R D} (h : DE X e f) (hf : ∀ env, semE T x env = f env) (he : ∀ whole, isTrue e X.env whole = (do let v ← whole; standAt e.pos; holding [v] (truthy v))) :
    DE X e (semE T x) ∧ DT X e (fun env => semE T x env >>= truthD) := by
  have : semE T x = f := funext hf
  rw [this]
  exact ⟨h, dt_truth h he⟩
theorem bothE2 {X : Cx} {e : Expr} {x : Ex} {f : Env → R D} (h : DE X e f) (h2 : DT X e (fun env => f env >>= truthD)) (hf : ∀ env, semE T x env = f env) :
    DE X e (semE T x) ∧ DT X e (fun env => semE T x env >>= truthD) := by
  have : semE T x = f := funext hf
  rw [this]
  exact ⟨h, h2⟩
theorem Good.blk {X : Cx} (g : Good X T Γ k) (s : Shared) (H : Hp) (scope : Scope) (C : Addr) (cl : List (Str × Addr)) (fp : List Addr) : Good (X.blk s H scope (compEnvC scope cl C X.env) fp) T Γ k :=
  ⟨g.calm, g.nd, g.N, g.room, rfl, g.fn, g.gl, g.blt, g.gcd⟩
theorem Good.hu {X : Cx} (g : Good X T Γ k) : X.A.units + 65 < cLine := by
  have := g.room.un
  omega
theorem des_eq {X : Cx} {es : List Expr} {f g : Env → R (List D)} (h : DEs X es f) (k : ∀ env, g env = f env) : DEs X es g := (funext k : g = f) ▸ h
theorem backs_of {X : Cx} {xs : List Ex} : ∀ {es : List Expr}, chkEs Γ xs sc es = true → ∀ (pos : Pos), (backTo pos (starEach es X.env)).any (·.1) = false := by
  induction xs with
  | nil =>
    intro es h pos
    unfold chkEs at h
    split at h
    · rfl
    · cases h
  | cons x xs ih =>
    intro es h pos
    unfold chkEs at h
    split at h
    · rename_i e es
      simp only [Bool.and_eq_true] at h
      rw [star_of h.1.1]
      have := ih h.2 pos
      simpa [backTo] using this
    · cases h
theorem chkEs_star {X : Cx} {x : Ex} {xs : List Ex} {e : Expr} {es : List Expr} (h : chkEs Γ (x :: xs) sc (e :: es) = true) : noStar e = true ∧ chkEs Γ xs sc es = true := by
  unfold chkEs at h
  simp only [Bool.and_eq_true] at h
  exact ⟨h.1.1, h.2⟩
theorem own_map (Γ : Names) : ∀ own : List Nat, (ownP Γ own).map (·.2) = own
  | [] => rfl
  | i :: r => by
    show i :: (ownP Γ r).map (·.2) = i :: r
    rw [own_map Γ r]
set_option maxHeartbeats 4000000
mutual
theorem sound : ∀ (x : Ex) {X : Cx} {sc : Scope} (e : Expr), Good X T Γ k → X.env.scope = sc → chkE Γ x sc e = true → DE X e (semE T x) ∧ DT X e (fun env => semE T x env >>= truthD)
  | .var i, X, sc, e, g, hs, h => by
    unfold chkE at h
    split at h
    · obtain ⟨h1, h2, h3, h4⟩ := var_of g hs h
      exact bothE (de_var h1 h2 h3 h4) (fun env => by simp only [semE]) (fun _ => rfl)
    · cases h
  | .cst d, X, sc, e, g, hs, h => by
    unfold chkE at h
    split at h
    · rename_i c j p
      unfold cstB at h
      split at h
      · cases of_decide_eq_true h
        exact bothE (de_c pe_int (.int _)) (fun env => by simp only [semE]) (fun _ => rfl)
      · cases eq_of_beq h
        exact bothE (de_c pe_bl (.bl _)) (fun env => by simp only [semE]) (fun _ => rfl)
      · exact bothE (de_c pe_non .non) (fun env => by simp only [semE]) (fun _ => rfl)
      · cases of_decide_eq_true h
        exact bothE (de_c pe_str (.str _)) (fun env => by simp only [semE]) (fun _ => rfl)
      · cases h
    · cases h
  | .glb y, X, sc, e, g, hs, h => by
    unfold chkE at h
    split at h
    · rename_i x p
      simp only [Bool.and_eq_true, decide_eq_true_eq] at h
      obtain ⟨⟨rfl, h2⟩, h3⟩ := h
      obtain ⟨q1, q2⟩ := gl_of hs h2
      obtain ⟨u, v, d, m1, m2, m3, m4⟩ := g.gl y (List.contains_iff_mem.mp h3)
      exact bothE (de_c (pe_glob q1 m1 m2 q2) m4) (fun env => by simp only [semE]; exact m3) (fun _ => rfl)
    · cases h
  | .bin op a b, X, sc, e, g, hs, h => by
    unfold chkE at h
    split at h
    · simp only [Bool.and_eq_true, decide_eq_true_eq] at h
      obtain ⟨⟨rfl, h2⟩, h3⟩ := h
      exact bothE (de_bin op (sound a _ g hs h2).1 (sound b _ g hs h3).1) (fun env => by simp only [semE]) (fun _ => rfl)
    · cases h
  | .neg a, X, sc, e, g, hs, h => by
    unfold chkE at h
    split at h
    · exact bothE (de_neg (sound a _ g hs h).1) (fun env => by simp only [semE]) (fun _ => rfl)
    · cases h
  | .cmp op a b, X, sc, e, g, hs, h => by
    unfold chkE at h
    split at h
    · simp only [Bool.and_eq_true, decide_eq_true_eq] at h
      obtain ⟨⟨⟨rfl, h2⟩, h3⟩, h4⟩ := h
      exact bothE2 (de_cmp g.hu op (sound a _ g hs h3).1 (sound b _ g hs h4).1 (set_of h2)) (dt_cmp g.hu op (sound a _ g hs h3).1 (sound b _ g hs h4).1 (set_of h2)) (fun env => by simp only [semE])
    · cases h
  | .cmp2 o1 o2 a b c, X, sc, e, g, hs, h => by
    unfold chkE at h
    split at h
    · simp only [Bool.and_eq_true, decide_eq_true_eq] at h
      obtain ⟨⟨⟨⟨⟨rfl, rfl⟩, h2⟩, h3⟩, h4⟩, h5⟩ := h
      exact bothE2 (de_chain g.hu o1 o2 (sound a _ g hs h3).1 (sound b _ g hs h4).1 (sound c _ g hs h5).1 (set_of h2)) (dt_chain g.hu o1 o2 (sound a _ g hs h3).1 (sound b _ g hs h4).1 (sound c _ g hs h5).1 (set_of h2)) (fun env => by simp only [semE])
    · cases h
  | .and a b, X, sc, e, g, hs, h => by
    unfold chkE at h
    split at h
    · simp only [Bool.and_eq_true] at h
      have ha := sound a _ g hs h.1
      have hb := sound b _ g hs h.2
      exact bothE2 (de_and ha.1 (pe_one hb.1)) (dt_and ha.2 (pw_and1 hb.2)) (fun env => by simp only [semE])
    · simp only [Bool.and_eq_true] at h
      have ha := sound a _ g hs h.1
      have hb := sound b _ g hs h.2
      exact bothE2 (de_and ha.1 hb.1) (dt_and ha.2 (dw_of hb.2)) (fun env => by simp only [semE])
    · cases h
  | .or a b, X, sc, e, g, hs, h => by
    unfold chkE at h
    split at h
    · simp only [Bool.and_eq_true] at h
      have ha := sound a _ g hs h.1
      have hb := sound b _ g hs h.2
      exact bothE2 (de_or ha.1 (pe_one hb.1)) (dt_or ha.2 (pw_or1 hb.2)) (fun env => by simp only [semE])
    · simp only [Bool.and_eq_true] at h
      have ha := sound a _ g hs h.1
      have hb := sound b _ g hs h.2
      exact bothE2 (de_or ha.1 hb.1) (dt_or ha.2 (dw_of hb.2)) (fun env => by simp only [semE])
    · cases h
  | .not a, X, sc, e, g, hs, h => by
    unfold chkE at h
    split at h
    · have ha := sound a _ g hs h
      exact bothE2 (de_not ha.1) (dt_not ha.2) (fun env => by simp only [semE])
    · cases h
  | .ite c a b, X, sc, e, g, hs, h => by
    unfold chkE at h
    split at h
    · simp only [Bool.and_eq_true] at h
      have hc := sound c _ g hs h.1.1
      have ha := sound a _ g hs h.1.2
      have hb := sound b _ g hs h.2
      exact bothE2 (de_ite hc.2 ha.1 hb.1) (dt_ite hc.2 ha.2 hb.2) (fun env => by simp only [semE])
    · cases h
  | .tup es, X, sc, e, g, hs, h => by
    unfold chkE at h
    split at h
    · exact bothE (de_tup (sounds es _ g hs h)) (fun env => by simp only [semE]) (fun _ => rfl)
    · cases h
  | .lst es, X, sc, e, g, hs, h => by
    unfold chkE at h
    split at h
    · exact bothE (de_lst (sounds es _ g hs h)) (fun env => by simp only [semE]) (fun _ => rfl)
    · cases h
  | .rep es n, X, sc, e, g, hs, h => by
    unfold chkE at h
    split at h
    · simp only [Bool.and_eq_true] at h
      refine bothE (de_of_df (df_rep (sounds es _ g hs h.1) (sound n _ g hs h.2).1)) (fun env => ?_) (fun _ => rfl)
      simp only [semE]
      cases semEs T es env with
      | ok ds =>
        simp only [R.ok_bind]
        split
        · cases semE T n env with
          | ok y =>
            simp only [R.ok_bind]
            cases y <;> first | rfl | (simp only [repD]; split <;> rfl)
          | ex c => rfl
          | no => rfl
        · rfl
      | ex c => rfl
      | no => rfl
    · cases h
  | .ix a b, X, sc, e, g, hs, h => by
    unfold chkE at h
    split at h
    · simp only [Bool.and_eq_true] at h
      exact bothE (de_ix (sound a _ g hs h.1.2).1 (sound b _ g hs h.2).1 (slice_of h.1.1)) (fun env => by simp only [semE]) (fun _ => rfl)
    · cases h
  | .sl a lo hi, X, sc, e, g, hs, h => by
    unfold chkE at h
    split at h
    · rename_i x l hh p2 p
      simp only [Bool.and_eq_true] at h
      obtain ⟨⟨h1, h2⟩, h3⟩ := h
      have hl : PO X l (tDO X fun env => if isNo lo = true then .ok none else semE T lo env >>= intO) := by
        split at h2
        · simp only [h2, if_true]
          exact do_none
        · rename_i l
          simp only [Bool.and_eq_true, Bool.not_eq_true'] at h2
          simp only [h2.1, Bool.false_eq_true, if_false]
          exact do_some (sound lo _ g hs h2.2).1
      have hr : PO X hh (tDO X fun env => if isNo hi = true then .ok none else semE T hi env >>= intO) := by
        split at h3
        · simp only [h3, if_true]
          exact do_none
        · rename_i l
          simp only [Bool.and_eq_true, Bool.not_eq_true'] at h3
          simp only [h3.1, Bool.false_eq_true, if_false]
          exact do_some (sound hi _ g hs h3.2).1
      exact bothE (de_sl (sound a _ g hs h1).1 hl hr) (fun env => by simp only [semE]) (fun _ => rfl)
    · cases h
  | .call f es, X, sc, e, g, hs, h => by
    unfold chkE at h
    split at h
    · rename_i x p xs pos
      simp only [Bool.and_eq_true, decide_eq_true_eq] at h
      obtain ⟨⟨⟨rfl, h2⟩, h3⟩, h4⟩ := h
      obtain ⟨q1, q2⟩ := gl_of hs h2
      have C := g.fn f (List.contains_iff_mem.mp h3)
      cases es with
      | nil =>
        cases xs with
        | nil => exact bothE (de_call0 C g.room q1 q2) (fun env => by simp only [semE, semEs, R.ok_bind]) (fun _ => rfl)
        | cons y ys => simp [chkEs] at h4
      | cons a as =>
        cases xs with
        | nil => simp [chkEs] at h4
        | cons y ys =>
          obtain ⟨s1, s2⟩ := chkEs_star (X := X) h4
          exact bothE (de_call C g.room q1 q2 (sounds (a :: as) _ g hs h4) (star_of s1) (backs_of s2 _)) (fun env => by simp only [semE]) (fun _ => rfl)
    · cases h
  | .bi f es, X, sc, e, g, hs, h => by
    unfold chkE at h
    split at h
    · rename_i x p a b b1 p1 b2 p2 p3 pos
      simp only [Bool.and_eq_true, decide_eq_true_eq] at h
      obtain ⟨⟨⟨⟨rfl, h2⟩, h3⟩, h4⟩, h5⟩ := h
      cases eq_of_beq h2
      obtain ⟨q1, q2⟩ := gl_of hs h3
      obtain ⟨x1, x2, rfl, c1, c2⟩ : ∃ x1 x2, es = [x1, x2] ∧ chkE Γ x1 sc a = true ∧ chkE Γ x2 sc b = true := by
        cases es with
        | nil => simp [chkEs] at h5
        | cons x1 es => cases es with
          | nil => simp [chkEs] at h5
          | cons x2 es => cases es with
            | nil =>
              simp only [chkEs, Bool.and_eq_true, and_true] at h5
              exact ⟨x1, x2, rfl, h5.1.2, h5.2.2⟩
            | cons x3 es => simp [chkEs] at h5
      exact bothE (de_pairSet (x := ("sorted" : Str)) g.calm q1 (g.blt "sorted" (List.contains_iff_mem.mp h4)) (sound x1 _ g hs c1).1 (sound x2 _ g hs c2).1) (fun env => by
        simp only [semE, semEs]
        cases semE T x1 env <;> simp
        cases semE T x2 env <;> simp
        rfl) (fun _ => rfl)
    · rename_i x p y ys pos _
      simp only [Bool.and_eq_true, decide_eq_true_eq] at h
      obtain ⟨⟨⟨rfl, h2⟩, h3⟩, h4⟩ := h
      obtain ⟨q1, q2⟩ := gl_of hs h2
      have hs4 : noStar y = true ∧ (backTo pos (starEach ys X.env)).any (·.1) = false := by
        cases es with
        | nil => simp [chkEs] at h4
        | cons a as =>
          obtain ⟨s1, s2⟩ := chkEs_star (X := X) h4
          exact ⟨s1, backs_of s2 _⟩
      rw [Bool.or_eq_true] at h3
      rcases h3 with h3 | h3
      · rw [Bool.and_eq_true] at h3
        obtain ⟨u, hu⟩ := Option.isSome_iff_exists.mp h3.2
        obtain ⟨b1, b2, b3, b4⟩ := bval_boot hu
        exact bothE (de_bi (call_biD g.calm hu) b4 q1 (g.blt f (List.contains_iff_mem.mp h3.1)) b1 b2 b3 (sounds es _ g hs h4) (star_of hs4.1) hs4.2) (fun env => by simp only [semE]) (fun _ => rfl)
      · rw [Bool.and_eq_true] at h3
        cases eq_of_beq h3.1
        exact bothE (de_bfun call_gcdD q1 (g.gcd h3.2) q2 (sounds es _ g hs h4) (star_of hs4.1) hs4.2) (fun env => by simp only [semE]; rfl) (fun _ => rfl)
    · cases h
  | .mth m o es, X, sc, e, g, hs, h => by
    unfold chkE at h
    split at h
    · simp only [Bool.and_eq_true, decide_eq_true_eq] at h
      obtain ⟨⟨⟨⟨⟨h1, rfl⟩, h3⟩, h4⟩, h5⟩, h6⟩ := h
      cases eq_of_beq h1
      have : es = [] := by
        cases es with
        | nil => rfl
        | cons a as => simp [chkEs] at h6
      subst this
      exact bothE (de_bits (sound o _ g hs h5).1 (base_of h3) h4) (fun env => by simp only [semE, semEs, R.ok_bind]; rfl) (fun _ => rfl)
    · simp only [Bool.and_eq_true, decide_eq_true_eq] at h
      obtain ⟨⟨⟨⟨⟨⟨h1, rfl⟩, h3⟩, h4⟩, h5⟩, h6⟩, h7⟩ := h
      cases eq_of_beq h1
      exact bothE (de_count (sound o _ g hs h6).1 (sounds es _ g hs h7) (base_of h3) (star_of h4) h5) (fun env => by simp only [semE]; rfl) (fun _ => rfl)
    · cases h
  | .isi a t, X, sc, e, g, hs, h => by
    unfold chkE at h
    split at h
    · simp only [Bool.and_eq_true, decide_eq_true_eq] at h
      obtain ⟨⟨⟨⟨⟨⟨⟨⟨rfl, rfl⟩, h3⟩, h4⟩, h5⟩, h6⟩, h7⟩, h8⟩, h9⟩ := h
      exact bothE (de_isi (sound a _ g hs h9).1 (List.contains_iff_mem.mp h7) (gl_of hs h3).1 (g.blt "isinstance" (List.contains_iff_mem.mp h5)) (gl_of hs h4).1 (g.blt t (List.contains_iff_mem.mp h6)) (star_of h8)) (fun env => by simp only [semE]) (fun _ => rfl)
    · cases h
  | .comp own elt tg itf its ifs, X, sc, e, g, hs, h => by
    unfold chkE at h
    split at h
    · rename_i el tg' iter ifs' scope pos
      simp only [Bool.and_eq_true] at h
      obtain ⟨⟨⟨⟨⟨⟨h1, h2⟩, h3⟩, h4⟩, h5⟩, h6⟩, h7⟩ := h
      have hown : (ownP Γ own).map (·.2) = own := own_map Γ own
      have hI : DI X tg' iter (fun env => semEs T its env >>= fun as => itBi itf as) := by
        split at h5
        · rename_i it a
          have := di_seq (tg := tg') (sound a _ g hs h5).1
          refine PI.imp this fun σ H S ⟨B, env, H0, ds, r, e, q⟩ => ⟨B, env, H0, ds, r, ?_, q⟩
          rw [← e]
          simp only [semEs]
          cases semE T a env <;> rfl
        · rename_i a r p x pos'
          simp only [Bool.and_eq_true, decide_eq_true_eq] at h5
          obtain ⟨⟨⟨⟨rfl, k2⟩, k3⟩, k4⟩, k5⟩ := h5
          have := di_range1 (tg := tg') (p := p) (pos := pos') (gl_of hs k2).1 (g.blt "range" (List.contains_iff_mem.mp k3)) (sound a _ g hs k5).1 (star_of k4)
          refine PI.imp this fun σ H S ⟨B, env, H0, ds, r, e, q⟩ => ⟨B, env, H0, ds, r, ?_, q⟩
          rw [← e]
          simp only [semEs]
          cases semE T a env <;> rfl
        · rename_i a b r p x y pos'
          simp only [Bool.and_eq_true, decide_eq_true_eq] at h5
          obtain ⟨⟨⟨⟨⟨⟨rfl, k2⟩, k3⟩, k4⟩, k5⟩, k6⟩, k7⟩ := h5
          have := di_range2 (tg := tg') (p := p) (pos := pos') (gl_of hs k2).1 (g.blt "range" (List.contains_iff_mem.mp k3)) (sound a _ g hs k6).1 (sound b _ g hs k7).1 (by rw [star_of k4, star_of k5]; rfl) (star_of k5)
          refine PI.imp this fun σ H S ⟨B, env, H0, ds, r, e, q⟩ => ⟨B, env, H0, ds, r, ?_, q⟩
          rw [← e]
          simp only [semEs]
          cases semE T a env with
          | ok d => cases semE T b env <;> rfl
          | ex c => rfl
          | no => rfl
        · cases h5
      have hT : ∀ (s : Shared) (H : Hp) (C : Addr) (cl : List (Str × Addr)) (fp : List Addr), PTs (X.blk s H scope (compEnvC scope cl C X.env) fp) ifs' (tDT X (semTs T ifs)) := fun s H C cl fp => by
        split at h6
        · have e0 : semTs T [] = fun _ => .ok true := funext fun env => by simp only [semTs]
          rw [e0]
          exact dts_nil
        · rename_i c z
          have e0 : semTs T [c] = fun env => semE T c env >>= truthD := funext fun env => by simp only [semTs]; rfl
          rw [e0]
          exact pts_one (sound c z (g.blk s H scope C cl fp) (by rw [← hs]; rfl) h6).2
        · cases h6
      refine bothE (de_of_df (PE.imp (pe_lc g.calm g.nd hI (blkOk_by (own := ownP Γ own) (by rw [g.N, hs]; exact h1)) (fun s H C cl fp => sound_G (X := X.blk s H scope (compEnvC scope cl C X.env) fp) (fn := fun x => scope.names.lookup x == some .cell) g.calm g.nd g.N rfl (by rw [← hs]; rfl) tg tg' h2) hT
        (fun s H C cl fp => (sound elt el (g.blk s H scope C cl fp) (by rw [← hs]; rfl) h7).1) (fold_of h4)) fun σ H Q q => df_comp σ H Q q fun i hi => ?_)) (fun env => ?_) (fun _ => rfl)
      · rw [hown]
        exact List.contains_iff_mem.mp (List.all_eq_true.mp h3 i hi)
      · rw [hown]
        simp only [semE]
        cases semEs T its env with
        | ok as =>
          simp only [R.ok_bind]
          cases itBi itf as with
          | ok ds =>
            simp only [R.ok_bind]
            split
            · rfl
            · rfl
          | ex c => rfl
          | no => rfl
        | ex c => rfl
        | no => rfl
    · cases h
  | .oix i b, X, sc, e, g, hs, h => by
    unfold chkE at h
    split at h
    · simp only [Bool.and_eq_true] at h
      obtain ⟨h1, h2, h3, h4⟩ := var_of g hs h.1.2
      exact bothE (de_oix h1 h2 h3 h4 (sound b _ g hs h.2).1 (slice_of h.1.1)) (fun env => by simp only [semE]) (fun _ => rfl)
    · cases h
  | .olen i, X, sc, e, g, hs, h => by
    unfold chkE at h
    split at h
    · simp only [Bool.and_eq_true, decide_eq_true_eq] at h
      obtain ⟨⟨⟨rfl, k2⟩, k3⟩, k4⟩ := h
      obtain ⟨h1, h2, h3, h4⟩ := var_of g hs k4
      exact bothE (de_olen (gl_of hs k2).1 (g.blt "len" (List.contains_iff_mem.mp k3)) h1 h2 h3 h4) (fun env => by simp only [semE]) (fun _ => rfl)
    · cases h
  | .fld _ _, _, _, _, _, _, h => by simp [chkE] at h
  | .fix _ _ _, _, _, _, _, _, h => by simp [chkE] at h
  | .flen _ _, _, _, _, _, _, h => by simp [chkE] at h
  | .mget _ _ _, _, _, _, _, _, h => by simp [chkE] at h
theorem sounds : ∀ (xs : List Ex) {X : Cx} {sc : Scope} (es : List Expr), Good X T Γ k → X.env.scope = sc → chkEs Γ xs sc es = true → DEs X es (semEs T xs)
  | [], X, sc, es, g, hs, h => by
    unfold chkEs at h
    split at h
    · exact des_eq des_nil fun env => by simp only [semEs]
    · cases h
  | x :: xs, X, sc, es, g, hs, h => by
    unfold chkEs at h
    split at h
    · rename_i e es
      simp only [Bool.and_eq_true] at h
      exact des_eq (des_cons (sound x e g hs h.1.2).1 (sounds xs es g hs h.2) (star_of h.1.1)) fun env => by simp only [semEs]
    · cases h
end
end
end Y

/-! Y12: statements of the program against those of the tongue. -/
namespace Y
open PySem L2 PyProof.Rows

section
variable {X : Cx} {T : Tab} {Γ : Names} {k : Nat} {sc : Scope}
/-! ### a comprehension's parts -/
structure CompP (X : Cx) (T : Tab) (Γ : Names) (own : List Nat) (elt : Ex) (tg : Tg) (itf : String) (its ifs : List Ex) (el tg' iter : Expr) (ifs' : List Expr) (scope : Scope) : Prop where
  hI : DI X tg' iter (fun env => semEs T its env >>= fun as => itBi itf as)
  ok : BlkOk X.N X.env.scope scope (ownP Γ own)
  hg : ∀ (s : Shared) (H : Hp) (C : Addr) (cl : List (Str × Addr)) (fp : List Addr), DG (X.blk s H scope (compEnvC scope cl C X.env) fp) tg' tg
  ht : ∀ (s : Shared) (H : Hp) (C : Addr) (cl : List (Str × Addr)) (fp : List Addr), PTs (X.blk s H scope (compEnvC scope cl C X.env) fp) ifs' (tDT X (semTs T ifs))
  he : ∀ (s : Shared) (H : Hp) (C : Addr) (cl : List (Str × Addr)) (fp : List Addr), DE (X.blk s H scope (compEnvC scope cl C X.env) fp) el (semE T elt)
  hs : ∀ x, foldedSetIterable iter X.env x = pure x
  hv : ∀ i ∈ tgVars tg, i ∈ (ownP Γ own).map (·.2)
theorem iter_sound {itf : String} {its : List Ex} {tg iter : Expr} (g : Good X T Γ k) (hs : X.env.scope = sc) (h5 : (match itf, its, iter with
        | "", [a], it => chkE Γ a sc it
        | "range", [a], .Call (.Name r _) [x] [] _ => decide (r = ("range" : Str)) && glB sc r && Γ.blt.contains "range" && noStar x && chkE Γ a sc x
        | "range", [a, b], .Call (.Name r _) [x, y] [] _ => decide (r = ("range" : Str)) && glB sc r && Γ.blt.contains "range" && noStar x && noStar y && chkE Γ a sc x && chkE Γ b sc y
        | _, _, _ => false) = true) : DI X tg iter (fun env => semEs T its env >>= fun as => itBi itf as) := by
  split at h5
  · rename_i it a
    have := di_seq (tg := tg) (sound a _ g hs h5).1
    refine PI.imp this fun σ H S ⟨B, env, H0, ds, r, e, q⟩ => ⟨B, env, H0, ds, r, ?_, q⟩
    rw [← e]
    simp only [semEs]
    cases semE T a env <;> rfl
  · rename_i a r p x pos'
    simp only [Bool.and_eq_true, decide_eq_true_eq] at h5
    obtain ⟨⟨⟨⟨rfl, k2⟩, k3⟩, k4⟩, k5⟩ := h5
    have := di_range1 (tg := tg) (p := p) (pos := pos') (gl_of hs k2).1 (g.blt "range" (List.contains_iff_mem.mp k3)) (sound a _ g hs k5).1 (star_of k4)
    refine PI.imp this fun σ H S ⟨B, env, H0, ds, r, e, q⟩ => ⟨B, env, H0, ds, r, ?_, q⟩
    rw [← e]
    simp only [semEs]
    cases semE T a env <;> rfl
  · rename_i a b r p x y pos'
    simp only [Bool.and_eq_true, decide_eq_true_eq] at h5
    obtain ⟨⟨⟨⟨⟨⟨rfl, k2⟩, k3⟩, k4⟩, k5⟩, k6⟩, k7⟩ := h5
    have := di_range2 (tg := tg) (p := p) (pos := pos') (gl_of hs k2).1 (g.blt "range" (List.contains_iff_mem.mp k3)) (sound a _ g hs k6).1 (sound b _ g hs k7).1 (by rw [star_of k4, star_of k5]; rfl) (star_of k5)
    refine PI.imp this fun σ H S ⟨B, env, H0, ds, r, e, q⟩ => ⟨B, env, H0, ds, r, ?_, q⟩
    rw [← e]
    simp only [semEs]
    cases semE T a env with
    | ok d => cases semE T b env <;> rfl
    | ex c => rfl
    | no => rfl
  · cases h5
theorem comp_parts {own : List Nat} {elt : Ex} {tg : Tg} {itf : String} {its ifs : List Ex} {e : Expr} (g : Good X T Γ k) (hs : X.env.scope = sc) (h : chkE Γ (.comp own elt tg itf its ifs) sc e = true) :
    ∃ el tg' iter ifs' scope pos, e = .ListComp el [⟨tg', iter, ifs', 0⟩] scope pos ∧ CompP X T Γ own elt tg itf its ifs el tg' iter ifs' scope := by
  unfold chkE at h
  split at h
  · rename_i el tg' iter ifs' scope pos
    simp only [Bool.and_eq_true] at h
    obtain ⟨⟨⟨⟨⟨⟨h1, h2⟩, h3⟩, h4⟩, h5⟩, h6⟩, h7⟩ := h
    have hown : (ownP Γ own).map (·.2) = own := own_map Γ own
    refine ⟨el, tg', iter, ifs', scope, pos, rfl, iter_sound g hs h5, blkOk_by (by rw [g.N, hs]; exact h1), fun s H C cl fp => sound_G (X := X.blk s H scope (compEnvC scope cl C X.env) fp) (fn := fun x => scope.names.lookup x == some .cell) g.calm g.nd g.N rfl (by rw [← hs]; rfl) tg tg' h2,
      fun s H C cl fp => ?_, fun s H C cl fp => (sound elt el (g.blk s H scope C cl fp) (by rw [← hs]; rfl) h7).1, fold_of h4, fun i hi => ?_⟩
    · split at h6
      · have e0 : semTs T [] = fun _ => .ok true := funext fun env => by simp only [semTs]
        rw [e0]
        exact dts_nil
      · rename_i c z
        have e0 : semTs T [c] = fun env => semE T c env >>= truthD := funext fun env => by simp only [semTs]; rfl
        rw [e0]
        exact pts_one (sound c z (g.blk s H scope C cl fp) (by rw [← hs]; rfl) h6).2
      · cases h6
    · rw [hown]
      exact List.contains_iff_mem.mp (List.all_eq_true.mp h3 i hi)
  · cases h
theorem comp_sem {own : List Nat} {elt : Ex} {tg : Tg} {itf : String} {its ifs : List Ex} (env : Env) : semE T (.comp own elt tg itf its ifs) env >>= lstOf = ((semEs T its env >>= fun as => itBi itf as) >>= fun ds => if ds.length ≤ sizeLine then compD (stepC tg ((ownP Γ own).map (·.2)) (semTs T ifs) (semE T elt) env) ds else .no) := by
  rw [own_map]
  simp only [semE]
  cases semEs T its env with
  | ok as =>
    simp only [R.ok_bind]
    cases itBi itf as with
    | ok ds =>
      simp only [R.ok_bind]
      split
      · show (compD (stepC tg own (semTs T ifs) (semE T elt) env) ds >>= fun r => (R.ok (.list r) : R D)) >>= lstOf = compD (stepC tg own (semTs T ifs) (semE T elt) env) ds
        cases compD (stepC tg own (semTs T ifs) (semE T elt) env) ds <;> rfl
      · rfl
    | ex c => rfl
    | no => rfl
  | ex c => rfl
  | no => rfl
theorem CompP.tlc {own : List Nat} {elt : Ex} {tg : Tg} {itf : String} {its ifs : List Ex} {el tg' iter : Expr} {ifs' : List Expr} {scope : Scope} (c : CompP X T Γ own elt tg itf its ifs el tg' iter ifs' scope) {σ : L2.St} {H : Hp} {Q : VK}
    (q : tDF X (fun env => semE T (.comp own elt tg itf its ifs) env >>= lstOf) σ H Q) : tLc (tDI X fun env => semEs T its env >>= fun as => itBi itf as) (tDG X tg) (tDT X (semTs T ifs)) (tD X (semE T elt)) ((ownP Γ own).map (·.2)) σ H Q := by
  refine df_comp (ft := semTs T ifs) (fe := semE T elt) σ H Q ?_ c.hv
  obtain ⟨B, env, H0, ds, r, e, q⟩ := q
  exact ⟨B, env, H0, ds, r, (comp_sem (Γ := Γ) env).symm.trans e, q⟩
/-! ### expressions that give a new list -/
def freshB : Ex → Bool
  | .lst _ => true
  | .rep _ _ => true
  | .comp .. => true
  | .bi "list" [_] => true
  | _ => false
theorem df_list {e : Expr} {f : Env → R D} {x : Str} {p pos : Pos} (hg : Gl X x) (hx : x = ("list" : Str)) (hm : X.mg x = none) (h : DE X e f) (hst : starEach [e] X.env = (false, eval e X.env) :: starEach [] X.env) :
    DF X (.Call (.Name x p) [e] [] pos) (fun env => f env >>= listD >>= lstOf) := by
  subst hx
  refine PE.imp (pe_callTy call_list_of hg hm (by decide +kernel) (pa_cons h pa_nil hst) (by decide) (by decide) hst (by rfl)) fun σ H Q ⟨B, env, H0, ds, r, e, q⟩ => ?_
  obtain ⟨l, e, e3⟩ := R.bind_ok e
  obtain ⟨d, e1, e2⟩ := R.bind_ok e
  refine ⟨B, env, H0, d, r, e1, fun v H1 H1' g1 hv => ?_⟩
  unfold listD at e2
  split at e2
  · cases e2
    cases e3
    obtain ⟨a, vs, rfl, ha, hd⟩ := dp_list hv
    exact ⟨a, vs, rfl, .inl (g1.c.seq ha), fun p hp => q p vs H1 _ (g1.trans (Grow.newH g1.c hp)) (g1.b.free hp) (g1.c.free hp) upd_same hd⟩
  · cases e2
    cases e3
    obtain ⟨a, vs, rfl, ha, hd⟩ := dp_tup hv
    exact ⟨a, vs, rfl, .inr (seqT_same g1.c ha), fun p hp => q p vs H1 _ (g1.trans (Grow.newH g1.c hp)) (g1.b.free hp) (g1.c.free hp) upd_same hd⟩
  · cases e2
theorem sound_F (g : Good X T Γ k) (hs : X.env.scope = sc) : ∀ (x : Ex) (e : Expr), freshB x = true → chkE Γ x sc e = true → DF X e (fun env => semE T x env >>= lstOf) := by
  intro x e hf h
  unfold freshB at hf
  split at hf
  · unfold chkE at h
    split at h
    · refine PE.imp (df_lst (sounds _ _ g hs h)) fun σ H Q ⟨B, env, H0, ds, r, e, q⟩ => ⟨B, env, H0, ds, r, ?_, q⟩
      rw [← e]
      simp only [semE]
      cases semEs T _ env with
      | ok ds => simp only [R.ok_bind]; split <;> rfl
      | ex c => rfl
      | no => rfl
    · cases h
  · rename_i es n
    unfold chkE at h
    split at h
    · simp only [Bool.and_eq_true] at h
      refine PE.imp (df_rep (sounds es _ g hs h.1) (sound n _ g hs h.2).1) fun σ H Q ⟨B, env, H0, ds, r, e, q⟩ => ⟨B, env, H0, ds, r, ?_, q⟩
      rw [← e]
      simp only [semE]
      cases semEs T es env with
      | ok ds =>
        simp only [R.ok_bind]
        split
        · cases semE T n env with
          | ok y =>
            simp only [R.ok_bind]
            cases y <;> first | rfl | (simp only [repD]; split <;> rfl)
          | ex c => rfl
          | no => rfl
        · rfl
      | ex c => rfl
      | no => rfl
    · cases h
  · rename_i own elt tg itf its ifs
    obtain ⟨el, tg', iter, ifs', scope, pos, rfl, c⟩ := comp_parts g hs h
    exact PE.imp (pe_lc g.calm g.nd c.hI c.ok c.hg c.ht c.he c.hs) fun σ H Q q => c.tlc q
  · rename_i a
    unfold chkE at h
    split at h
    · rename_i x p a b b1 p1 b2 p2 p3 pos
      simp only [Bool.and_eq_true, decide_eq_true_eq] at h
      exact absurd h.1.1.1.2 (by decide)
    · rename_i x p y ys pos _
      simp only [Bool.and_eq_true, decide_eq_true_eq] at h
      obtain ⟨⟨⟨rfl, h2⟩, h3⟩, h4⟩ := h
      obtain ⟨q1, q2⟩ := gl_of hs h2
      have h3 : Γ.blt.contains "list" = true := by
        rw [Bool.or_eq_true] at h3
        rcases h3 with h3 | h3
        · rw [Bool.and_eq_true] at h3
          exact h3.1
        · rw [Bool.and_eq_true] at h3
          exact absurd h3.1 (by decide)
      cases ys with
      | cons z zs => simp [chkEs] at h4
      | nil =>
        simp only [chkEs, Bool.and_eq_true] at h4
        refine PE.imp (df_list q1 rfl (g.blt "list" (List.contains_iff_mem.mp h3)) (sound a y g hs h4.1.2).1 (star_of h4.1.1)) fun σ H Q ⟨B, env, H0, ds, r, e, q⟩ => ⟨B, env, H0, ds, r, ?_, q⟩
        rw [← e]
        simp only [semE, semEs]
        cases semE T a env <;> rfl
    · cases h
  · cases hf
/-! ### assignments -/
def noTup : Expr → Bool
  | .Tuple .. => false
  | _ => true
def noComp : Expr → Bool
  | .ListComp .. => false
  | .SetComp .. => false
  | .DictComp .. => false
  | _ => true
theorem sw_other {tg v : Expr} {env : PySem.Env} (h : noTup v = true) : swappedStores [tg] v env = pure none := by
  cases v <;> first | (cases h; done) | (cases tg <;> rfl)
theorem sw_name {tg v : Expr} {env : PySem.Env} (h : noTup tg = true) (h2 : (match tg with | .List .. => false | _ => true) = true) : swappedStores [tg] v env = pure none := by
  cases tg <;> first | (cases h; done) | (cases h2; done) | (cases v <;> rfl)
theorem swaps_false {v : Expr} {t : Option Expr} {l : Nat} {env : PySem.Env} (h : noComp v = true) : swapsWith v t l env = pure false := by
  cases v <;> first | rfl | (cases h; done)
theorem swaps_tup {v tg : Expr} {l : Nat} {env : PySem.Env} (h : (match tg with | .Name .. => false | _ => true) = true) : swapsWith v (some tg) l env = pure false := by
  cases tg <;> first | (cases h; done) | (cases v <;> rfl)
/-- stored from the right: two or three plain local names, each once, on one line, not all written -/
def swN (sc : Scope) (line : Nat) : Expr → Option Str
  | .Name id pos => if (sc.names.lookup id == some .local && pos.line == line) then some id else none
  | _ => none
def starB : Expr → Bool
  | .Starred .. => true
  | _ => false
def swapB (sc : Scope) (ts vs : List Expr) : Option (List Str) :=
  if !(ts.length == 2 || ts.length == 3) || vs.length != ts.length then none
  else if vs.any starB then none
  else if ((ts.filterMap (swN sc ((ts.head?.map (·.pos.line)).getD 0))).length != ts.length || (ts.filterMap (swN sc ((ts.head?.map (·.pos.line)).getD 0))).eraseDups.length != (ts.filterMap (swN sc ((ts.head?.map (·.pos.line)).getD 0))).length) then none
  else if vs.all (foldedForSure 8) then none
  else some (ts.filterMap (swN sc ((ts.head?.map (·.pos.line)).getD 0)))
def swN0 (env : PySem.Env) (line : Nat) : Expr → Option Str
  | .Name id pos => if (env.kindOf id == some .local && pos.line == line) = true then some id else none
  | _ => none
theorem swap_eq {ts vs : List Expr} {k k2 : Nat} {p p2 : Pos} (hs : X.env.scope = sc) (hf : sc.kind = .function) (hc : vs.all (constantsAlone 8) = false ∨ swapB sc ts vs = none) :
    swappedStores [.Tuple ts k p] (.Tuple vs k2 p2) X.env = pure (swapB sc ts vs) := by
  have hb : X.env.blockKind = .function := by
    unfold Env.blockKind
    rw [hs, hf]
    rfl
  have hk : (ScopeKind.function != ScopeKind.function) = false := by decide
  generalize hL : ((ts.head?.map (·.pos.line)).getD 0) = L
  have hn : ts.filterMap (swN0 X.env L) = ts.filterMap (swN sc L) := by
    congr 1
    funext e
    cases e <;> first | rfl | (show (if (X.env.scope.names.lookup _ == some .local && _) = true then _ else _) = _; rw [hs]; rfl)
  unfold swappedStores
  simp only [hb, hk, Bool.or_false, hL]
  change (if (!(ts.length == 2 || ts.length == 3) || vs.length != ts.length) = true then pure none else if vs.any starB = true then pure none
    else if ((ts.filterMap (swN0 X.env L)).length != ts.length || (ts.filterMap (swN0 X.env L)).eraseDups.length != (ts.filterMap (swN0 X.env L)).length) = true then pure none
    else if vs.all (foldedForSure 8) = true then pure none else if vs.all (constantsAlone 8) = true then (do unsupported "assign.tuple-of-constant-expressions:order-of-the-stores"; pure (some (ts.filterMap (swN0 X.env L)))) else pure (some (ts.filterMap (swN0 X.env L)))) = _
  rw [hn]
  unfold swapB at hc ⊢
  simp only [hL] at hc ⊢
  split
  · rfl
  · rename_i h0
    rw [if_neg h0] at hc
    split
    · rfl
    · rename_i h1
      rw [if_neg h1] at hc
      split
      · rfl
      · rename_i h2
        rw [if_neg h2] at hc
        split
        · rfl
        · rename_i h3
          rw [if_neg h3] at hc
          rcases hc with hc | hc
          · rw [if_neg (by rw [hc]; simp)]
          · cases hc
end
end Y

/-! Y13: statements. -/
namespace Y
open PySem L2 PyProof.Rows

def isComp : Ex → Bool
  | .comp .. => true
  | _ => false
def iterB (Γ : Names) (sc : Scope) (itf : String) (its : List Ex) (iter : Expr) : Bool := match itf, its, iter with
  | "", [a], it => chkE Γ a sc it
  | "range", [a], .Call (.Name r _) [x] [] _ => decide (r = ("range" : Str)) && glB sc r && Γ.blt.contains "range" && noStar x && chkE Γ a sc x
  | "range", [a, b], .Call (.Name r _) [x, y] [] _ => decide (r = ("range" : Str)) && glB sc r && Γ.blt.contains "range" && noStar x && noStar y && chkE Γ a sc x && chkE Γ b sc y
  | _, _, _ => false
def nmB (Γ : Names) (sc : Scope) (i : Nat) (x : Str) : Bool := decide (Γ.N[i]? = some x) && locB sc (fun _ => true) x
def lclB (Γ : Names) (sc : Scope) (i : Nat) (x : Str) : Bool := decide (Γ.N[i]? = some x) && decide (sc.names.lookup x = some .local)
mutual
def chkS (Γ : Names) : St → Scope → Stmt → Bool
  | .nop, _, s => match s with
    | .Pass _ => true
    | .Expr (.Constant (.str _) _ _) _ => true
    | _ => false
  | .asg _ t e, sc, s => match s with
    | .Assign [.Name x _] v _ => (match t with | .nm i => nmB Γ sc i x | _ => false) && chkE Γ e sc v && (noComp v || isComp e)
    | .Assign [.Tuple tes k p] v _ => chkG Γ (fun _ => true) t sc (.Tuple tes k p) && chkE Γ e sc v && noComp v && (match v with | .Tuple vs _ _ => decide (swapB sc tes vs = none) | _ => true)
    | _ => false
  | .par i j a b, sc, s => match s with
    | .Assign [.Tuple [.Name x px, .Name y py] _ _] (.Tuple [u, v] _ _) _ => lclB Γ sc i x && lclB Γ sc j y && !(i == j) && noStar u && noStar v && chkE Γ a sc u && chkE Γ b sc v && decide (swapB sc [.Name x px, .Name y py] [u, v] = some [x, y]) && !([u, v].all (constantsAlone 8))
    | _ => false
  | .par3 i j l a b c, sc, s => match s with
    | .Assign [.Tuple [.Name x px, .Name y py, .Name z pz] _ _] (.Tuple [u, v, w] _ _) _ => lclB Γ sc i x && lclB Γ sc j y && lclB Γ sc l z && !(i == j) && !(i == l) && !(j == l) && noStar u && noStar v && noStar w && chkE Γ a sc u && chkE Γ b sc v && chkE Γ c sc w &&
        decide (swapB sc [.Name x px, .Name y py, .Name z pz] [u, v, w] = some [x, y, z]) && !([u, v, w].all (constantsAlone 8))
    | _ => false
  | .aug i op e, sc, s => match s with
    | .AugAssign (.Name x _) o v _ => nmB Γ sc i x && decide (o = boOp op) && chkE Γ e sc v
    | _ => false
  | .new i e, sc, s => match s with
    | .Assign [.Name x _] v _ => nmB Γ sc i x && freshB e && chkE Γ e sc v && (noComp v || isComp e)
    | _ => false
  | .app _ i e, sc, s => match s with
    | .Expr (.Call (.Attribute (.Name x _) n apos) [y] [] cpos) _ => decide (n = ("append" : Str)) && varB Γ sc i x && noStar y && (apos.endLine == cpos.line) && chkE Γ e sc y
    | _ => false
  | .seti i k e, sc, s => match s with
    | .Assign [.Subscript (.Name x _) y _] v _ => varB Γ sc i x && noSlice y && chkE Γ k sc y && chkE Γ e sc v
    | _ => false
  | .expr e, sc, s => match s with
    | .Expr v _ => noComp v && chkE Γ e sc v
    | _ => false
  | .ite _ c a b, sc, s => match s with
    | .If z x y _ => chkE Γ c sc z && chkSs Γ a sc x && chkSs Γ b sc y
    | _ => false
  | .forr _ t itf its body, sc, s => match s with
    | .For tg iter bd [] _ => chkG Γ (fun _ => true) t sc tg && noSet iter && iterB Γ sc itf its iter && chkSs Γ body sc bd
    | _ => false
  | .whil _ c body, sc, s => match s with
    | .While z bd [] _ => chkE Γ c sc z && chkSs Γ body sc bd
    | _ => false
  | .ret _ e, sc, s => match s with
    | .Return (some v) _ => chkE Γ e sc v
    | _ => false
  | .retN, _, s => match s with
    | .Return none _ => true
    | _ => false
  | .brk, _, s => match s with
    | .Break _ => true
    | _ => false
  | .cont, _, s => match s with
    | .Continue _ => true
    | _ => false
  | .rais _, _, _ => true
  | .mk _ _ _, _, _ => false
  | .mcal _ _ _ _, _, _ => false
  | .setf _ _ _, _, _ => false
  | .setft _ _ _, _, _ => false
  | .setfn _ _ _, _, _ => false
  | .augf _ _ _ _, _, _ => false
  | .fapp _ _ _, _, _ => false
  | .fseti _ _ _ _, _, _ => false
def chkSs (Γ : Names) : List St → Scope → List Stmt → Bool
  | [], _, ss => match ss with
    | [] => true
    | _ => false
  | t :: ts, sc, ss => match ss with
    | s :: ss => chkS Γ t sc s && chkSs Γ ts sc ss
    | _ => false
end
section
variable {X : Cx} {T : Tab} {Γ : Names} {k : Nat} {sc : Scope}
theorem ds_eq {s : Stmt} {f g : Env → R Out} (h : DS X s f) (k : ∀ env, g env = f env) : DS X s g := (funext k : g = f) ▸ h
theorem dss_eq {s : List Stmt} {f g : Env → R Out} (h : DSs X s f) (k : ∀ env, g env = f env) : DSs X s g := (funext k : g = f) ▸ h
theorem R_assoc {α β γ : Type} (x : R α) (f : α → R β) (g : β → R γ) : ((x >>= f) >>= g) = (x >>= fun a => f a >>= g) := by cases x <;> rfl
theorem nm_of {i : Nat} {x : Str} (g : Good X T Γ k) (hs : X.env.scope = sc) (hf : X.fn = fun _ => true) (h : nmB Γ sc i x = true) : X.N[i]? = some x ∧ Loc X.env.scope x ∧ (X.fn x = true ∨ X.env.scope.names.lookup x = some .local) := by
  unfold nmB at h
  rw [Bool.and_eq_true, decide_eq_true_eq] at h
  obtain ⟨h1, h2⟩ := loc_of hs hf h.2
  exact ⟨by rw [g.N]; exact h.1, h1, h2⟩
theorem lcl_of {i : Nat} {x : Str} (g : Good X T Γ k) (hs : X.env.scope = sc) (h : lclB Γ sc i x = true) : X.N[i]? = some x ∧ X.env.scope.names.lookup x = some .local := by
  unfold lclB at h
  rw [Bool.and_eq_true, decide_eq_true_eq, decide_eq_true_eq] at h
  exact ⟨by rw [g.N]; exact h.1, by rw [hs]; exact h.2⟩
theorem tDF_of {f : Env → R D} {σ : L2.St} {H : Hp} {Q : VK} (hl : ∀ env d, f env = .ok d → ∃ ds, d = .list ds) (q : tD X f σ H Q) : tDF X (fun env => f env >>= lstOf) σ H Q := by
  obtain ⟨B, env, H0, d, r, e, q⟩ := q
  obtain ⟨ds, rfl⟩ := hl _ _ e
  refine ⟨B, env, H0, ds, r, by show (f env >>= lstOf) = _; rw [e]; rfl, fun p vs H1 H1' g hp h0 h1 hv => ?_⟩
  refine q _ (L2.upd H1 p (.lst vs)) H1' ⟨g.a.trans (same_upd h0), g.b, fun b o z => ?_, fun x x1 x2 => ?_⟩ (.lst (SqL.of upd_same) (dps_same (same_upd h0) _ _ hv))
  · by_cases y : b = p
    · subst y
      rw [upd_same] at z
      rw [← z]
      exact h1
    · rw [upd_ne y] at z
      exact g.c _ _ z
  · rw [upd_ne (fun y => x1 (by rw [y]; exact hp))]
    exact g.d x x1 x2
theorem comp_list {own : List Nat} {elt : Ex} {tg : Tg} {itf : String} {its ifs : List Ex} (env : Env) (d : D) (h : semE T (.comp own elt tg itf its ifs) env = .ok d) : ∃ ds, d = .list ds := by
  simp only [semE] at h
  obtain ⟨as, _, h⟩ := R.bind_ok h
  obtain ⟨ds, _, h⟩ := R.bind_ok h
  split at h
  · obtain ⟨rs, _, h⟩ := R.bind_ok h
    cases h
    exact ⟨_, rfl⟩
  · cases h
/-- a comprehension is stored by its block, or as any value -/
theorem comp_sw {el tg' iter : Expr} {ifs' : List Expr} {scope : Scope} {p q : Pos} {x : Str} {l : Nat} {env : PySem.Env} : ∃ b, swapsWith (.ListComp el [⟨tg', iter, ifs', 0⟩] scope p) (some (.Name x q)) l env = pure b ∧ (b = true → env.kindOf x = some .local) := by
  refine ⟨_, rfl, fun h => ?_⟩
  simp only [Bool.and_eq_true] at h
  exact eq_of_beq h.1.1.2
theorem ds_setC {i : Nat} {x : Str} {e : Ex} {v : Expr} {fr : List Nat} {p pos : Pos} (g : Good X T Γ k) (hs : X.env.scope = sc) (hi : X.N[i]? = some x) (hx : Loc X.env.scope x) (hf : X.fn x = true ∨ X.env.scope.names.lookup x = some .local) (h : chkE Γ e sc v = true)
    (hc : (noComp v || isComp e) = true) : DS X (.Assign [.Name x p] v pos) (fun env => semE T e (freeze fr env) >>= fun d => bindT (.nm i) d (keep fr d env) >>= fun env' => .ok (.nx env')) := by
  cases hn : noComp v with
  | true => exact ds_set g.nd hi hx hf (sound e v g hs h).1 (swaps_false hn)
  | false =>
    rw [hn, Bool.false_or] at hc
    cases e with
    | comp own elt tg itf its ifs =>
      obtain ⟨el, tg', iter, ifs', scope, cp, rfl, c⟩ := comp_parts g hs h
      obtain ⟨b, hb, hl⟩ := comp_sw (el := el) (tg' := tg') (iter := iter) (ifs' := ifs') (scope := scope) (p := cp) (q := p) (x := x) (l := pos.line) (env := X.env)
      cases b with
      | false => exact ds_set g.nd hi hx hf (sound _ _ g hs h).1 hb
      | true => exact PS.imp (ps_setLc g.calm g.nd hi (hl rfl) hb c.hI c.ok c.hg c.ht c.he c.hs) fun D σ H q => c.tlc (tDF_of comp_list (asgn_run q))
    | _ => cases hc
theorem ds_newC {i : Nat} {x : Str} {e : Ex} {v : Expr} {p pos : Pos} (g : Good X T Γ k) (hs : X.env.scope = sc) (hi : X.N[i]? = some x) (hx : Loc X.env.scope x) (hf : X.fn x = true ∨ X.env.scope.names.lookup x = some .local) (h : chkE Γ e sc v = true) (hfr : freshB e = true)
    (hc : (noComp v || isComp e) = true) : DS X (.Assign [.Name x p] v pos) (fun env => (semE T e env >>= lstOf) >>= fun ds => .ok (.nx (env.set i (.own ds)))) := by
  cases hn : noComp v with
  | true => exact ds_new g.nd hi hx hf (sound_F g hs e v hfr h) (swaps_false hn)
  | false =>
    rw [hn, Bool.false_or] at hc
    cases e with
    | comp own elt tg itf its ifs =>
      obtain ⟨el, tg', iter, ifs', scope, cp, rfl, c⟩ := comp_parts g hs h
      obtain ⟨b, hb, hl⟩ := comp_sw (el := el) (tg' := tg') (iter := iter) (ifs' := ifs') (scope := scope) (p := cp) (q := p) (x := x) (l := pos.line) (env := X.env)
      cases b with
      | false => exact ds_new g.nd hi hx hf (sound_F g hs _ _ hfr h) hb
      | true => exact PS.imp (ps_setLc g.calm g.nd hi (hl rfl) hb c.hI c.ok c.hg c.ht c.he c.hs) fun D σ H q => c.tlc (new_run q)
    | _ => cases hc
theorem ds_never {s : Stmt} {c : String} : DS X s (fun _ => .ex c) := PS.imp ps_never fun D σ H ⟨B, env, H0, o, r, e, q⟩ => by cases e
theorem sub_assign {o i : Expr} {p : Pos} {env : PySem.Env} (h : noSlice i = true) : ∀ v, assign (.Subscript o i p) env v = (do
      let ov ← holding [v] (eval o env)
      let iv ← holding [v, ov] (eval i env)
      standAt p
      holding [v, ov, iv] (setItem ov iv v)
      release [v, ov, iv] []) := by
  intro v
  cases i <;> first | rfl | cases h
theorem sole_false {v tg : Expr} {l : Nat} {env : PySem.Env} (h : noComp v = true) : swapsWithSole [tg] v l env = pure false := by
  show swapsWith v (some tg) l env = pure false
  exact swaps_false h
theorem sole_tup {v tg : Expr} {l : Nat} {env : PySem.Env} (h : (match tg with | .Name .. => false | _ => true) = true) : swapsWithSole [tg] v l env = pure false := by
  show swapsWith v (some tg) l env = pure false
  exact swaps_tup h
theorem asg_one {tg : Expr} {env : PySem.Env} (h : noStar tg = true) : (assignEach [tg] env).map (·.2) = [assign tg env] := by
  rw [assign_star h]
  rfl
mutual
theorem sound_S (g : Good X T Γ k) (hs : X.env.scope = sc) (hfn : X.fn = fun _ => true) (hkf : sc.kind = .function) : ∀ (t : St) (s : Stmt), chkS Γ t sc s = true → DS X s (semS T t)
  | .nop, s, h => by
    unfold chkS at h
    split at h
    · exact ds_eq ds_pass fun env => by simp only [semS]
    · exact ds_eq ds_doc fun env => by simp only [semS]
    · cases h
  | .asg fr t e, s, h => by
    unfold chkS at h
    split at h
    · rename_i x p v pos
      simp only [Bool.and_eq_true] at h
      obtain ⟨⟨h1, h2⟩, h3⟩ := h
      cases t with
      | nm i =>
        obtain ⟨k1, k2, k3⟩ := nm_of g hs hfn h1
        exact ds_eq (ds_setC (fr := fr) g hs k1 k2 k3 h2 h3) fun env => by simp only [semS]
      | tup ts => cases h1
    · rename_i tes tk tp v pos
      simp only [Bool.and_eq_true] at h
      obtain ⟨⟨⟨h1, h2⟩, h3⟩, h4⟩ := h
      refine ds_eq (ds_asg (fr := fr) (sound e v g hs h2).1 (sound_G g.calm g.nd g.N hfn hs t _ h1) (sole_false h3) ?_ (asg_one rfl)) fun env => by simp only [semS]
      split at h4
      · rename_i vs vk vp
        have h4 := of_decide_eq_true h4
        rw [swap_eq hs hkf (.inr h4), h4]
      · rename_i hno
        refine sw_other ?_
        cases v <;> first | rfl | exact absurd rfl (hno _ _ _)
    · cases h
  | .par i j a b, s, h => by
    unfold chkS at h
    split at h
    · simp only [Bool.and_eq_true, Bool.not_eq_true', beq_eq_false_iff_ne, decide_eq_true_eq] at h
      obtain ⟨⟨⟨⟨⟨⟨⟨⟨h1, h2⟩, h3⟩, h4⟩, h5⟩, h6⟩, h7⟩, h8⟩, h9⟩ := h
      obtain ⟨k1, k2⟩ := lcl_of g hs h1
      obtain ⟨k3, k4⟩ := lcl_of g hs h2
      exact ds_eq (ds_par g.calm g.nd k1 k3 h3 k2 k4 (sound a _ g hs h6).1 (sound b _ g hs h7).1 (star_of h4) (star_of h5) (by rw [swap_eq hs hkf (.inl h9), h8])) fun env => by simp only [semS]
    · cases h
  | .par3 i j l a b c, s, h => by
    unfold chkS at h
    split at h
    · simp only [Bool.and_eq_true, Bool.not_eq_true', beq_eq_false_iff_ne, decide_eq_true_eq] at h
      obtain ⟨⟨⟨⟨⟨⟨⟨⟨⟨⟨⟨⟨⟨h1, h2⟩, h2'⟩, h3⟩, h3'⟩, h3''⟩, h4⟩, h5⟩, h5'⟩, h6⟩, h7⟩, h7'⟩, h8⟩, h9⟩ := h
      obtain ⟨k1, k2⟩ := lcl_of g hs h1
      obtain ⟨k3, k4⟩ := lcl_of g hs h2
      obtain ⟨k5, k6⟩ := lcl_of g hs h2'
      exact ds_eq (ds_par3 g.calm g.nd k1 k3 k5 h3 h3' h3'' k2 k4 k6 (sound a _ g hs h6).1 (sound b _ g hs h7).1 (sound c _ g hs h7').1 (star_of h4) (star_of h5) (star_of h5') (by rw [swap_eq hs hkf (.inl h9), h8])) fun env => by simp only [semS]
    · cases h
  | .aug i op e, s, h => by
    unfold chkS at h
    split at h
    · simp only [Bool.and_eq_true, decide_eq_true_eq] at h
      obtain ⟨⟨h1, rfl⟩, h3⟩ := h
      obtain ⟨k1, k2, k3⟩ := nm_of g hs hfn h1
      exact ds_eq (ds_aug op g.nd k1 k2 k3 (sound e _ g hs h3).1) fun env => by simp only [semS]
    · cases h
  | .new i e, s, h => by
    unfold chkS at h
    split at h
    · simp only [Bool.and_eq_true] at h
      obtain ⟨⟨⟨h1, h2⟩, h3⟩, h4⟩ := h
      obtain ⟨k1, k2, k3⟩ := nm_of g hs hfn h1
      exact ds_eq (ds_newC g hs k1 k2 k3 h3 h2 h4) fun env => by simp only [semS]
    · cases h
  | .app fr i e, s, h => by
    unfold chkS at h
    split at h
    · simp only [Bool.and_eq_true, decide_eq_true_eq] at h
      obtain ⟨⟨⟨⟨rfl, h2⟩, h3⟩, h4⟩, h5⟩ := h
      obtain ⟨k1, k2, k3, k4⟩ := var_of g hs h2
      exact ds_eq (ds_app (fr := fr) k1 k2 k3 k4 (sound e _ g hs h5).1 (star_of h3) h4) fun env => by simp only [semS]
    · cases h
  | .seti i kk e, s, h => by
    unfold chkS at h
    split at h
    · simp only [Bool.and_eq_true] at h
      obtain ⟨⟨⟨h1, h2⟩, h3⟩, h4⟩ := h
      obtain ⟨k1, k2, k3, k4⟩ := var_of g hs h1
      exact ds_eq (ds_seti k1 k2 k3 k4 (sound kk _ g hs h3).1 (sound e _ g hs h4).1 (sub_assign h2) (sole_tup rfl)) fun env => by simp only [semS]
    · cases h
  | .expr e, s, h => by
    unfold chkS at h
    split at h
    · simp only [Bool.and_eq_true] at h
      exact ds_eq (ds_expr (sound e _ g hs h.2).1 (swaps_false h.1)) fun env => by simp only [semS]
    · cases h
  | .ite fr c a b, s, h => by
    unfold chkS at h
    split at h
    · simp only [Bool.and_eq_true] at h
      exact ds_eq (ds_ite (fr := fr) (sound c _ g hs h.1.1).2 (sound_Ss g hs hfn hkf a _ h.1.2) (sound_Ss g hs hfn hkf b _ h.2)) fun env => by simp only [semS]
    · cases h
  | .forr fr t itf its body, s, h => by
    unfold chkS at h
    split at h
    · simp only [Bool.and_eq_true] at h
      obtain ⟨⟨⟨h1, h2⟩, h3⟩, h4⟩ := h
      refine ds_eq (ds_for (fr := fr) (by rw [g.xe]; exact PassesOwn.never) g.calm (iter_sound g hs h3) (sound_G g.calm g.nd g.N hfn hs t _ h1) (sound_Ss g hs hfn hkf body _ h4) (fold_of h2)) fun env => ?_
      simp only [semS]
      rw [R_assoc]
    · cases h
  | .whil fr c body, s, h => by
    unfold chkS at h
    split at h
    · simp only [Bool.and_eq_true] at h
      exact ds_eq (ds_whil (fr := fr) (by rw [g.xe]; exact PassesOwn.never) (sound c _ g hs h.1).2 (sound_Ss g hs hfn hkf body _ h.2)) fun env => by simp only [semS]
    · cases h
  | .ret fr e, s, h => by
    unfold chkS at h
    split at h
    · exact ds_eq (ds_ret (fr := fr) (sound e _ g hs h).1) fun env => by simp only [semS]
    · cases h
  | .retN, s, h => by
    unfold chkS at h
    split at h
    · exact ds_eq ds_retN fun env => by simp only [semS]
    · cases h
  | .brk, s, h => by
    unfold chkS at h
    split at h
    · exact ds_eq ds_brk fun env => by simp only [semS]
    · cases h
  | .cont, s, h => by
    unfold chkS at h
    split at h
    · exact ds_eq ds_cont fun env => by simp only [semS]
    · cases h
  | .rais c, s, h => ds_eq (ds_never (c := c)) fun env => by simp only [semS]
  | .mk _ _ _, _, h => by simp [chkS] at h
  | .mcal _ _ _ _, _, h => by simp [chkS] at h
  | .setf _ _ _, _, h => by simp [chkS] at h
  | .setft _ _ _, _, h => by simp [chkS] at h
  | .setfn _ _ _, _, h => by simp [chkS] at h
  | .augf _ _ _ _, _, h => by simp [chkS] at h
  | .fapp _ _ _, _, h => by simp [chkS] at h
  | .fseti _ _ _ _, _, h => by simp [chkS] at h
theorem sound_Ss (g : Good X T Γ k) (hs : X.env.scope = sc) (hfn : X.fn = fun _ => true) (hkf : sc.kind = .function) : ∀ (ts : List St) (ss : List Stmt), chkSs Γ ts sc ss = true → DSs X ss (semSs T ts)
  | [], ss, h => by
    unfold chkSs at h
    split at h
    · exact dss_eq dss_nil fun env => by simp only [semSs]
    · cases h
  | t :: ts, ss, h => by
    unfold chkSs at h
    split at h
    · simp only [Bool.and_eq_true] at h
      exact dss_eq (dss_cons (sound_S g hs hfn hkf t _ h.1) (sound_Ss g hs hfn hkf ts _ h.2)) fun env => by simp only [semSs]
    · cases h
end
end
end Y

/-! Y14: a def by the checker; the law's end. -/
namespace Y
open PySem L2 PyProof.Rows

def mkT (fns : List (String × (List D → R D))) (gls : List (String × D)) : Tab where
  fn := fun f => (fns.lookup f).getD fun _ => .no
  glb := fun x => match gls.lookup x with
    | some d => .ok d
    | none => .no
  mt := fun _ _ _ _ => .no
theorem lookup_mem {α : Type} {l : List (String × α)} {f : String} (h : f ∈ l.map (·.1)) : ∃ g, l.lookup f = some g ∧ (f, g) ∈ l := by
  induction l with
  | nil => cases h
  | cons p l ih =>
    obtain ⟨a, g⟩ := p
    rw [List.lookup_cons]
    by_cases e : f = a
    · subst e
      simp
    · have e1 : (f == a) = false := by simpa using e
      rw [List.map_cons] at h
      rcases List.mem_cons.mp h with h | h
      · exact absurd h e
      · obtain ⟨g', h1, h2⟩ := ih h
        rw [e1]
        exact ⟨g', h1, List.mem_cons_of_mem _ h2⟩
/-- a def of the program's text -/
structure DefAt (K : PySem.W.Frag) (mg : Str → Option Value) (x : Str) (st : Stmt) (f : Addr) (fd : FuncData) : Prop where
  at_ : mg x = some (.ref f)
  fn : Fun K x x st f fd
def GlbAt (K : PySem.W.Frag) (mg : Str → Option Value) (p : String × D) : Prop := ∃ u v, mg (Str.ofString p.1) = some u ∧ RelV v u ∧ Dp K (fun _ => none) v p.2
theorem fn_chk {P : Program} {w : World} {K : PySem.W.Frag} {mg : Str → Option Value} {base : Heap} {x : Str} {st : Stmt} {f : Addr} {fd : FuncData} {N ps : List Str} {k : Nat} {p : Fn} {l : List (String × (List D → R D))} {gls : List (String × D)} {blt : List String} {gcd : Bool}
    (A : DefAt K mg x st f fd) (S : FnScope N ps (defScope st)) (hp : (decide (p.ps = ps.length) && decide (N.length = p.sl) && decide (p.ps ≤ p.sl)) = true)
    (fn : ∀ q ∈ l, Callee P w K mg base k (Str.ofString q.1) q.2) (gl : ∀ q ∈ gls, GlbAt K mg q)
    (hblt : ∀ x ∈ blt, mg (Str.ofString x) = none) (hgcd : gcd = true → mg "gcd" = some (.builtin "math.gcd")) (hc : chkSs ⟨N, l.map (·.1), gls.map (·.1), blt, gcd⟩ p.body (defScope st) (defBody st) = true) :
    FnOk P w K mg base CX0 (k + 1) f fd ps (spF K (runF (mkT l gls) p)) := by
  simp only [Bool.and_eq_true, decide_eq_true_eq] at hp
  refine fn_ok A.fn S hp.1.1 hp.1.2 hp.2 fun X e1 e2 e3 e4 e5 e6 e7 e8 e9 e10 e11 => ?_
  subst e1 e2 e3 e4 e5
  refine sound_Ss (Γ := ⟨N, l.map (·.1), gls.map (·.1), blt, gcd⟩) ⟨e7, by rw [e6]; exact S.nd, e6, e11, e10, fun f hf => ?_, fun x hx => ?_, hblt, hgcd⟩ e8 e9 S.kind p.body _ hc
  · obtain ⟨g, h1, h2⟩ := lookup_mem hf
    have : (mkT l gls).fn f = g := by
      show (l.lookup f).getD _ = g
      rw [h1]
      rfl
    rw [this]
    exact fn _ h2
  · obtain ⟨d, h1, h2⟩ := lookup_mem hx
    obtain ⟨u, v, q1, q2, q3⟩ := gl _ h2
    refine ⟨u, v, d, q1, q2, ?_, q3⟩
    show (match gls.lookup x with | some d => R.ok d | none => .no) = _
    rw [h1]
theorem callee_chk {P : Program} {w : World} {K : PySem.W.Frag} {mg : Str → Option Value} {base : Heap} {x : Str} {st : Stmt} {f : Addr} {fd : FuncData} {N ps : List Str} {k : Nat} {p : Fn} {l : List (String × (List D → R D))} {gls : List (String × D)} {blt : List String} {gcd : Bool}
    (A : DefAt K mg x st f fd) (hb : Binds K fd ps []) (S : FnScope N ps (defScope st)) (hp : (decide (p.ps = ps.length) && decide (N.length = p.sl) && decide (p.ps ≤ p.sl)) = true)
    (fn : ∀ q ∈ l, Callee P w K mg base k (Str.ofString q.1) q.2) (gl : ∀ q ∈ gls, GlbAt K mg q)
    (hblt : ∀ x ∈ blt, mg (Str.ofString x) = none) (hgcd : gcd = true → mg "gcd" = some (.builtin "math.gcd")) (hc : chkSs ⟨N, l.map (·.1), gls.map (·.1), blt, gcd⟩ p.body (defScope st) (defBody st) = true) :
    Callee P w K mg base (k + 1) x (runF (mkT l gls) p) := ⟨f, fd, ps, A.at_, A.fn.kp, hb, fn_chk A S hp fn gl hblt hgcd hc⟩
theorem Callee.to {P : Program} {w : World} {K : PySem.W.Frag} {mg : Str → Option Value} {base : Heap} {k j : Nat} {x : Str} {F G : List D → R D} (h : Callee P w K mg base j x F) (hj : j ≤ k) (e : F = G) : Callee P w K mg base k x G := e ▸ h.mono hj

theorem callee_no {P : Program} {w : World} {K : PySem.W.Frag} {mg : Str → Option Value} {base : Heap} {k : Nat} {x : Str} {st : Stmt} {f : Addr} {fd : FuncData} {ps : List Str} (A : DefAt K mg x st f fd) (hb : Binds K fd ps []) : Callee P w K mg base k x (fun _ => .no) :=
  ⟨f, fd, ps, A.at_, A.fn.kp, hb, ⟨(fun vs H Q E ⟨_, _, _, _, _, e, _⟩ => (by cases e)), (fun A outer s H args us vs Q E hr he hb hv ⟨_, _, _, _, _, e, _⟩ => (by cases e))⟩⟩
theorem cs_nil {P : Program} {w : World} {K : PySem.W.Frag} {mg : Str → Option Value} {base : Heap} {k : Nat} : ∀ q ∈ ([] : List (String × (List D → R D))), Callee P w K mg base k (Str.ofString q.1) q.2 := fun _ h => absurd h List.not_mem_nil
theorem cs_cons {P : Program} {w : World} {K : PySem.W.Frag} {mg : Str → Option Value} {base : Heap} {k j : Nat} {a : String} {F : List D → R D} {l : List (String × (List D → R D))} (h : Callee P w K mg base j (Str.ofString a) F) (hj : j ≤ k)
    (t : ∀ q ∈ l, Callee P w K mg base k (Str.ofString q.1) q.2) : ∀ q ∈ (a, F) :: l, Callee P w K mg base k (Str.ofString q.1) q.2 := List.forall_mem_cons.mpr ⟨h.mono hj, t⟩
theorem defat_mk {x : Str} {st : Stmt} (K : PySem.W.Frag) {h : Heap} {mg : Str → Option Value} (X : K.In h) (G : h.Ns mainGlobals mg) {f : Addr} {od an : Option Addr} {sl : Array (Option Value)} {oc kV dc pm cd ct : Value}
    (a : PySem.W.nsIn K mainGlobals x = some (some (.ref f))) (l : K.lookup f = some ⟨oc, od, .func (PySem.W.fnOf x x (defArgs st) (defBody st) (defScope st) .none kV dc pm an cd ct), sl⟩) (c : PySem.W.codeIn K cd x = true) (k : PySem.W.keepIn K (.ref f) = true) :
    ∃ f fd, DefAt K mg x st f fd := ⟨f, _, PySem.W.mg_of X G a, fun_mk l c k⟩
theorem defat_k {x : Str} {st : Stmt} {K : PySem.W.Frag} {h : Heap} {mg : Str → Option Value} {Goal : Prop} (X : K.In h) (G : h.Ns mainGlobals mg) {f : Addr} {od an : Option Addr} {sl : Array (Option Value)} {oc kV dc pm cd ct : Value}
    (a : PySem.W.nsIn K mainGlobals x = some (some (.ref f))) (l : K.lookup f = some ⟨oc, od, .func (PySem.W.fnOf x x (defArgs st) (defBody st) (defScope st) .none kV dc pm an cd ct), sl⟩) (c : PySem.W.codeIn K cd x = true) (k : PySem.W.keepIn K (.ref f) = true)
    (z : ∀ f fd, DefAt K mg x st f fd → Goal) : Goal := z f _ ⟨PySem.W.mg_of X G a, fun_mk l c k⟩
theorem glb_int {K : PySem.W.Frag} {h : Heap} {mg : Str → Option Value} (X : K.In h) (G : h.Ns mainGlobals mg) {x : String} {i : Int} {t : Nat} (a : PySem.W.nsIn K mainGlobals (Str.ofString x) = some (some (.int i t))) : GlbAt K mg (x, .int i) :=
  ⟨_, .int i, PySem.W.mg_of X G a, ⟨_, rfl⟩, .int i⟩
theorem glb_str {K : PySem.W.Frag} {h : Heap} {mg : Str → Option Value} (X : K.In h) (G : h.Ns mainGlobals mg) {x : String} {i : Str} {t : Nat} (a : PySem.W.nsIn K mainGlobals (Str.ofString x) = some (some (.str i t))) : GlbAt K mg (x, .str i) :=
  ⟨_, .str i, PySem.W.mg_of X G a, ⟨_, rfl⟩, .str i⟩
theorem law_binds {K : PySem.W.Frag} {x : Str} {st : Stmt} {f : Addr} {fd : FuncData} (F : Fun K x x st f fd)
    (h : ∀ (kV doc pm : Value) (an : Option Addr) (cdv ct u : Value), bindArgs (PySem.W.fnOf x x (defArgs st) (defBody st) (defScope st) .none kV doc pm an cdv ct) ⟨[u], []⟩ = pure [(("script" : Str), u)]) : ∀ (s : Shared) (u : Value), BindsTo s fd ⟨[u], []⟩ [("script", u)] := by
  obtain ⟨oc, od, kV, doc, pm, an, cdv, ct, osl, rfl, lk, hcd⟩ := F.ex
  exact fun s u => .of_eq (h kV doc pm an cdv ct u)

/-! ### the law -/
def spLaw (K : PySem.W.Frag) : Sp := fun vs H Q _ => ∃ (a : Addr) (ns : List Int), vs = [.ref a] ∧ SqL K H a (ns.map V.int) ∧ ns.length ≤ 63 ∧ (∀ z ∈ ns, Builtin.Int.intBits z ≤ 1048576) ∧ ∀ H', Q (.bl true) H'
def LawHolds (F : List D → R D) : Prop := ∀ ns : List Int, ns.length ≤ 63 → (∀ z ∈ ns, Builtin.Int.intBits z ≤ 1048576) → F [.list (ns.map .int)] = .ok (.bool true)
theorem law_sp {P : Program} {w : World} {K : PySem.W.Frag} {mg : Str → Option Value} {base : Heap} {k : Nat} {f : Addr} {fd : FuncData} {F : List D → R D} (h : FnOk P w K mg base CX0 k f fd ["script"] (spF K F)) (hF : LawHolds F) :
    FnOk P w K mg base CX0 k f fd ["script"] (spLaw K) := by
  refine h.imp fun vs H Q E q => ?_
  obtain ⟨a, ns, rfl, hS, hl, hb, q⟩ := q
  refine ⟨H, [.list (ns.map .int)], .bool true, .refl H, .cons (.lst hS (dps_ints ns)) .nil, hF ns hl hb, fun v H0' H' g hv => ?_⟩
  rw [dp_bool hv]
  exact q H'
theorem walk {l : PySem.W.OpenLaw} {q : Program} {loose : List Str} {XP : (Str → Option Value) → Heap → Prop} {YP : World → Heap → Prop} {d : DefRec} {K : Params → PySem.W.Frag} {k : Nat} (hn : l.most = some 63) (hdf : d.params.defaults = []) (hk : k ≤ 200)
    (hY : ∀ (w : World) (h : Heap), YP w h → (K w.params).In h)
    (F : ∀ (w : World) (mg : Str → Option Value) (fa : Addr) (h : Heap), (K w.params).In h → h.Ns mainGlobals mg → mg d.name = some (.ref fa) →
      ∃ fd : FuncData, (∀ (s : Shared) (u : Value), BindsTo s fd ⟨[u], []⟩ [("script", u)]) ∧ ∀ base : Heap, (K w.params).In base → base.Ns mainGlobals mg → FnOk l.prog w (K w.params) mg base CX0 k fa fd ["script"] (spLaw (K w.params))) :
    PySem.W.WalkO q loose XP YP l.row.toRowW d [] (fun f vs => PySem.call f vs) :=
  L2.walk_ofB (n := 63) (k := k) (x := "script") (CX := fun _ => CX0) (sp := fun w => spLaw (K w.params)) hn (by decide) hdf
    (Room.mono (k := 200) ⟨rfl, by decide, by decide⟩ hk) hY F (fun _ _ a ns hl hb _ hS => ⟨a, ns, rfl, hS, hl, hb, fun _ => rfl⟩) fun _ _ _ _ _ z => z
end Y

/-! Y15: for the plain mathematics: loops step by step, sizes of numbers. -/
namespace Y
section
variable {c : Env → R Bool} {b : Env → R Out} {env e e' : Env} {t : Tg} {d x : D} {ds : List D}
theorem whD_t (hc : c env = .ok true) (hb : b env = .ok (.nx e)) : whD c b env = whD c b e := by rw [whD_step, hc]; simp only [hb]
theorem whD_f (hc : c env = .ok false) : whD c b env = .ok (.nx env) := by rw [whD_step, hc]
theorem whD_rt (hc : c env = .ok true) (hb : b env = .ok (.rt d e)) : whD c b env = .ok (.rt d e) := by rw [whD_step, hc]; simp only [hb]
theorem forD_nil : forD t b [] env = .ok (.nx env) := rfl
theorem forD_nx (h : bindT t d env = .ok e) (hb : b e = .ok (.nx e')) : forD t b (d :: ds) env = forD t b ds e' := by
  rw [forD, h]; simp only [R.bind, hb]
theorem forD_rt (h : bindT t d env = .ok e) (hb : b e = .ok (.rt x e')) : forD t b (d :: ds) env = .ok (.rt x e') := by
  rw [forD, h]; simp only [R.bind, hb]
/-- a loop with an invariant over what has been walked -/
theorem forD_inv {α : Type} {g : α → D} (I : List α → Env → Prop) {l : List α} : ∀ {ds : List α} {pre : List α} {env : Env}, I pre env → pre ++ ds = l → (∀ pre x post env, pre ++ x :: post = l → I pre env → ∃ e e', bindT t (g x) env = .ok e ∧ b e = .ok (.nx e') ∧ I (pre ++ [x]) e') →
    ∃ e', forD t b (ds.map g) env = .ok (.nx e') ∧ I l e'
  | [], pre, env, h, hl, _ => ⟨env, rfl, by rw [List.append_nil] at hl; rw [← hl]; exact h⟩
  | x :: ds, pre, env, h, hl, st => by
    obtain ⟨e, e', h1, h2, h3⟩ := st pre x ds env hl h
    obtain ⟨e'', h4, h5⟩ := forD_inv I (ds := ds) (pre := pre ++ [x]) h3 (by rw [List.append_assoc]; exact hl) st
    exact ⟨e'', by rw [List.map_cons, forD_nx h1 h2]; exact h4, h5⟩
end
theorem rbind_ok {α β : Type} (a : α) (f : α → R β) : (R.ok a).bind f = f a := Eq.trans (Eq.refl _) (Eq.refl _)
theorem bindT_nm (i : Nat) (d : D) (env : Env) : bindT (.nm i) d env = .ok (env.set i (.val d)) := by rw [bindT]
theorem bindT_tup (ts : List Tg) (ds : List D) (env : Env) : bindT (.tup ts) (.tuple ds) env = bindTs ts ds env := by rw [bindT]
theorem bindTs_nil (env : Env) : bindTs [] [] env = .ok env := by rw [bindTs]
theorem bindTs_cons (t : Tg) (ts : List Tg) (d : D) (ds : List D) (env : Env) : bindTs (t :: ts) (d :: ds) env = (bindT t d env).bind fun env' => bindTs ts ds env' := by rw [bindTs]
/-- the number of bits -/
abbrev bt (z : Int) : Nat := PySem.Builtin.Int.intBits z
theorem mulOk {a b : Int} {m n : Nat} (ha : bt a ≤ m) (hb : bt b ≤ n) (h : m + n ≤ 100000000) : PySem.IntMulOk a b := by
  unfold PySem.IntMulOk PySem.Builtin.Int.intTooBig
  have : ¬ ((PySem.Builtin.Int.intBits a + PySem.Builtin.Int.intBits b : Int) > (PySem.bitsLine : Int)) := by
    have e : (PySem.bitsLine : Int) = 134217728 := by decide
    rw [e]
    unfold bt at ha hb
    omega
  simp [decide_eq_false this]
open PySem in
theorem bt_le {z : Int} {m : Nat} (h : z.natAbs < 2 ^ m) : bt z ≤ m := intBits_le_iff.mpr h
open PySem in
theorem lt_bt {z : Int} {m : Nat} (h : bt z ≤ m) : z.natAbs < 2 ^ m := intBits_le_iff.mp h
open PySem in
theorem bt_mul {x y : Int} {m n : Nat} (hx : bt x ≤ m) (hy : bt y ≤ n) : bt (x * y) ≤ m + n := intBits_mul_le hx hy
open PySem in
theorem bt_add {x y : Int} {m n : Nat} (hx : bt x ≤ m) (hy : bt y ≤ n) : bt (x + y) ≤ max m n + 1 := intBits_add_le hx hy
open PySem in
theorem bt_abs {x y : Int} {m : Nat} (h : x.natAbs ≤ y.natAbs) (hy : bt y ≤ m) : bt x ≤ m := intBits_le_of_natAbs h hy
theorem bt_mono {z : Int} {m n : Nat} (h : bt z ≤ m) (k : m ≤ n) : bt z ≤ n := Nat.le_trans h k
theorem noPy {i j : Int} (h : bt j ≤ 8000) : PySem.Builtin.divisionGoesByPylong i j = false := by
  unfold PySem.Builtin.divisionGoesByPylong
  simp only [Bool.and_eq_false_iff, decide_eq_false_iff_not]
  left
  unfold bt PySem.Builtin.Int.intBits at h
  split
  · omega
  · rename_i hj
    have hj' : (j == 0) = false := by simpa using hj
    rw [hj'] at h
    simp at h
    omega
end Y

set_option autoImplicit true
/-! Y16: the meaning, equation by equation (as rewriting rules that the kernel needn't unfold). -/
namespace Y
section
variable (T : Tab)
theorem runF_rt {p : Fn} {ds : List D} {env e : Env} {d : D} (h1 : ds.length = p.ps) (h2 : ds.map SV.val ++ List.replicate (p.sl - p.ps) .un = env) (h3 : semSs T p.body env = .ok (.rt d e)) : runF T p ds = .ok d := by
  unfold runF
  rw [if_pos h1, h2, h3]
theorem semE_0  (env : Env) : semE T (.var i) env = (getV env i) := by rw [semE]; try rfl
theorem semE_1  (env : Env) : semE T (.cst d) env = (.ok d) := by rw [semE]; try rfl
theorem semE_2  (env : Env) : semE T (.glb x) env = (T.glb x) := by rw [semE]; try rfl
theorem semE_3  (env : Env) : semE T (.bin op a b) env = (semE T a env >>= fun x => semE T b env >>= fun y => binD op x y) := by rw [semE]; try rfl
theorem semE_4  (env : Env) : semE T (.neg a) env = (semE T a env >>= negD) := by rw [semE]; try rfl
theorem semE_5  (env : Env) : semE T (.cmp op a b) env = (semE T a env >>= fun x => semE T b env >>= fun y => cmpB op x y >>= boolR) := by rw [semE]; try rfl
theorem semE_6  (env : Env) : semE T (.cmp2 o1 o2 a b c) env = (semE T a env >>= fun x => semE T b env >>= fun y => cmpB o1 x y >>= fun k =>
      if k = true then semE T c env >>= fun z => cmpB o2 y z >>= boolR else .ok (.bool false)) := by rw [semE]; try rfl
theorem semE_7  (env : Env) : semE T (.and a b) env = (semE T a env >>= fun x => truthD x >>= fun k => if k = true then semE T b env else .ok x) := by rw [semE]; try rfl
theorem semE_8  (env : Env) : semE T (.or a b) env = (semE T a env >>= fun x => truthD x >>= fun k => if k = true then .ok x else semE T b env) := by rw [semE]; try rfl
theorem semE_9  (env : Env) : semE T (.not a) env = (semE T a env >>= fun x => truthD x >>= fun k => .ok (.bool (!k))) := by rw [semE]; try rfl
theorem semE_10  (env : Env) : semE T (.ite c a b) env = (semE T c env >>= fun x => truthD x >>= fun k => if k = true then semE T a env else semE T b env) := by rw [semE]; try rfl
theorem semE_11  (env : Env) : semE T (.tup es) env = (semEs T es env >>= fun ds => if ds.length ≤ PySem.sizeLine then .ok (.tuple ds) else .no) := by rw [semE]; try rfl
theorem semE_12  (env : Env) : semE T (.lst es) env = (semEs T es env >>= fun ds => if ds.length ≤ PySem.sizeLine then .ok (.list ds) else .no) := by rw [semE]; try rfl
theorem semE_13  (env : Env) : semE T (.rep es k) env = (semEs T es env >>= fun ds => if ds.length ≤ PySem.sizeLine then semE T k env >>= fun y => repD (.list ds) y else .no) := by rw [semE]; try rfl
theorem semE_14  (env : Env) : semE T (.ix a b) env = (semE T a env >>= fun x => semE T b env >>= fun y => ixD x y) := by rw [semE]; try rfl
theorem semE_15  (env : Env) : semE T (.sl a lo hi) env = (semE T a env >>= fun x => (if isNo lo = true then .ok Option.none else semE T lo env >>= intO) >>= fun l => (if isNo hi = true then .ok Option.none else semE T hi env >>= intO) >>= fun h => slD x l h) := by rw [semE]; try rfl
theorem semE_16  (env : Env) : semE T (.call f es) env = (semEs T es env >>= fun ds => T.fn f ds) := by rw [semE]; try rfl
theorem semE_17  (env : Env) : semE T (.bi f es) env = (semEs T es env >>= fun ds => biD f ds) := by rw [semE]; try rfl
theorem semE_18  (env : Env) : semE T (.mth m o es) env = (semE T o env >>= fun x => semEs T es env >>= fun ds => mthD m x ds) := by rw [semE]; try rfl
theorem semE_19  (env : Env) : semE T (.isi e t) env = (semE T e env >>= fun x => .ok (.bool (isTy x t))) := by rw [semE]; try rfl
theorem semE_20  (env : Env) : semE T (.comp own elt tg itf its ifs) env = (semEs T its env >>= fun as => itBi itf as >>= fun ds => if ds.length ≤ PySem.sizeLine then
      (compD (fun d => (bindT tg d (wipeE env own)).bind fun env' => (semTs T ifs env').bind fun k => if k = true then (semE T elt env').bind fun x => .ok (some x) else .ok none) ds) >>= fun r => .ok (.list r) else .no) := by rw [semE]; try rfl
theorem semE_21  (env : Env) : semE T (.oix i b) env = (peek env i >>= fun x => semE T b env >>= fun y => ixD x y) := by rw [semE]; try rfl
theorem semE_22  (env : Env) : semE T (.olen i) env = (peek env i >>= lenD) := by rw [semE]; try rfl
theorem semE_23  (env : Env) : semE T (.fld i f) env = (match env.getD i .un with
    | .obj _ fs => match fs.lookup f with
      | some (.val d) => .ok d
      | _ => .no
    | _ => .no) := by rw [semE]; try rfl
theorem semE_24  (env : Env) : semE T (.fix i f b) env = (match env.getD i .un with
    | .obj _ fs => match fs.lookup f with
      | some (.val d) => semE T b env >>= fun y => ixD d y
      | some (.own ds) => semE T b env >>= fun y => ixD (.list ds) y
      | _ => .no
    | _ => .no) := by rw [semE]; try rfl
theorem semE_25  (env : Env) : semE T (.flen i f) env = (match env.getD i .un with
    | .obj _ fs => match fs.lookup f with
      | some (.val d) => lenD d
      | some (.own ds) => lenD (.list ds)
      | _ => .no
    | _ => .no) := by rw [semE]; try rfl
theorem semE_26  (env : Env) : semE T (.mget i m es) env = (match env.getD i .un with
    | .obj C fs => semEs T es env >>= fun ds => T.mt C m fs ds >>= fun r => .ok r.1
    | _ => .no) := by rw [semE]; try rfl
theorem semEs_0  (env : Env) : semEs T ([]) env = (.ok []) := by rw [semEs]; try rfl
theorem semEs_1  (env : Env) : semEs T (e :: es) env = (semE T e env >>= fun d => semEs T es env >>= fun ds => .ok (d :: ds)) := by rw [semEs]; try rfl
theorem semTs_0  (env : Env) : semTs T ([]) env = (.ok true) := by rw [semTs]; try rfl
theorem semTs_1  (env : Env) : semTs T (e :: w) env = ((semE T e env).bind truthD) := by rw [semTs]; try rfl
theorem semS_0  (env : Env) : semS T (.nop) env = (.ok (.nx env)) := by rw [semS]; try rfl
theorem semS_1  (env : Env) : semS T (.asg fr t e) env = (semE T e (freeze fr env) >>= fun d => bindT t d (keep fr d env) >>= fun env' => .ok (.nx env')) := by rw [semS]; try rfl
theorem semS_2  (env : Env) : semS T (.par i j a b) env = (semE T a env >>= fun x => semE T b env >>= fun y => .ok (.nx ((env.set i (.val x)).set j (.val y)))) := by rw [semS]; try rfl
theorem semS_3  (env : Env) : semS T (.par3 i j l a b c) env = (semE T a env >>= fun x => semE T b env >>= fun y => semE T c env >>= fun z => .ok (.nx (((env.set i (.val x)).set j (.val y)).set l (.val z)))) := by rw [semS]; try rfl
theorem semS_4  (env : Env) : semS T (.aug i op e) env = (getV env i >>= fun x => semE T e env >>= fun y => augD op x y >>= fun z => .ok (.nx (env.set i (.val z)))) := by rw [semS]; try rfl
theorem semS_5  (env : Env) : semS T (.new i e) env = (semE T e env >>= lstOf >>= fun ds => .ok (.nx (env.set i (.own ds)))) := by rw [semS]; try rfl
theorem semS_6  (env : Env) : semS T (.app fr i e) env = (semE T e (freeze fr env) >>= fun d => ownAt (keep fr d env) i fun ds => if ds.length < PySem.sizeLine then .ok (.nx ((keep fr d env).set i (.own (ds ++ [d])))) else .no) := by rw [semS]; try rfl
theorem semS_7  (env : Env) : semS T (.seti i k e) env = (semE T e env >>= fun d => semE T k env >>= fun j => ownAt env i fun ds => setD ds j d >>= fun es => .ok (.nx (env.set i (.own es)))) := by rw [semS]; try rfl
theorem semS_8  (env : Env) : semS T (.expr e) env = (semE T e env >>= fun _ => .ok (.nx env)) := by rw [semS]; try rfl
theorem semS_9  (env : Env) : semS T (.ite fr c a b) env = (semE T c (freeze fr env) >>= fun x => truthD x >>= fun k => if k = true then semSs T a env else semSs T b env) := by rw [semS]; try rfl
theorem semS_10  (env : Env) : semS T (.forr fr t itf its body) env = (semEs T its (freeze fr env) >>= fun as => itBi itf as >>= fun ds => forD t (semSs T body) ds (freeze fr env)) := by rw [semS]; try rfl
theorem semS_11  (env : Env) : semS T (.whil fr c body) env = (whD (fun env => semE T c (freeze fr env) >>= truthD) (semSs T body) env) := by rw [semS]; try rfl
theorem semS_12  (env : Env) : semS T (.ret fr e) env = (semE T e (freeze fr env) >>= fun d => .ok (.rt d (freeze fr env))) := by rw [semS]; try rfl
theorem semS_13  (env : Env) : semS T (.retN) env = (.ok (.rt .none env)) := by rw [semS]; try rfl
theorem semS_14  (env : Env) : semS T (.brk) env = (.ok (.bk env)) := by rw [semS]; try rfl
theorem semS_15  (env : Env) : semS T (.cont) env = (.ok (.ct env)) := by rw [semS]; try rfl
theorem semS_16  (env : Env) : semS T (.rais c) env = (.ex c) := by rw [semS]; try rfl
theorem semS_17  (env : Env) : semS T (.mk i C es) env = (semEs T es env >>= fun ds => T.mt C "__init__" [] ds >>= fun r => match r.1 with
    | .none => .ok (.nx (env.set i (.obj C r.2)))
    | _ => .no) := by rw [semS]; try rfl
theorem semS_18  (env : Env) : semS T (.mcal t i m es) env = (objAt env i fun C fs => semEs T es env >>= fun ds => T.mt C m fs ds >>= fun r => match t with
    | none => .ok (.nx (env.set i (.obj C r.2)))
    | some j => .ok (.nx ((env.set i (.obj C r.2)).set j (.val r.1)))) := by rw [semS]; try rfl
theorem semS_19  (env : Env) : semS T (.setf i f e) env = (semE T e env >>= fun d => objAt env i fun C fs => .ok (.nx (env.set i (.obj C (putFV f (.val d) fs))))) := by rw [semS]; try rfl
theorem semS_20  (env : Env) : semS T (.setft i gs e) env = (semE T e env >>= fun d => objAt env i fun C fs => match d with
    | .tuple ds => putFVs gs ds fs >>= fun fs' => .ok (.nx (env.set i (.obj C fs')))
    | _ => .no) := by rw [semS]; try rfl
theorem semS_21  (env : Env) : semS T (.setfn i f e) env = (semE T e env >>= lstOf >>= fun ds => objAt env i fun C fs => .ok (.nx (env.set i (.obj C (putFV f (.own ds) fs))))) := by rw [semS]; try rfl
theorem semS_22  (env : Env) : semS T (.augf i f op e) env = (objAt env i fun C fs => match fs.lookup f with
    | some (.val x) => semE T e env >>= fun y => augD op x y >>= fun z => .ok (.nx (env.set i (.obj C (putFV f (.val z) fs))))
    | _ => .no) := by rw [semS]; try rfl
theorem semS_23  (env : Env) : semS T (.fapp i f e) env = (semE T e env >>= fun d => objAt env i fun C fs => match fs.lookup f with
    | some (.own ds) => if ds.length < PySem.sizeLine then .ok (.nx (env.set i (.obj C (putFV f (.own (ds ++ [d])) fs)))) else .no
    | _ => .no) := by rw [semS]; try rfl
theorem semS_24  (env : Env) : semS T (.fseti i f k e) env = (semE T e env >>= fun d => semE T k env >>= fun j => objAt env i fun C fs => match fs.lookup f with
    | some (.own ds) => setD ds j d >>= fun es => .ok (.nx (env.set i (.obj C (putFV f (.own es) fs))))
    | _ => .no) := by rw [semS]; try rfl
theorem semSs_0  (env : Env) : semSs T ([]) env = (.ok (.nx env)) := by rw [semSs]; try rfl
theorem semSs_1  (env : Env) : semSs T (s :: r) env = (seqO (semS T s env) (semSs T r)) := by rw [semSs]; try rfl
end
end Y

namespace G
open PySem L2 Y
/-! ### the program read -/
def top (i : Nat) : Stmt := PySem.Challenge.pw_fewestfigures_k86_least_pairs_of_great_n.main.body.getD i (.Pass ⟨0, 0, 0, 0⟩)
def BLT : List String := ["all", "bool", "int", "isinstance", "len", "list", "range", "sorted", "str", "tuple"]
def GLS : List (String × D) := [("MOST_SHIFT", .int 256)]
abbrev st_raised : Stmt := top 1
def c_raised_0 : Ex := .cmp .gt (.var 1) (.cst (.int 0))
def b_raised_0 : List Y.St := [.ite [] (.cmp .eq (.bin .mod (.var 1) (.cst (.int 2))) (.cst (.int 1))) [.asg [] (.nm 2) (.bin .mul (.var 2) (.var 0))] [], .asg [] (.nm 0) (.bin .mul (.var 0) (.var 0)), .asg [] (.nm 1) (.bin .fdiv (.var 1) (.cst (.int 2)))]
def p_raised : Fn := ⟨2, 3, [.asg [] (.nm 2) (.cst (.int 1)), .whil [] c_raised_0 b_raised_0, .ret [] (.var 2)]⟩
noncomputable def t_raised : Tab := mkT [] GLS
noncomputable def s_raised : List D → R D := runF t_raised p_raised
abbrev st_divides_at : Stmt := top 4
def p_divides_at : Fn := ⟨4, 4, [.ret [] (.cmp .eq (.bin .fdiv (.var 3) (.var 0)) (.bin .fdiv (.bin .mul (.var 3) (.var 1)) (.call "raised" [.cst (.int 2), .var 2])))]⟩
noncomputable def t_divides_at : Tab := mkT [("raised", s_raised)] GLS
noncomputable def s_divides_at : List D → R D := runF t_divides_at p_divides_at
abbrev st_probes_for : Stmt := top 5
def p_probes_for : Fn := ⟨2, 3, [.asg [] (.nm 2) (.ite (.cmp .ge (.var 1) (.bin .sub (.var 0) (.cst (.int 1)))) (.bin .sub (.var 1) (.bin .mod (.bin .add (.var 1) (.cst (.int 1))) (.var 0))) (.var 1)), .ret [] (.ite (.cmp .le (.var 0) (.var 1)) (.bi "sorted{}" [.var 0, .var 2]) (.lst [.var 2]))]⟩
noncomputable def t_probes_for : Tab := mkT [] GLS
noncomputable def s_probes_for : List D → R D := runF t_probes_for p_probes_for
abbrev st_divides : Stmt := top 6
def p_divides : Fn := ⟨4, 5, [.ret [] (.bi "all" [.comp [4] (.call "divides_at" [.var 0, .var 2, .var 3, .var 4]) (.nm 4) "" [.call "probes_for" [.var 0, .var 1]] []])]⟩
noncomputable def t_divides : Tab := mkT [("divides_at", s_divides_at), ("probes_for", s_probes_for)] GLS
noncomputable def s_divides : List D → R D := runF t_divides p_divides
abbrev st_least_factor : Stmt := top 7
def p_least_factor : Fn := ⟨2, 2, [.ret [] (.neg (.bin .fdiv (.neg (.call "raised" [.cst (.int 2), .var 1])) (.var 0)))]⟩
noncomputable def t_least_factor : Tab := mkT [("raised", s_raised)] GLS
noncomputable def s_least_factor : List D → R D := runF t_least_factor p_least_factor
abbrev st_least_pair : Stmt := top 8
def c_least_pair_0 : Ex := .not (.call "divides" [.var 0, .var 1, .call "least_factor" [.var 0, .var 2], .var 2])
def b_least_pair_0 : List Y.St := [.aug 2 .add (.cst (.int 1))]
def p_least_pair : Fn := ⟨2, 3, [.ite [] (.cmp .lt (.var 1) (.var 0)) [.ret [] (.tup [.cst (.int 0), .cst (.int 0)])] [], .asg [] (.nm 2) (.cst (.int 0)), .whil [] c_least_pair_0 b_least_pair_0, .ret [] (.tup [.call "least_factor" [.var 0, .var 2], .var 2])]⟩
noncomputable def t_least_pair : Tab := mkT [("divides", s_divides), ("least_factor", s_least_factor)] GLS
noncomputable def s_least_pair : List D → R D := runF t_least_pair p_least_pair
abbrev st_judge_pair : Stmt := top 9
def p_judge_pair : Fn := ⟨4, 4, [.ite [] (.cmp .lt (.var 1) (.var 0)) [.ret [] (.and (.cmp .eq (.var 2) (.cst (.int 0))) (.cmp .eq (.var 3) (.cst (.int 0))))] [], .ite [] (.or (.not (.call "divides" [.var 0, .var 1, .var 2, .var 3])) (.cmp .ge (.bin .mul (.var 0) (.bin .sub (.var 2) (.cst (.int 1)))) (.call "raised" [.cst (.int 2), .var 3]))) [.ret [] (.cst (.bool false))] [], .ret [] (.or (.cmp .eq (.var 3) (.cst (.int 0))) (.not (.call "divides" [.var 0, .var 1, .call "least_factor" [.var 0, .bin .sub (.var 3) (.cst (.int 1))], .bin .sub (.var 3) (.cst (.int 1))])))]⟩
noncomputable def t_judge_pair : Tab := mkT [("divides", s_divides), ("least_factor", s_least_factor), ("raised", s_raised)] GLS
noncomputable def s_judge_pair : List D → R D := runF t_judge_pair p_judge_pair
abbrev st_power_in : Stmt := top 10
def p_power_in : Fn := ⟨1, 2, [.asg [] (.nm 1) (.bin .sub (.mth "bit_length" (.var 0) []) (.cst (.int 1))), .ret [] (.ite (.cmp .eq (.call "raised" [.cst (.int 2), .var 1]) (.var 0)) (.var 1) (.cst (.none)))]⟩
noncomputable def t_power_in : Tab := mkT [("raised", s_raised)] GLS
noncomputable def s_power_in : List D → R D := runF t_power_in p_power_in
abbrev st_way_of : Stmt := top 11
def p_way_of : Fn := ⟨3, 5, [.ite [] (.cmp .eq (.var 0) (.cst (.int 1))) [.ret [] (.tup [.cst (.str ("copy" : String))])] [], .ite [] (.cmp .notN (.call "power_in" [.var 0]) (.cst (.none))) [.ret [] (.tup [.cst (.str ("right" : String)), .call "power_in" [.var 0]])] [], .asg [] (.tup [.nm 3, .nm 4]) (.call "least_pair" [.var 0, .var 1]), .ret [] (.ite (.and (.cmp .lt (.bin .mul (.var 1) (.var 3)) (.call "raised" [.cst (.int 2), .var 2])) (.cmp .le (.var 4) (.glb "MOST_SHIFT"))) (.tup [.cst (.str ("mul" : String)), .var 3, .var 4]) (.cst (.none)))]⟩
noncomputable def t_way_of : Tab := mkT [("least_pair", s_least_pair), ("power_in", s_power_in), ("raised", s_raised)] GLS
noncomputable def s_way_of : List D → R D := runF t_way_of p_way_of
abbrev st__law_cell : Stmt := top 13
def p__law_cell : Fn := ⟨2, 2, [.ite [] (.cmp .lt (.var 1) (.olen 0)) [.ret [] (.bi "int" [.oix 0 (.var 1)])] [], .ret [] (.cst (.int 0))]⟩
noncomputable def t__law_cell : Tab := mkT [] GLS
noncomputable def s__law_cell : List D → R D := runF t__law_cell p__law_cell
abbrev st__law_numbers : Stmt := top 14
def b__law_numbers_0 : List Y.St := [.app [] 3 (.bin .mod (.bi "int" [.var 0]) (.var 2)), .asg [] (.nm 0) (.bin .fdiv (.bi "int" [.var 0]) (.var 2))]
def b__law_numbers_1 : List Y.St := [.asg [] (.nm 5) (.bin .mod (.bi "int" [.bin .add (.bin .add (.bin .mul (.var 0) (.cst (.int 48271))) (.bin .mul (.var 4) (.cst (.int 69621)))) (.cst (.int 7))]) (.cst (.int 2147483647))), .asg [] (.nm 5) (.bin .mod (.bi "int" [.bin .add (.bin .add (.bin .add (.bin .mul (.var 5) (.var 5)) (.bin .mul (.var 5) (.cst (.int 40692)))) (.bin .mul (.var 4) (.cst (.int 16807)))) (.cst (.int 11))]) (.cst (.int 2147483399))), .app [] 3 (.bin .mod (.bi "int" [.bin .fdiv (.var 5) (.cst (.int 32))]) (.var 2))]
def p__law_numbers : Fn := ⟨3, 6, [.new 3 (.lst []), .ite [] (.cmp .ge (.var 0) (.bin .pow (.cst (.int 10)) (.cst (.int 18)))) [.forr [] (.nm 4) "range" [.var 1] b__law_numbers_0, .ret [3] (.var 3)] [], .forr [] (.nm 4) "range" [.var 1] b__law_numbers_1, .ret [3] (.var 3)]⟩
noncomputable def t__law_numbers : Tab := mkT [] GLS
noncomputable def s__law_numbers : List D → R D := runF t__law_numbers p__law_numbers
abbrev st__law_same : Stmt := top 15
def g__law_same_0 : Y.St := .ite [] (.isi (.var 1) "list") [.ite [] (.or (.not (.isi (.var 0) "list")) (.cmp .ne (.olen 0) (.olen 1))) [.ret [] (.cst (.bool false))] []] [.ite [] (.isi (.var 1) "tuple") [.ite [] (.or (.not (.isi (.var 0) "tuple")) (.cmp .ne (.olen 0) (.olen 1))) [.ret [] (.cst (.bool false))] []] [.ite [] (.cmp .isN (.var 1) (.cst (.none))) [.ret [] (.cmp .isN (.var 0) (.cst (.none)))] [.ite [] (.isi (.var 1) "bool") [.ret [] (.and (.isi (.var 0) "bool") (.cmp .eq (.var 0) (.var 1)))] [.ite [] (.isi (.var 1) "int") [.ret [] (.and (.isi (.var 0) "int") (.and (.not (.isi (.var 0) "bool")) (.cmp .eq (.var 0) (.var 1))))] [.ret [] (.and (.isi (.var 0) "str") (.cmp .eq (.var 0) (.var 1)))]]]]]
def b__law_same_0 : List Y.St := [.ite [] (.not (.call "_law_same" [.oix 0 (.var 2), .oix 1 (.var 2)])) [.ret [] (.cst (.bool false))] []]
def g__law_same_1 : Y.St := .forr [] (.nm 2) "range" [.olen 1] b__law_same_0
def g__law_same_2 : Y.St := .ret [] (.cst (.bool true))
def p__law_same : Fn := ⟨2, 3, [g__law_same_0, g__law_same_1, g__law_same_2]⟩
noncomputable def s__law_same : Nat → List D → R D
  | 0 => fun _ => .no
  | k + 1 => runF (mkT [("_law_same", s__law_same k)] GLS) p__law_same
abbrev st__law_power : Stmt := top 16
def b__law_power_0 : List Y.St := [.asg [] (.nm 2) (.bin .mul (.var 2) (.var 0))]
def p__law_power : Fn := ⟨2, 4, [.asg [] (.nm 2) (.cst (.int 1)), .forr [] (.nm 3) "range" [.var 1] b__law_power_0, .ret [] (.var 2)]⟩
noncomputable def t__law_power : Tab := mkT [] GLS
noncomputable def s__law_power : List D → R D := runF t__law_power p__law_power
abbrev st_law : Stmt := top 17
def g_law_0 : Y.St := .asg [] (.nm 1) (.call "_law_numbers" [.call "_law_cell" [.var 0, .cst (.int 0)], .cst (.int 40), .cst (.int 5040)])
def g_law_1 : Y.St := .asg [] (.nm 2) (.call "_law_numbers" [.call "_law_cell" [.var 0, .cst (.int 1)], .cst (.int 12), .cst (.int 1000003)])
def g_law_2 : Y.St := .asg [] (.nm 3) (.ix (.lst [.call "_law_power" [.cst (.int 10), .bin .add (.cst (.int 1)) (.bin .mod (.oix 1 (.cst (.int 0))) (.cst (.int 12)))], .bin .add (.cst (.int 2)) (.oix 2 (.cst (.int 0))), .bin .add (.cst (.int 2)) (.bin .mul (.oix 2 (.cst (.int 1))) (.oix 2 (.cst (.int 2)))), .bin .mul (.cst (.int 3)) (.call "_law_power" [.cst (.int 10), .bin .mod (.oix 1 (.cst (.int 0))) (.cst (.int 9))])]) (.bin .mod (.oix 1 (.cst (.int 1))) (.cst (.int 4))))
def g_law_3 : Y.St := .asg [] (.nm 4) (.ix (.lst [.bin .mul (.bin .mul (.oix 2 (.cst (.int 3))) (.oix 2 (.cst (.int 4)))) (.bin .add (.cst (.int 1)) (.oix 2 (.cst (.int 5)))), .bin .add (.bin .mul (.var 3) (.bin .add (.cst (.int 1)) (.oix 1 (.cst (.int 2))))) (.oix 1 (.cst (.int 3))), .call "_law_power" [.cst (.int 2), .bin .add (.cst (.int 10)) (.bin .mod (.oix 1 (.cst (.int 4))) (.cst (.int 54)))], .oix 2 (.cst (.int 6))]) (.bin .mod (.oix 1 (.cst (.int 5))) (.cst (.int 4))))
def g_law_4 : Y.St := .asg [] (.tup [.nm 5, .nm 6]) (.call "least_pair" [.var 3, .var 4])
def g_law_5 : Y.St := .new 7 (.lst [.cst (.int 0), .cst (.int 1), .var 4, .bin .fdiv (.var 4) (.cst (.int 2)), .var 3, .bin .sub (.var 3) (.cst (.int 1)), .bin .add (.var 3) (.cst (.int 1)), .bin .sub (.var 4) (.bin .mod (.bi "int" [.var 4]) (.var 3)), .bin .sub (.bin .sub (.var 4) (.bin .mod (.bi "int" [.var 4]) (.var 3))) (.cst (.int 1))])
def b_law_0 : List Y.St := [.app [] 7 (.bin .add (.bin .mul (.bin .mul (.oix 2 (.bin .add (.cst (.int 7)) (.bin .mod (.var 8) (.cst (.int 5))))) (.oix 1 (.bin .add (.cst (.int 6)) (.var 8)))) (.oix 1 (.bin .add (.cst (.int 7)) (.var 8)))) (.oix 1 (.bin .add (.cst (.int 8)) (.var 8)))), .app [] 7 (.bin .sub (.bin .mul (.var 3) (.bin .mul (.oix 2 (.bin .mod (.var 8) (.cst (.int 7)))) (.oix 1 (.bin .add (.cst (.int 6)) (.var 8))))) (.cst (.int 1)))]
def g_law_6 : Y.St := .forr [] (.nm 8) "range" [.cst (.int 20)] b_law_0
def b_law_1 : List Y.St := [.asg [] (.nm 9) (.bin .mod (.bi "int" [.var 9]) (.bin .add (.var 4) (.cst (.int 1)))), .ite [] (.cmp .ne (.bin .fdiv (.var 9) (.var 3)) (.bin .fdiv (.bin .mul (.var 9) (.var 5)) (.call "_law_power" [.cst (.int 2), .var 6]))) [.ret [] (.cst (.bool false))] []]
def g_law_7 : Y.St := .forr [7] (.nm 9) "" [.var 7] b_law_1
def g_law_8 : Y.St := .asg [] (.nm 10) (.call "probes_for" [.var 3, .var 4])
def g_law_9 : Y.St := .ite [] (.or (.cmp .gt (.bi "len" [.comp [9] (.var 9) (.nm 9) "" [.var 10] [.or (.cmp .lt (.var 9) (.cst (.int 0))) (.cmp .gt (.var 9) (.var 4))]]) (.cst (.int 0))) (.or (.not (.call "_law_same" [.call "divides" [.var 3, .var 4, .var 5, .var 6], .cst (.bool true)])) (.not (.call "_law_same" [.call "judge_pair" [.var 3, .var 4, .var 5, .var 6], .cst (.bool true)])))) [.ret [] (.cst (.bool false))] []
def g_law_10 : Y.St := .asg [] (.nm 11) (.lst [.tup [.bin .add (.var 5) (.cst (.int 1)), .var 6], .tup [.bin .mul (.cst (.int 2)) (.var 5), .bin .add (.var 6) (.cst (.int 1))], .tup [.bin .sub (.bin .mul (.cst (.int 2)) (.var 5)) (.cst (.int 1)), .bin .add (.var 6) (.cst (.int 1))], .tup [.bin .add (.var 5) (.var 3), .var 6], .tup [.var 5, .bin .add (.var 6) (.cst (.int 1))], .tup [.bin .mul (.cst (.int 4)) (.var 5), .bin .add (.var 6) (.cst (.int 2))]])
def g_law_11 : Y.St := .ite [] (.and (.cmp .gt (.var 6) (.cst (.int 0))) (.cmp .gt (.var 5) (.cst (.int 0)))) [.asg [] (.nm 12) (.bin .sub (.cst (.int 0)) (.bin .fdiv (.bin .sub (.cst (.int 0)) (.call "_law_power" [.cst (.int 2), .bin .sub (.var 6) (.cst (.int 1))])) (.var 3))), .asg [] (.nm 11) (.bin .add (.var 11) (.lst [.tup [.bin .sub (.var 5) (.cst (.int 1)), .var 6], .tup [.var 12, .bin .sub (.var 6) (.cst (.int 1))], .tup [.var 5, .bin .sub (.var 6) (.cst (.int 1))], .tup [.bin .fdiv (.var 5) (.cst (.int 2)), .bin .sub (.var 6) (.cst (.int 1))]])), .ite [] (.cmp .eq (.bi "len" [.comp [9] (.var 9) (.nm 9) "" [.var 10] [.cmp .ne (.bin .fdiv (.var 9) (.var 3)) (.bin .fdiv (.bin .mul (.var 9) (.var 12)) (.call "_law_power" [.cst (.int 2), .bin .sub (.var 6) (.cst (.int 1))]))]]) (.cst (.int 0))) [.ret [] (.cst (.bool false))] []] []
def b_law_2 : List Y.St := [.ite [] (.and (.cmp .ne (.tup [.var 13, .var 14]) (.tup [.var 5, .var 6])) (.and (.cmp .ge (.var 13) (.cst (.int 0))) (.cmp .notN (.call "judge_pair" [.var 3, .var 4, .var 13, .var 14]) (.cst (.bool false))))) [.ret [] (.cst (.bool false))] []]
def g_law_12 : Y.St := .forr [] (.tup [.nm 13, .nm 14]) "" [.var 11] b_law_2
def b_law_3 : List Y.St := [.asg [] (.nm 16) (.call "way_of" [.var 3, .var 4, .var 15]), .ite [] (.and (.cmp .notN (.var 16) (.cst (.none))) (.and (.cmp .eq (.oix 16 (.cst (.int 0))) (.cst (.str ("mul" : String)))) (.or (.cmp .ne (.var 16) (.tup [.cst (.str ("mul" : String)), .var 5, .var 6])) (.cmp .ge (.bin .mul (.var 4) (.var 5)) (.call "_law_power" [.cst (.int 2), .var 15]))))) [.ret [] (.cst (.bool false))] [], .ite [] (.and (.cmp .isN (.var 16) (.cst (.none))) (.cmp .lt (.bin .mul (.var 4) (.var 5)) (.call "_law_power" [.cst (.int 2), .var 15]))) [.ret [] (.cst (.bool false))] []]
def g_law_13 : Y.St := .forr [] (.nm 15) "" [.lst [.cst (.int 16), .cst (.int 64), .cst (.int 128), .cst (.int 256)]] b_law_3
def g_law_14 : Y.St := .ret [] (.or (.cmp .ge (.var 4) (.var 3)) (.cmp .eq (.tup [.var 5, .var 6]) (.tup [.cst (.int 0), .cst (.int 0)])))
def p_law : Fn := ⟨1, 17, [g_law_0, g_law_1, g_law_2, g_law_3, g_law_4, g_law_5, g_law_6, g_law_7, g_law_8, g_law_9, g_law_10, g_law_11, g_law_12, g_law_13, g_law_14]⟩
noncomputable def t_law : Tab := mkT [("_law_cell", s__law_cell), ("_law_numbers", s__law_numbers), ("_law_power", s__law_power), ("_law_same", s__law_same 6), ("divides", s_divides), ("judge_pair", s_judge_pair), ("least_pair", s_least_pair), ("probes_for", s_probes_for), ("way_of", s_way_of)] GLS
noncomputable def s_law : List D → R D := runF t_law p_law
end G

namespace G
open PySem L2 Y
/-! ### each def of the program computes its reading -/
section
variable {P : Program} {w : World} {K : PySem.W.Frag} {mg : Str → Option Value} {base : Heap} {f : Addr} {fd : FuncData}
theorem ok_raised (A : DefAt K mg (Str.ofString "raised") st_raised f fd) (hB : ∀ x ∈ BLT, mg (Str.ofString x) = none) (hG : ∀ q ∈ GLS, GlbAt K mg q) : Callee P w K mg base 1 (Str.ofString "raised") s_raised :=
  callee_chk (ps := (["base", "k"] : List Str)) (N := (["base", "k", "found"] : List Str)) (gcd := false) A (A.fn.binds (ps := (["base", "k"] : List Str)) (fun _ _ _ _ _ _ us hl => match us, hl with | [_, _], _ => rfl)) ⟨rfl, rfl, rfl, by decide +kernel, rfl, by decide +kernel, by decide +kernel⟩ (by decide) cs_nil hG hB (fun h => Bool.noConfusion h) (by decide +kernel)
theorem ok_divides_at (A : DefAt K mg (Str.ofString "divides_at") st_divides_at f fd) (hB : ∀ x ∈ BLT, mg (Str.ofString x) = none) (hG : ∀ q ∈ GLS, GlbAt K mg q) (C_raised : Callee P w K mg base 1 (Str.ofString "raised") (s_raised)) : Callee P w K mg base 2 (Str.ofString "divides_at") s_divides_at :=
  callee_chk (ps := (["c", "m", "s", "x"] : List Str)) (N := (["c", "m", "s", "x"] : List Str)) (gcd := false) A (A.fn.binds (ps := (["c", "m", "s", "x"] : List Str)) (fun _ _ _ _ _ _ us hl => match us, hl with | [_, _, _, _], _ => rfl)) ⟨rfl, rfl, rfl, by decide +kernel, rfl, by decide +kernel, by decide +kernel⟩ (by decide) (cs_cons C_raised (by decide) cs_nil) hG hB (fun h => Bool.noConfusion h) (by decide +kernel)
theorem ok_probes_for (A : DefAt K mg (Str.ofString "probes_for") st_probes_for f fd) (hB : ∀ x ∈ BLT, mg (Str.ofString x) = none) (hG : ∀ q ∈ GLS, GlbAt K mg q) : Callee P w K mg base 1 (Str.ofString "probes_for") s_probes_for :=
  callee_chk (ps := (["c", "most"] : List Str)) (N := (["c", "most", "last"] : List Str)) (gcd := false) A (A.fn.binds (ps := (["c", "most"] : List Str)) (fun _ _ _ _ _ _ us hl => match us, hl with | [_, _], _ => rfl)) ⟨rfl, rfl, rfl, by decide +kernel, rfl, by decide +kernel, by decide +kernel⟩ (by decide) cs_nil hG hB (fun h => Bool.noConfusion h) (by decide +kernel)
theorem ok_divides (A : DefAt K mg (Str.ofString "divides") st_divides f fd) (hB : ∀ x ∈ BLT, mg (Str.ofString x) = none) (hG : ∀ q ∈ GLS, GlbAt K mg q) (C_divides_at : Callee P w K mg base 2 (Str.ofString "divides_at") (s_divides_at)) (C_probes_for : Callee P w K mg base 1 (Str.ofString "probes_for") (s_probes_for)) : Callee P w K mg base 3 (Str.ofString "divides") s_divides :=
  callee_chk (ps := (["c", "most", "m", "s"] : List Str)) (N := (["c", "most", "m", "s", "x"] : List Str)) (gcd := false) A (A.fn.binds (ps := (["c", "most", "m", "s"] : List Str)) (fun _ _ _ _ _ _ us hl => match us, hl with | [_, _, _, _], _ => rfl)) ⟨rfl, rfl, rfl, by decide +kernel, rfl, by decide +kernel, by decide +kernel⟩ (by decide) (cs_cons C_divides_at (by decide) (cs_cons C_probes_for (by decide) cs_nil)) hG hB (fun h => Bool.noConfusion h) (by decide +kernel)
theorem ok_least_factor (A : DefAt K mg (Str.ofString "least_factor") st_least_factor f fd) (hB : ∀ x ∈ BLT, mg (Str.ofString x) = none) (hG : ∀ q ∈ GLS, GlbAt K mg q) (C_raised : Callee P w K mg base 1 (Str.ofString "raised") (s_raised)) : Callee P w K mg base 2 (Str.ofString "least_factor") s_least_factor :=
  callee_chk (ps := (["c", "s"] : List Str)) (N := (["c", "s"] : List Str)) (gcd := false) A (A.fn.binds (ps := (["c", "s"] : List Str)) (fun _ _ _ _ _ _ us hl => match us, hl with | [_, _], _ => rfl)) ⟨rfl, rfl, rfl, by decide +kernel, rfl, by decide +kernel, by decide +kernel⟩ (by decide) (cs_cons C_raised (by decide) cs_nil) hG hB (fun h => Bool.noConfusion h) (by decide +kernel)
theorem ok_least_pair (A : DefAt K mg (Str.ofString "least_pair") st_least_pair f fd) (hB : ∀ x ∈ BLT, mg (Str.ofString x) = none) (hG : ∀ q ∈ GLS, GlbAt K mg q) (C_divides : Callee P w K mg base 3 (Str.ofString "divides") (s_divides)) (C_least_factor : Callee P w K mg base 2 (Str.ofString "least_factor") (s_least_factor)) : Callee P w K mg base 4 (Str.ofString "least_pair") s_least_pair :=
  callee_chk (ps := (["c", "most"] : List Str)) (N := (["c", "most", "s"] : List Str)) (gcd := false) A (A.fn.binds (ps := (["c", "most"] : List Str)) (fun _ _ _ _ _ _ us hl => match us, hl with | [_, _], _ => rfl)) ⟨rfl, rfl, rfl, by decide +kernel, rfl, by decide +kernel, by decide +kernel⟩ (by decide) (cs_cons C_divides (by decide) (cs_cons C_least_factor (by decide) cs_nil)) hG hB (fun h => Bool.noConfusion h) (by decide +kernel)
theorem ok_judge_pair (A : DefAt K mg (Str.ofString "judge_pair") st_judge_pair f fd) (hB : ∀ x ∈ BLT, mg (Str.ofString x) = none) (hG : ∀ q ∈ GLS, GlbAt K mg q) (C_divides : Callee P w K mg base 3 (Str.ofString "divides") (s_divides)) (C_least_factor : Callee P w K mg base 2 (Str.ofString "least_factor") (s_least_factor)) (C_raised : Callee P w K mg base 1 (Str.ofString "raised") (s_raised)) : Callee P w K mg base 4 (Str.ofString "judge_pair") s_judge_pair :=
  callee_chk (ps := (["c", "most", "m", "s"] : List Str)) (N := (["c", "most", "m", "s"] : List Str)) (gcd := false) A (A.fn.binds (ps := (["c", "most", "m", "s"] : List Str)) (fun _ _ _ _ _ _ us hl => match us, hl with | [_, _, _, _], _ => rfl)) ⟨rfl, rfl, rfl, by decide +kernel, rfl, by decide +kernel, by decide +kernel⟩ (by decide) (cs_cons C_divides (by decide) (cs_cons C_least_factor (by decide) (cs_cons C_raised (by decide) cs_nil))) hG hB (fun h => Bool.noConfusion h) (by decide +kernel)
theorem ok_power_in (A : DefAt K mg (Str.ofString "power_in") st_power_in f fd) (hB : ∀ x ∈ BLT, mg (Str.ofString x) = none) (hG : ∀ q ∈ GLS, GlbAt K mg q) (C_raised : Callee P w K mg base 1 (Str.ofString "raised") (s_raised)) : Callee P w K mg base 2 (Str.ofString "power_in") s_power_in :=
  callee_chk (ps := (["c"] : List Str)) (N := (["c", "a"] : List Str)) (gcd := false) A (A.fn.binds (ps := (["c"] : List Str)) (fun _ _ _ _ _ _ us hl => match us, hl with | [_], _ => rfl)) ⟨rfl, rfl, rfl, by decide +kernel, rfl, by decide +kernel, by decide +kernel⟩ (by decide) (cs_cons C_raised (by decide) cs_nil) hG hB (fun h => Bool.noConfusion h) (by decide +kernel)
theorem ok_way_of (A : DefAt K mg (Str.ofString "way_of") st_way_of f fd) (hB : ∀ x ∈ BLT, mg (Str.ofString x) = none) (hG : ∀ q ∈ GLS, GlbAt K mg q) (C_least_pair : Callee P w K mg base 4 (Str.ofString "least_pair") (s_least_pair)) (C_power_in : Callee P w K mg base 2 (Str.ofString "power_in") (s_power_in)) (C_raised : Callee P w K mg base 1 (Str.ofString "raised") (s_raised)) : Callee P w K mg base 5 (Str.ofString "way_of") s_way_of :=
  callee_chk (ps := (["c", "most", "width"] : List Str)) (N := (["c", "most", "width", "m", "s"] : List Str)) (gcd := false) A (A.fn.binds (ps := (["c", "most", "width"] : List Str)) (fun _ _ _ _ _ _ us hl => match us, hl with | [_, _, _], _ => rfl)) ⟨rfl, rfl, rfl, by decide +kernel, rfl, by decide +kernel, by decide +kernel⟩ (by decide) (cs_cons C_least_pair (by decide) (cs_cons C_power_in (by decide) (cs_cons C_raised (by decide) cs_nil))) hG hB (fun h => Bool.noConfusion h) (by decide +kernel)
theorem ok__law_cell (A : DefAt K mg (Str.ofString "_law_cell") st__law_cell f fd) (hB : ∀ x ∈ BLT, mg (Str.ofString x) = none) (hG : ∀ q ∈ GLS, GlbAt K mg q) : Callee P w K mg base 1 (Str.ofString "_law_cell") s__law_cell :=
  callee_chk (ps := (["script", "k"] : List Str)) (N := (["script", "k"] : List Str)) (gcd := false) A (A.fn.binds (ps := (["script", "k"] : List Str)) (fun _ _ _ _ _ _ us hl => match us, hl with | [_, _], _ => rfl)) ⟨rfl, rfl, rfl, by decide +kernel, rfl, by decide +kernel, by decide +kernel⟩ (by decide) cs_nil hG hB (fun h => Bool.noConfusion h) (by decide +kernel)
theorem ok__law_numbers (A : DefAt K mg (Str.ofString "_law_numbers") st__law_numbers f fd) (hB : ∀ x ∈ BLT, mg (Str.ofString x) = none) (hG : ∀ q ∈ GLS, GlbAt K mg q) : Callee P w K mg base 1 (Str.ofString "_law_numbers") s__law_numbers :=
  callee_chk (ps := (["cell", "count", "limit"] : List Str)) (N := (["cell", "count", "limit", "found", "k", "mixed"] : List Str)) (gcd := false) A (A.fn.binds (ps := (["cell", "count", "limit"] : List Str)) (fun _ _ _ _ _ _ us hl => match us, hl with | [_, _, _], _ => rfl)) ⟨rfl, rfl, rfl, by decide +kernel, rfl, by decide +kernel, by decide +kernel⟩ (by decide) cs_nil hG hB (fun h => Bool.noConfusion h) (by decide +kernel)
theorem ok__law_same (A : DefAt K mg (Str.ofString "_law_same") st__law_same f fd) (hB : ∀ x ∈ BLT, mg (Str.ofString x) = none) (hG : ∀ q ∈ GLS, GlbAt K mg q) : ∀ k : Nat, Callee P w K mg base (1 + k) (Str.ofString "_law_same") (s__law_same k)
  | 0 => callee_no (ps := (["told", "due"] : List Str)) A (A.fn.binds (ps := (["told", "due"] : List Str)) (fun _ _ _ _ _ _ us hl => match us, hl with | [_, _], _ => rfl))
  | k + 1 => by
    have IH := ok__law_same A hB hG k
    exact callee_chk (k := 1 + k) (ps := (["told", "due"] : List Str)) (N := (["told", "due", "k"] : List Str)) (gcd := false) A (A.fn.binds (ps := (["told", "due"] : List Str)) (fun _ _ _ _ _ _ us hl => match us, hl with | [_, _], _ => rfl)) ⟨rfl, rfl, rfl, by decide +kernel, rfl, by decide +kernel, by decide +kernel⟩ (by decide) (cs_cons IH (by omega) cs_nil) hG hB (fun h => Bool.noConfusion h) (show chkSs ⟨(["told", "due", "k"] : List Str), ["_law_same"], GLS.map (·.1), BLT, false⟩ p__law_same.body (defScope st__law_same) (defBody st__law_same) = true by decide +kernel)
theorem ok__law_power (A : DefAt K mg (Str.ofString "_law_power") st__law_power f fd) (hB : ∀ x ∈ BLT, mg (Str.ofString x) = none) (hG : ∀ q ∈ GLS, GlbAt K mg q) : Callee P w K mg base 1 (Str.ofString "_law_power") s__law_power :=
  callee_chk (ps := (["base", "count"] : List Str)) (N := (["base", "count", "found", "turn"] : List Str)) (gcd := false) A (A.fn.binds (ps := (["base", "count"] : List Str)) (fun _ _ _ _ _ _ us hl => match us, hl with | [_, _], _ => rfl)) ⟨rfl, rfl, rfl, by decide +kernel, rfl, by decide +kernel, by decide +kernel⟩ (by decide) cs_nil hG hB (fun h => Bool.noConfusion h) (by decide +kernel)
theorem ok_law (A : DefAt K mg (Str.ofString "law") st_law f fd) (hB : ∀ x ∈ BLT, mg (Str.ofString x) = none) (hG : ∀ q ∈ GLS, GlbAt K mg q) (C__law_cell : Callee P w K mg base 1 (Str.ofString "_law_cell") (s__law_cell)) (C__law_numbers : Callee P w K mg base 1 (Str.ofString "_law_numbers") (s__law_numbers)) (C__law_power : Callee P w K mg base 1 (Str.ofString "_law_power") (s__law_power)) (C__law_same : Callee P w K mg base 7 (Str.ofString "_law_same") (s__law_same 6)) (C_divides : Callee P w K mg base 3 (Str.ofString "divides") (s_divides)) (C_judge_pair : Callee P w K mg base 4 (Str.ofString "judge_pair") (s_judge_pair)) (C_least_pair : Callee P w K mg base 4 (Str.ofString "least_pair") (s_least_pair)) (C_probes_for : Callee P w K mg base 1 (Str.ofString "probes_for") (s_probes_for)) (C_way_of : Callee P w K mg base 5 (Str.ofString "way_of") (s_way_of)) : FnOk P w K mg base CX0 8 f fd ["script"] (spF K s_law) :=
  fn_chk (ps := (["script"] : List Str)) (N := (["script", "draws", "some", "c", "most", "m", "s", "tried", "k", "x", "probes", "bent", "down", "one", "other", "width", "way"] : List Str)) (gcd := false) A ⟨rfl, rfl, rfl, by decide +kernel, rfl, by decide +kernel, by decide +kernel⟩ (by decide) (cs_cons C__law_cell (by decide) (cs_cons C__law_numbers (by decide) (cs_cons C__law_power (by decide) (cs_cons C__law_same (by decide) (cs_cons C_divides (by decide) (cs_cons C_judge_pair (by decide) (cs_cons C_least_pair (by decide) (cs_cons C_probes_for (by decide) (cs_cons C_way_of (by decide) cs_nil))))))))) hG hB (fun h => Bool.noConfusion h) (by decide +kernel)
end
end G

namespace G
open Y
/-! raised -/
theorem raised_odd (T : Tab) (b k f : Int) (o1 : PySem.IntMulOk b b) (o2 : PySem.IntMulOk f b) (p2 : PySem.Builtin.divisionGoesByPylong k 2 = false) (h : k % 2 = 1) :
    semSs T b_raised_0 [.val (.int b), .val (.int k), .val (.int f)] = .ok (.nx [.val (.int (b * b)), .val (.int (k / 2)), .val (.int (f * b))]) := by
  simp [b_raised_0, runF, semE_0, semE_1, semE_2, semE_3, semE_4, semE_5, semE_6, semE_7, semE_8, semE_9, semE_10, semE_11, semE_12, semE_13, semE_14, semE_15, semE_16, semE_17, semE_18, semE_19, semE_20, semE_21, semE_22, semE_23, semE_24, semE_25, semE_26, semEs_0, semEs_1, semTs_0, semTs_1, semS_0, semS_1, semS_2, semS_3, semS_4, semS_5, semS_6, semS_7, semS_8, semS_9, semS_10, semS_11, semS_12, semS_13, semS_14, semS_15, semS_16, semS_17, semS_18, semS_19, semS_20, semS_21, semS_22, semS_23, semS_24, semSs_0, semSs_1, getV, peek, freeze, freeze1, keep, scalar, binD, addD, subD, mulD, fdivD, modD, powD, negD, augD, cmpB, eqB, truthD, boolR, biD, bi1, lenD, intD, mthD, itBi, it1, iterD, ixD, lstOf, ownAt, seqO_nx, seqO_rt, seqO_bk, seqO_ct, seqO_ex, seqO_no, R.ok_bind, rbind_ok, bindT_nm, bindT_tup, bindTs_nil, bindTs_cons, wipeE, o1, o2, p2, h]
theorem raised_even (T : Tab) (b k f : Int) (o1 : PySem.IntMulOk b b) (p2 : PySem.Builtin.divisionGoesByPylong k 2 = false) (h : k % 2 = 0) :
    semSs T b_raised_0 [.val (.int b), .val (.int k), .val (.int f)] = .ok (.nx [.val (.int (b * b)), .val (.int (k / 2)), .val (.int f)]) := by
  simp [b_raised_0, runF, semE_0, semE_1, semE_2, semE_3, semE_4, semE_5, semE_6, semE_7, semE_8, semE_9, semE_10, semE_11, semE_12, semE_13, semE_14, semE_15, semE_16, semE_17, semE_18, semE_19, semE_20, semE_21, semE_22, semE_23, semE_24, semE_25, semE_26, semEs_0, semEs_1, semTs_0, semTs_1, semS_0, semS_1, semS_2, semS_3, semS_4, semS_5, semS_6, semS_7, semS_8, semS_9, semS_10, semS_11, semS_12, semS_13, semS_14, semS_15, semS_16, semS_17, semS_18, semS_19, semS_20, semS_21, semS_22, semS_23, semS_24, semSs_0, semSs_1, getV, peek, freeze, freeze1, keep, scalar, binD, addD, subD, mulD, fdivD, modD, powD, negD, augD, cmpB, eqB, truthD, boolR, biD, bi1, lenD, intD, mthD, itBi, it1, iterD, ixD, lstOf, ownAt, seqO_nx, seqO_rt, seqO_bk, seqO_ct, seqO_ex, seqO_no, R.ok_bind, rbind_ok, bindT_nm, bindT_tup, bindTs_nil, bindTs_cons, wipeE, o1, p2, h]
theorem raised_c (T : Tab) (b k f : Int) : (semE T c_raised_0 (freeze [] [.val (.int b), .val (.int k), .val (.int f)]) >>= truthD) = .ok (decide (0 < k)) := by
  simp [c_raised_0, runF, semE_0, semE_1, semE_2, semE_3, semE_4, semE_5, semE_6, semE_7, semE_8, semE_9, semE_10, semE_11, semE_12, semE_13, semE_14, semE_15, semE_16, semE_17, semE_18, semE_19, semE_20, semE_21, semE_22, semE_23, semE_24, semE_25, semE_26, semEs_0, semEs_1, semTs_0, semTs_1, semS_0, semS_1, semS_2, semS_3, semS_4, semS_5, semS_6, semS_7, semS_8, semS_9, semS_10, semS_11, semS_12, semS_13, semS_14, semS_15, semS_16, semS_17, semS_18, semS_19, semS_20, semS_21, semS_22, semS_23, semS_24, semSs_0, semSs_1, getV, peek, freeze, freeze1, keep, scalar, binD, addD, subD, mulD, fdivD, modD, powD, negD, augD, cmpB, eqB, truthD, boolR, biD, bi1, lenD, intD, mthD, itBi, it1, iterD, ixD, lstOf, ownAt, seqO_nx, seqO_rt, seqO_bk, seqO_ct, seqO_ex, seqO_no, R.ok_bind, rbind_ok, bindT_nm, bindT_tup, bindTs_nil, bindTs_cons, wipeE]
theorem raised_loop (T : Tab) : ∀ (k : Nat) (b f : Int) (m n : Nat), bt b ≤ m → bt f ≤ n → 2 * m * k ≤ 1000000 → n + m * k ≤ 1000000 →
    ∃ b' : Int, whD (fun env => semE T c_raised_0 (freeze [] env) >>= truthD) (semSs T b_raised_0) [.val (.int b), .val (.int k), .val (.int f)] = .ok (.nx [.val (.int b'), .val (.int 0), .val (.int (f * b ^ k))]) := by
  intro k
  induction k using Nat.strongRecOn with
  | ind k ih =>
    intro b f m n hb hf h1 h2
    by_cases hk : k = 0
    · subst hk
      refine ⟨b, ?_⟩
      rw [whD_f (by rw [raised_c]; rfl)]
      simp
    · have hk0 : (0 : Int) < k := by omega
      have o1 : PySem.IntMulOk b b := mulOk hb hb (by
        have : m * 1 ≤ m * k := Nat.mul_le_mul_left m (by omega)
        rw [Nat.mul_assoc] at h1
        omega)
      have o2 : PySem.IntMulOk f b := mulOk hf hb (by
        have : m * 1 ≤ m * k := Nat.mul_le_mul_left m (by omega)
        omega)
      have p2 : PySem.Builtin.divisionGoesByPylong (k : Int) 2 = false := noPy (by decide)
      have hbb : bt (b * b) ≤ 2 * m := bt_mono (bt_mul hb hb) (by omega)
      have e2 : ((k : Int) / 2) = ((k / 2 : Nat) : Int) := by omega
      have hm : 2 * m * (k / 2) ≤ m * k := by
        have : m * (2 * (k / 2)) ≤ m * k := Nat.mul_le_mul_left m (by omega)
        calc 2 * m * (k / 2) = m * (2 * (k / 2)) := by rw [Nat.mul_comm 2 m, Nat.mul_assoc]
          _ ≤ m * k := this
      have h1' : 2 * (2 * m) * (k / 2) ≤ 1000000 := by
        have : 2 * (2 * m) * (k / 2) = 2 * (2 * m * (k / 2)) := by rw [Nat.mul_assoc]
        have : 2 * m * k = 2 * (m * k) := by rw [Nat.mul_assoc]
        omega
      by_cases hodd : k % 2 = 1
      · have hodd' : (k : Int) % 2 = 1 := by omega
        have hf2 : bt (f * b) ≤ n + m := bt_mul hf hb
        obtain ⟨b', hb'⟩ := ih (k / 2) (by omega) (b * b) (f * b) (2 * m) (n + m) hbb hf2 h1' (by
          have : m * k = m * (2 * (k / 2) + 1) := by rw [show 2 * (k / 2) + 1 = k by omega]
          have : m * (2 * (k / 2) + 1) = 2 * m * (k / 2) + m := by rw [Nat.mul_add, Nat.mul_comm 2 m, Nat.mul_assoc]; simp
          omega)
        refine ⟨b', ?_⟩
        have ep : f * b * (b * b) ^ (k / 2) = f * b ^ k := by
          have e : b ^ k = (b ^ 2) ^ (k / 2) * b := by
            have h : k = 2 * (k / 2) + 1 := by omega
            conv => lhs; rw [h]
            rw [Int.pow_succ, Int.pow_mul]
          rw [e, Int.pow_succ, Int.pow_succ, Int.pow_zero, Int.one_mul, Int.mul_assoc, Int.mul_comm b]
        rw [whD_t (e := [.val (.int (b * b)), .val (.int ((k / 2 : Nat) : Int)), .val (.int (f * b))]) (by rw [raised_c, decide_eq_true hk0]) (by rw [← e2]; exact raised_odd T b k f o1 o2 p2 hodd'), hb', ep]
      · have hodd' : (k : Int) % 2 = 0 := by omega
        obtain ⟨b', hb'⟩ := ih (k / 2) (by omega) (b * b) f (2 * m) n hbb hf h1' (by omega)
        refine ⟨b', ?_⟩
        have ep : f * (b * b) ^ (k / 2) = f * b ^ k := by
          have e : b ^ k = (b ^ 2) ^ (k / 2) := by
            have h : k = 2 * (k / 2) := by omega
            conv => lhs; rw [h]
            rw [Int.pow_mul]
          rw [e, Int.pow_succ, Int.pow_succ, Int.pow_zero, Int.one_mul]
        rw [whD_t (e := [.val (.int (b * b)), .val (.int ((k / 2 : Nat) : Int)), .val (.int f)]) (by rw [raised_c, decide_eq_true hk0]) (by rw [← e2]; exact raised_even T b k f o1 p2 hodd'), hb', ep]
theorem raised_eq (T : Tab) (k : Nat) (b : Int) (m : Nat) (hb : bt b ≤ m) (h : 2 * m * k ≤ 1000000) : runF T p_raised [.int b, .int k] = .ok (.int (b ^ k)) := by
  obtain ⟨b', e⟩ := raised_loop T k b 1 m 1 hb (by decide) h (by rw [Nat.mul_assoc] at h; omega)
  rw [Int.one_mul] at e
  generalize hw : whD (fun env => semE T c_raised_0 (freeze [] env) >>= truthD) (semSs T b_raised_0) = W at e
  have hw' : ∀ env, whD (fun env => semE T c_raised_0 (freeze [] env) >>= truthD) (semSs T b_raised_0) env = W env := fun env => by rw [hw]
  unfold runF p_raised
  simp only [semSs, semS]
  simp only [hw']
  simp [runF, semE_0, semE_1, semE_2, semE_3, semE_4, semE_5, semE_6, semE_7, semE_8, semE_9, semE_10, semE_11, semE_12, semE_13, semE_14, semE_15, semE_16, semE_17, semE_18, semE_19, semE_20, semE_21, semE_22, semE_23, semE_24, semE_25, semE_26, semEs_0, semEs_1, semTs_0, semTs_1, semS_0, semS_1, semS_2, semS_3, semS_4, semS_5, semS_6, semS_7, semS_8, semS_9, semS_10, semS_11, semS_12, semS_13, semS_14, semS_15, semS_16, semS_17, semS_18, semS_19, semS_20, semS_21, semS_22, semS_23, semS_24, semSs_0, semSs_1, getV, peek, freeze, freeze1, keep, scalar, binD, addD, subD, mulD, fdivD, modD, powD, negD, augD, cmpB, eqB, truthD, boolR, biD, bi1, lenD, intD, mthD, itBi, it1, iterD, ixD, lstOf, ownAt, seqO_nx, seqO_rt, seqO_bk, seqO_ct, seqO_ex, seqO_no, R.ok_bind, rbind_ok, bindT_nm, bindT_tup, bindTs_nil, bindTs_cons, wipeE, e]
end G

namespace G
open Y
abbrev I (i : Int) : D := .int i
def at0 (xs : List Int) (i : Int) : Int := xs.getD i.toNat 0
theorem atD_ints {xs : List Int} {i : Int} (h0 : 0 ≤ i) (h : i < xs.length) : atD (xs.map .int) i = .ok (.int (at0 xs i)) := by
  have h1 : i.toNat < xs.length := by omega
  simp [atD, L2.atI, L2.ixN, h0, h, at0, List.getElem?_eq_getElem h1]
theorem at0_in {xs : List Int} {L i : Int} (hL : 0 < L) (h : ∀ x ∈ xs, 0 ≤ x ∧ x < L) : 0 ≤ at0 xs i ∧ at0 xs i < L := by
  unfold at0
  rw [List.getD_eq_getElem?_getD]
  by_cases h1 : i.toNat < xs.length
  · rw [List.getElem?_eq_getElem h1]
    exact h _ (List.getElem_mem h1)
  · rw [List.getElem?_eq_none (by omega)]
    exact ⟨Int.le_refl 0, hL⟩
theorem bt_small {z : Int} (h : -(2 ^ 62) < z) (h2 : z < 2 ^ 62) : bt z ≤ 62 := bt_le (by omega)
/-! _law_cell -/
theorem cell_eq (T : Tab) (ns : List Int) (k : Nat) : runF T p__law_cell [.list (ns.map .int), .int k] = .ok (.int (ns.getD k 0)) := by
  by_cases h : k < ns.length
  · have e := atD_ints (xs := ns) (i := (k : Int)) (by omega) (by omega)
    have e2 : at0 ns (k : Int) = ns.getD k 0 := by simp [at0]
    have h' : (k : Int) < (ns.length : Int) := by omega
    unfold runF p__law_cell
    simp [runF, semE_0, semE_1, semE_2, semE_3, semE_4, semE_5, semE_6, semE_7, semE_8, semE_9, semE_10, semE_11, semE_12, semE_13, semE_14, semE_15, semE_16, semE_17, semE_18, semE_19, semE_20, semE_21, semE_22, semE_23, semE_24, semE_25, semE_26, semEs_0, semEs_1, semTs_0, semTs_1, semS_0, semS_1, semS_2, semS_3, semS_4, semS_5, semS_6, semS_7, semS_8, semS_9, semS_10, semS_11, semS_12, semS_13, semS_14, semS_15, semS_16, semS_17, semS_18, semS_19, semS_20, semS_21, semS_22, semS_23, semS_24, semSs_0, semSs_1, getV, peek, freeze, freeze1, keep, scalar, binD, addD, subD, mulD, fdivD, modD, powD, negD, augD, cmpB, eqB, truthD, boolR, biD, bi1, lenD, intD, mthD, itBi, it1, iterD, ixD, lstOf, ownAt, seqO_nx, seqO_rt, seqO_bk, seqO_ct, seqO_ex, seqO_no, R.ok_bind, rbind_ok, bindT_nm, bindT_tup, bindTs_nil, bindTs_cons, wipeE, e, e2, h']
  · have h' : ¬ ((k : Int) < (ns.length : Int)) := by omega
    have h2 : ns.length ≤ k := by omega
    unfold runF p__law_cell
    simp [runF, semE_0, semE_1, semE_2, semE_3, semE_4, semE_5, semE_6, semE_7, semE_8, semE_9, semE_10, semE_11, semE_12, semE_13, semE_14, semE_15, semE_16, semE_17, semE_18, semE_19, semE_20, semE_21, semE_22, semE_23, semE_24, semE_25, semE_26, semEs_0, semEs_1, semTs_0, semTs_1, semS_0, semS_1, semS_2, semS_3, semS_4, semS_5, semS_6, semS_7, semS_8, semS_9, semS_10, semS_11, semS_12, semS_13, semS_14, semS_15, semS_16, semS_17, semS_18, semS_19, semS_20, semS_21, semS_22, semS_23, semS_24, semSs_0, semSs_1, getV, peek, freeze, freeze1, keep, scalar, binD, addD, subD, mulD, fdivD, modD, powD, negD, augD, cmpB, eqB, truthD, boolR, biD, bi1, lenD, intD, mthD, itBi, it1, iterD, ixD, lstOf, ownAt, seqO_nx, seqO_rt, seqO_bk, seqO_ct, seqO_ex, seqO_no, R.ok_bind, rbind_ok, bindT_nm, bindT_tup, bindTs_nil, bindTs_cons, wipeE, h', h2]
/-! _law_numbers -/
theorem num0 (T : Tab) (c n l : Int) (xs : List Int) (k r : SV) (hl : 0 < l) (p : PySem.Builtin.divisionGoesByPylong c l = false) (hx : xs.length < PySem.sizeLine) :
    semSs T b__law_numbers_0 [.val (.int c), .val (.int n), .val (.int l), .own (xs.map .int), k, r] = .ok (.nx [.val (.int (c / l)), .val (.int n), .val (.int l), .own ((xs ++ [c % l]).map .int), k, r]) := by
  simp [b__law_numbers_0, runF, semE_0, semE_1, semE_2, semE_3, semE_4, semE_5, semE_6, semE_7, semE_8, semE_9, semE_10, semE_11, semE_12, semE_13, semE_14, semE_15, semE_16, semE_17, semE_18, semE_19, semE_20, semE_21, semE_22, semE_23, semE_24, semE_25, semE_26, semEs_0, semEs_1, semTs_0, semTs_1, semS_0, semS_1, semS_2, semS_3, semS_4, semS_5, semS_6, semS_7, semS_8, semS_9, semS_10, semS_11, semS_12, semS_13, semS_14, semS_15, semS_16, semS_17, semS_18, semS_19, semS_20, semS_21, semS_22, semS_23, semS_24, semSs_0, semSs_1, getV, peek, freeze, freeze1, keep, scalar, binD, addD, subD, mulD, fdivD, modD, powD, negD, augD, cmpB, eqB, truthD, boolR, biD, bi1, lenD, intD, mthD, itBi, it1, iterD, ixD, lstOf, ownAt, seqO_nx, seqO_rt, seqO_bk, seqO_ct, seqO_ex, seqO_no, R.ok_bind, rbind_ok, bindT_nm, bindT_tup, bindTs_nil, bindTs_cons, wipeE, hl, p, hx]
theorem num1 (T : Tab) (c n l i : Int) (xs : List Int) (r : SV) (hl : 0 < l) (hx : xs.length < PySem.sizeLine) (hi : 0 ≤ i ∧ i < 100000) (hl2 : l < 2 ^ 60) :
    ∃ r' y, semSs T b__law_numbers_1 [.val (.int c), .val (.int n), .val (.int l), .own (xs.map .int), .val (.int i), r] = .ok (.nx [.val (.int c), .val (.int n), .val (.int l), .own ((xs ++ [y]).map .int), .val (.int i), r']) ∧ 0 ≤ y ∧ y < l := by
  have o1 : PySem.IntMulOk c 48271 := .of_right (by decide)
  have o2 : PySem.IntMulOk i 69621 := .of_right (by decide)
  generalize hm : (c * 48271 + i * 69621 + 7) % 2147483647 = m
  have hm0 : 0 ≤ m ∧ m < 2147483647 := by omega
  have o3 : PySem.IntMulOk m m := .of_right (bt_mono (bt_small (by omega) (by omega)) (by decide))
  have o4 : PySem.IntMulOk m 40692 := .of_right (by decide)
  have o5 : PySem.IntMulOk i 16807 := .of_right (by decide)
  have p5 : ∀ z, PySem.Builtin.divisionGoesByPylong z 32 = false := fun z => noPy (by decide)
  refine ⟨.val (.int ((m * m + m * 40692 + i * 16807 + 11) % 2147483399)), ((m * m + m * 40692 + i * 16807 + 11) % 2147483399 / 32) % l, ?_, Int.emod_nonneg _ (by omega), Int.emod_lt_of_pos _ hl⟩
  simp [b__law_numbers_1, runF, semE_0, semE_1, semE_2, semE_3, semE_4, semE_5, semE_6, semE_7, semE_8, semE_9, semE_10, semE_11, semE_12, semE_13, semE_14, semE_15, semE_16, semE_17, semE_18, semE_19, semE_20, semE_21, semE_22, semE_23, semE_24, semE_25, semE_26, semEs_0, semEs_1, semTs_0, semTs_1, semS_0, semS_1, semS_2, semS_3, semS_4, semS_5, semS_6, semS_7, semS_8, semS_9, semS_10, semS_11, semS_12, semS_13, semS_14, semS_15, semS_16, semS_17, semS_18, semS_19, semS_20, semS_21, semS_22, semS_23, semS_24, semSs_0, semSs_1, getV, peek, freeze, freeze1, keep, scalar, binD, addD, subD, mulD, fdivD, modD, powD, negD, augD, cmpB, eqB, truthD, boolR, biD, bi1, lenD, intD, mthD, itBi, it1, iterD, ixD, lstOf, ownAt, seqO_nx, seqO_rt, seqO_bk, seqO_ct, seqO_ex, seqO_no, R.ok_bind, rbind_ok, bindT_nm, bindT_tup, bindTs_nil, bindTs_cons, wipeE, hl, hx, o1, o2, o3, o4, o5, p5, hm]
theorem bt_pos_le {a b : Int} {m : Nat} (h0 : 0 ≤ a) (h : a ≤ b) (hb : bt b ≤ m) : bt a ≤ m := bt_abs (by omega) hb
theorem rangeL_0 (n : Nat) : rangeL 0 (n : Int) = (List.range n).map fun i : Nat => PySem.PyData.int (i : Int) := by
  unfold rangeL
  rw [show ((n : Int) - 0).toNat = n by omega]
  refine List.map_congr_left fun i _ => ?_
  rw [Int.zero_add]
theorem small_nat {n : Nat} (hn : n ≤ 10000) : smallI (n : Int) = true := by
  unfold smallI
  rw [Bool.and_eq_true, decide_eq_true_eq, decide_eq_true_eq]
  constructor <;> omega
theorem sl_lt {k : Nat} (h : k < 100000) : k < PySem.sizeLine := by
  rw [PySem.sizeLine_eq]
  omega
theorem pre_lt {α : Type} {pre post : List α} {x : α} {l : List α} (h : pre ++ x :: post = l) : pre.length < l.length := by
  have := congrArg List.length h
  simp at this
  omega
theorem num_end0 (T : Tab) (c n l : Int) (hsm : smallI n = true) (hc : c ≥ 1000000000000000000) (c' : Int) (xs : List Int) (k : SV)
    (h1 : forD (.nm 4) (semSs T b__law_numbers_0) (rangeL 0 n) [.val (.int c), .val (.int n), .val (.int l), .own [], .un, .un] = .ok (.nx [.val (.int c'), .val (.int n), .val (.int l), .own (xs.map .int), k, .un])) :
    runF T p__law_numbers [.int c, .int n, .int l] = .ok (.list (xs.map .int)) := by
  unfold runF p__law_numbers
  simp [runF, semE_0, semE_1, semE_2, semE_3, semE_4, semE_5, semE_6, semE_7, semE_8, semE_9, semE_10, semE_11, semE_12, semE_13, semE_14, semE_15, semE_16, semE_17, semE_18, semE_19, semE_20, semE_21, semE_22, semE_23, semE_24, semE_25, semE_26, semEs_0, semEs_1, semTs_0, semTs_1, semS_0, semS_1, semS_2, semS_3, semS_4, semS_5, semS_6, semS_7, semS_8, semS_9, semS_10, semS_11, semS_12, semS_13, semS_14, semS_15, semS_16, semS_17, semS_18, semS_19, semS_20, semS_21, semS_22, semS_23, semS_24, semSs_0, semSs_1, getV, peek, freeze, freeze1, keep, scalar, binD, addD, subD, mulD, fdivD, modD, powD, negD, augD, cmpB, eqB, truthD, boolR, biD, bi1, lenD, intD, mthD, itBi, it1, iterD, ixD, lstOf, ownAt, seqO_nx, seqO_rt, seqO_bk, seqO_ct, seqO_ex, seqO_no, R.ok_bind, rbind_ok, bindT_nm, bindT_tup, bindTs_nil, bindTs_cons, wipeE, rangeD, hsm, hc, h1]
theorem num_end1 (T : Tab) (c n l : Int) (hsm : smallI n = true) (hc : ¬ c ≥ 1000000000000000000) (xs : List Int) (k r : SV)
    (h1 : forD (.nm 4) (semSs T b__law_numbers_1) (rangeL 0 n) [.val (.int c), .val (.int n), .val (.int l), .own [], .un, .un] = .ok (.nx [.val (.int c), .val (.int n), .val (.int l), .own (xs.map .int), k, r])) :
    runF T p__law_numbers [.int c, .int n, .int l] = .ok (.list (xs.map .int)) := by
  unfold runF p__law_numbers
  simp [runF, semE_0, semE_1, semE_2, semE_3, semE_4, semE_5, semE_6, semE_7, semE_8, semE_9, semE_10, semE_11, semE_12, semE_13, semE_14, semE_15, semE_16, semE_17, semE_18, semE_19, semE_20, semE_21, semE_22, semE_23, semE_24, semE_25, semE_26, semEs_0, semEs_1, semTs_0, semTs_1, semS_0, semS_1, semS_2, semS_3, semS_4, semS_5, semS_6, semS_7, semS_8, semS_9, semS_10, semS_11, semS_12, semS_13, semS_14, semS_15, semS_16, semS_17, semS_18, semS_19, semS_20, semS_21, semS_22, semS_23, semS_24, semSs_0, semSs_1, getV, peek, freeze, freeze1, keep, scalar, binD, addD, subD, mulD, fdivD, modD, powD, negD, augD, cmpB, eqB, truthD, boolR, biD, bi1, lenD, intD, mthD, itBi, it1, iterD, ixD, lstOf, ownAt, seqO_nx, seqO_rt, seqO_bk, seqO_ct, seqO_ex, seqO_no, R.ok_bind, rbind_ok, bindT_nm, bindT_tup, bindTs_nil, bindTs_cons, wipeE, rangeD, hsm, hc, h1]
theorem emod_in (c : Int) {l : Int} (hl : 0 < l) : 0 ≤ c % l ∧ c % l < l := ⟨Int.emod_nonneg _ (by omega), Int.emod_lt_of_pos _ hl⟩
theorem mem_snoc {P : Int → Prop} {xs : List Int} {y : Int} (h : ∀ x ∈ xs, P x) (hy : P y) : ∀ x ∈ xs ++ [y], P x := fun z hz => by
  rcases List.mem_append.mp hz with hz | hz
  · exact h z hz
  · rw [List.mem_singleton.mp hz]
    exact hy
theorem num_loop0 (T : Tab) (c : Int) (n : Nat) (l : Int) (hn : n ≤ 10000) (hl : 0 < l) (hl2 : l < 2 ^ 60) :
    ∃ (c' : Int) (xs : List Int) (k : SV), forD (.nm 4) (semSs T b__law_numbers_0) (rangeL 0 n) [.val (.int c), .val (.int n), .val (.int l), .own [], .un, .un] = .ok (.nx [.val (.int c'), .val (.int n), .val (.int l), .own (xs.map .int), k, .un]) ∧ xs.length = n ∧ ∀ x ∈ xs, 0 ≤ x ∧ x < l := by
  have pl : ∀ z, PySem.Builtin.divisionGoesByPylong z l = false := fun z => noPy (bt_mono (bt_small (z := l) (by omega) (by omega)) (by decide))
  obtain ⟨e', h1, c', k', xs, h2, h3, h4⟩ := forD_inv (t := .nm 4) (b := semSs T b__law_numbers_0) (g := fun i : Nat => PySem.PyData.int (i : Int)) (fun pre env => ∃ c' k' xs, env = [.val (.int c'), .val (.int n), .val (.int l), .own (List.map .int xs), k', .un] ∧ xs.length = pre.length ∧ ∀ x ∈ xs, 0 ≤ x ∧ x < l)
      (l := List.range n) (ds := List.range n) (pre := []) (env := [.val (.int c), .val (.int n), .val (.int l), .own [], .un, .un]) ⟨c, .un, [], rfl, rfl, fun _ h => by cases h⟩ rfl (by
        rintro pre x post env he ⟨c', k', xs, rfl, h1, h2⟩
        have hx := pre_lt he
        rw [List.length_range] at hx
        refine ⟨[.val (.int c'), .val (.int n), .val (.int l), .own (List.map .int xs), .val (.int x), .un], _, rfl, num0 T c' n l xs _ .un hl (pl _) (sl_lt (by omega)), _, _, _, rfl, ?_, mem_snoc h2 (emod_in _ hl)⟩
        rw [List.length_append, List.length_append, h1]; rfl)
  subst h2
  rw [← rangeL_0] at h1
  exact ⟨c', xs, k', h1, by rw [h3, List.length_range], h4⟩
theorem num_loop1 (T : Tab) (c : Int) (n : Nat) (l : Int) (hn : n ≤ 10000) (hl : 0 < l) (hl2 : l < 2 ^ 60) :
    ∃ (xs : List Int) (k r : SV), forD (.nm 4) (semSs T b__law_numbers_1) (rangeL 0 n) [.val (.int c), .val (.int n), .val (.int l), .own [], .un, .un] = .ok (.nx [.val (.int c), .val (.int n), .val (.int l), .own (xs.map .int), k, r]) ∧ xs.length = n ∧ ∀ x ∈ xs, 0 ≤ x ∧ x < l := by
  obtain ⟨e', h1, k', r', xs, h2, h3, h4⟩ := forD_inv (t := .nm 4) (b := semSs T b__law_numbers_1) (g := fun i : Nat => PySem.PyData.int (i : Int)) (fun pre env => ∃ k' r' xs, env = [.val (.int c), .val (.int n), .val (.int l), .own (List.map .int xs), k', r'] ∧ xs.length = pre.length ∧ ∀ x ∈ xs, 0 ≤ x ∧ x < l)
      (l := List.range n) (ds := List.range n) (pre := []) (env := [.val (.int c), .val (.int n), .val (.int l), .own [], .un, .un]) ⟨.un, .un, [], rfl, rfl, fun _ h => by cases h⟩ rfl (by
        rintro pre x post env he ⟨k', r', xs, rfl, h1, h2⟩
        have hx := pre_lt he
        rw [List.length_range] at hx
        have hx2 : x < n := List.mem_range.mp (by rw [← he]; simp)
        obtain ⟨r2, y, e1, e2⟩ := num1 T c n l x xs r' hl (sl_lt (by omega)) (by omega) hl2
        refine ⟨[.val (.int c), .val (.int n), .val (.int l), .own (List.map .int xs), .val (.int x), r'], _, rfl, e1, _, _, _, rfl, ?_, mem_snoc h2 e2⟩
        rw [List.length_append, List.length_append, h1]; rfl)
  subst h2
  rw [← rangeL_0] at h1
  exact ⟨xs, k', r', h1, by rw [h3, List.length_range], h4⟩
theorem numbers_eq (T : Tab) (c : Int) (n : Nat) (l : Int) (hn : n ≤ 10000) (hl : 0 < l) (hl2 : l < 2 ^ 60) :
    ∃ xs : List Int, runF T p__law_numbers [.int c, .int n, .int l] = .ok (.list (xs.map .int)) ∧ xs.length = n ∧ ∀ x ∈ xs, 0 ≤ x ∧ x < l := by
  by_cases hc : c ≥ 1000000000000000000
  · obtain ⟨c', xs, k, h1, h2, h3⟩ := num_loop0 T c n l hn hl hl2
    exact ⟨xs, num_end0 T c n l (small_nat hn) hc c' xs k h1, h2, h3⟩
  · obtain ⟨xs, k, r, h1, h2, h3⟩ := num_loop1 T c n l hn hl hl2
    exact ⟨xs, num_end1 T c n l (small_nat hn) hc xs k r h1, h2, h3⟩
/-! _law_power -/
theorem lpow_step (T : Tab) (b n p x : Int) (o : PySem.IntMulOk p b) : semSs T b__law_power_0 [.val (.int b), .val (.int n), .val (.int p), .val (.int x)] = .ok (.nx [.val (.int b), .val (.int n), .val (.int (p * b)), .val (.int x)]) := by
  simp [b__law_power_0, runF, semE_0, semE_1, semE_2, semE_3, semE_4, semE_5, semE_6, semE_7, semE_8, semE_9, semE_10, semE_11, semE_12, semE_13, semE_14, semE_15, semE_16, semE_17, semE_18, semE_19, semE_20, semE_21, semE_22, semE_23, semE_24, semE_25, semE_26, semEs_0, semEs_1, semTs_0, semTs_1, semS_0, semS_1, semS_2, semS_3, semS_4, semS_5, semS_6, semS_7, semS_8, semS_9, semS_10, semS_11, semS_12, semS_13, semS_14, semS_15, semS_16, semS_17, semS_18, semS_19, semS_20, semS_21, semS_22, semS_23, semS_24, semSs_0, semSs_1, getV, peek, freeze, freeze1, keep, scalar, binD, addD, subD, mulD, fdivD, modD, powD, negD, augD, cmpB, eqB, truthD, boolR, biD, bi1, lenD, intD, mthD, itBi, it1, iterD, ixD, lstOf, ownAt, seqO_nx, seqO_rt, seqO_bk, seqO_ct, seqO_ex, seqO_no, R.ok_bind, rbind_ok, bindT_nm, bindT_tup, bindTs_nil, bindTs_cons, wipeE, o]
theorem lpow_end (T : Tab) (b n : Int) (hsm : smallI n = true) (p : Int) (k : SV) (h1 : forD (.nm 3) (semSs T b__law_power_0) (rangeL 0 n) [.val (.int b), .val (.int n), .val (.int 1), .un] = .ok (.nx [.val (.int b), .val (.int n), .val (.int p), k])) :
    runF T p__law_power [.int b, .int n] = .ok (.int p) := by
  unfold runF p__law_power
  simp [runF, semE_0, semE_1, semE_2, semE_3, semE_4, semE_5, semE_6, semE_7, semE_8, semE_9, semE_10, semE_11, semE_12, semE_13, semE_14, semE_15, semE_16, semE_17, semE_18, semE_19, semE_20, semE_21, semE_22, semE_23, semE_24, semE_25, semE_26, semEs_0, semEs_1, semTs_0, semTs_1, semS_0, semS_1, semS_2, semS_3, semS_4, semS_5, semS_6, semS_7, semS_8, semS_9, semS_10, semS_11, semS_12, semS_13, semS_14, semS_15, semS_16, semS_17, semS_18, semS_19, semS_20, semS_21, semS_22, semS_23, semS_24, semSs_0, semSs_1, getV, peek, freeze, freeze1, keep, scalar, binD, addD, subD, mulD, fdivD, modD, powD, negD, augD, cmpB, eqB, truthD, boolR, biD, bi1, lenD, intD, mthD, itBi, it1, iterD, ixD, lstOf, ownAt, seqO_nx, seqO_rt, seqO_bk, seqO_ct, seqO_ex, seqO_no, R.ok_bind, rbind_ok, bindT_nm, bindT_tup, bindTs_nil, bindTs_cons, wipeE, rangeD, hsm, h1]
theorem lpow_loop (T : Tab) (b : Int) (n m : Nat) (hb : bt b ≤ m) (hm : m * n ≤ 1000000) : ∃ k', forD (.nm 3) (semSs T b__law_power_0) (rangeL 0 n) [.val (.int b), .val (.int n), .val (.int 1), .un] = .ok (.nx [.val (.int b), .val (.int n), .val (.int (b ^ n)), k']) := by
  obtain ⟨e', h1, k', h2⟩ := forD_inv (t := .nm 3) (b := semSs T b__law_power_0) (g := fun i : Nat => PySem.PyData.int (i : Int)) (fun pre env => ∃ k', env = [.val (.int b), .val (.int n), .val (.int (b ^ pre.length)), k'])
      (l := List.range n) (ds := List.range n) (pre := []) (env := [.val (.int b), .val (.int n), .val (.int 1), .un]) ⟨.un, by simp⟩ rfl (by
        rintro pre x post env he ⟨k', rfl⟩
        have hx := pre_lt he
        rw [List.length_range] at hx
        have o : PySem.IntMulOk (b ^ pre.length) b := mulOk (m := m * pre.length + 1) (n := m) (PySem.intBits_pow_le hb _) hb (by
          have : m * pre.length ≤ m * n := Nat.mul_le_mul_left m (by omega)
          have : m * 1 ≤ m * n := Nat.mul_le_mul_left m (by omega)
          omega)
        refine ⟨[.val (.int b), .val (.int n), .val (.int (b ^ pre.length)), .val (.int x)], _, rfl, lpow_step T b n _ x o, .val (.int x), ?_⟩
        simp [Int.pow_succ])
  subst h2
  rw [← rangeL_0] at h1
  exact ⟨k', by simpa using h1⟩
theorem lpow_eq (T : Tab) (b : Int) (n m : Nat) (hb : bt b ≤ m) (hn : n ≤ 10000) (hm : m * n ≤ 1000000) : runF T p__law_power [.int b, .int n] = .ok (.int (b ^ n)) := by
  obtain ⟨k, h⟩ := lpow_loop T b n m hb hm
  exact lpow_end T b n (small_nat hn) _ k h
end G

/-! the plain law of pairs -/
namespace G
theorem div_iff {a q P : Int} (hP : 0 < P) : a / P = q ↔ q * P ≤ a ∧ a < (q + 1) * P := by
  constructor
  · rintro rfl
    exact ⟨Int.ediv_mul_le _ (by omega), Int.lt_ediv_add_one_mul_self _ hP⟩
  · rintro ⟨h1, h2⟩
    exact Int.le_antisymm (Int.lt_add_one_iff.mp (Int.ediv_lt_of_lt_mul hP h2)) (Int.le_ediv_of_mul_le hP h1)
theorem pos_of_mul {a b : Int} (hb : 0 < b) (h : 0 < b * a) : 0 < a := by
  rcases Int.lt_or_le 0 a with k | k
  · exact k
  · have := Int.mul_le_mul_of_nonneg_left k (Int.le_of_lt hb)
    rw [Int.mul_zero] at this
    omega
def lastp (c most : Int) : Int := if most ≥ c - 1 then most - (most + 1) % c else most
def probes (c most : Int) : List Int := if c ≤ most then Y.sortI (if c = lastp c most then [c] else [c, lastp c most]) else [lastp c most]
def dAt (c m : Int) (s : Nat) (x : Int) : Bool := decide (x / c = x * m / 2 ^ s)
def dv (c most m : Int) (s : Nat) : Bool := (probes c most).all (dAt c m s)
def lf (c : Int) (s : Nat) : Int := -(-(2 ^ s) / c)
theorem two_pos (s : Nat) : (0 : Int) < 2 ^ s := Int.pow_pos (by decide)
theorem mem_probes {c most x : Int} : x ∈ probes c most ↔ x = lastp c most ∨ (c ≤ most ∧ x = c) := by
  unfold probes
  by_cases h : c ≤ most
  · rw [if_pos h, (Y.sortI_perm _).mem_iff]
    by_cases h2 : c = lastp c most
    · rw [if_pos h2, List.mem_singleton]
      constructor
      · exact fun e => .inr ⟨h, e⟩
      · rintro (e | e)
        · rw [e, ← h2]
        · exact e.2
    · rw [if_neg h2]
      simp only [List.mem_cons, List.not_mem_nil, or_false]
      constructor
      · rintro (e | e)
        · exact .inr ⟨h, e⟩
        · exact .inl e
      · rintro (e | e)
        · exact .inr e
        · exact .inl e.2
  · rw [if_neg h, List.mem_singleton]
    constructor
    · exact .inl
    · rintro (e | e)
      · exact e
      · exact absurd e.1 h
theorem dv_iff {c most m : Int} {s : Nat} : dv c most m s = true ↔ dAt c m s (lastp c most) = true ∧ (c ≤ most → dAt c m s c = true) := by
  unfold dv
  rw [List.all_eq_true]
  constructor
  · exact fun h => ⟨h _ (mem_probes.mpr (.inl rfl)), fun hc => h _ (mem_probes.mpr (.inr ⟨hc, rfl⟩))⟩
  · rintro ⟨h1, h2⟩ x hx
    rcases mem_probes.mp hx with rfl | ⟨h3, rfl⟩
    · exact h1
    · exact h2 h3
theorem dAt_iff {c m x : Int} {s : Nat} : dAt c m s x = true ↔ (x / c) * 2 ^ s ≤ x * m ∧ x * m < (x / c + 1) * 2 ^ s := by
  unfold dAt
  rw [decide_eq_true_eq, eq_comm]
  exact div_iff (two_pos s)
/-- the last probe -/
theorem last_eq {c most : Int} (hc : 1 ≤ c) (h : c ≤ most) : ∃ q : Int, 0 ≤ q ∧ lastp c most = c * q + c - 1 ∧ lastp c most / c = q ∧ lastp c most ≤ most ∧ most < lastp c most + c ∧ 0 ≤ lastp c most := by
  have e : lastp c most = most - (most + 1) % c := if_pos (by omega)
  have h1 := Int.emod_nonneg (most + 1) (show c ≠ 0 by omega)
  have h2 := Int.emod_lt_of_pos (most + 1) (show 0 < c by omega)
  have h3 := Int.mul_ediv_add_emod (most + 1) c
  refine ⟨(most + 1) / c - 1, ?_, ?_, ?_, by omega, by omega, by omega⟩
  · have : 1 ≤ (most + 1) / c := Int.le_ediv_of_mul_le (by omega) (by omega)
    omega
  · rw [e, Int.mul_sub]; omega
  · have e2 : lastp c most = c * ((most + 1) / c - 1) + c - 1 := by rw [e, Int.mul_sub]; omega
    rw [e2, div_iff (by omega)]
    constructor
    · rw [Int.mul_comm]; omega
    · rw [Int.add_mul, Int.mul_comm]; omega
/-- what two probes show -/
theorem dv_facts {c most m : Int} {s : Nat} (hc : 1 ≤ c) (h : c ≤ most) (hd : dv c most m s = true) : 2 ^ s ≤ c * m ∧ 0 < m ∧ ∃ q, 0 ≤ q ∧ lastp c most = c * q + c - 1 ∧ most < lastp c most + c ∧ (q + 1) * (c * m - 2 ^ s) < m := by
  obtain ⟨h1, h2⟩ := dv_iff.mp hd
  have h2 := dAt_iff.mp (h2 h)
  rw [dAt_iff] at h1
  obtain ⟨q, q0, e1, e2, e3, e4, e5⟩ := last_eq hc h
  rw [Int.ediv_self (by omega), Int.one_mul] at h2
  have hP := two_pos s
  have hm : 0 < m := pos_of_mul (b := c) (by omega) (by omega)
  refine ⟨h2.1, hm, q, q0, e1, e4, ?_⟩
  have h3 := h1.2
  rw [e2, e1] at h3
  generalize (2 : Int) ^ s = P at *
  have : (c * q + c - 1) * m = (q + 1) * (c * m) - m := by grind
  have : (q + 1) * (c * m - P) = (q + 1) * (c * m) - (q + 1) * P := by rw [Int.mul_sub]
  omega
theorem dv_of {c most m : Int} {s : Nat} (hc : 1 ≤ c) (h : c ≤ most) (h1 : 2 ^ s ≤ c * m) (h3 : ∀ q, 0 ≤ q → lastp c most = c * q + c - 1 → (q + 1) * (c * m - 2 ^ s) < m) : (∀ x, 0 ≤ x → x ≤ most → dAt c m s x = true) := by
  obtain ⟨q, q0, e1, e2, e3, e4, e5⟩ := last_eq hc h
  have h3 := h3 q q0 e1
  intro x hx hxm
  rw [dAt_iff]
  have hP := two_pos s
  generalize (2 : Int) ^ s = P at *
  have hm : 0 < m := pos_of_mul (b := c) (by omega) (by omega)
  have x1 := Int.mul_ediv_add_emod x c
  have x2 := Int.emod_nonneg x (show c ≠ 0 by omega)
  have x3 := Int.emod_lt_of_pos x (show 0 < c by omega)
  have x4 : 0 ≤ x / c := Int.ediv_nonneg hx (by omega)
  generalize x / c = t at *
  generalize x % c = r at *
  obtain ⟨e, he⟩ : ∃ e, e = c * m - P := ⟨_, rfl⟩
  have he0 : 0 ≤ e := by omega
  rw [← he] at h3
  have ex : x * m = t * P + t * e + r * m := by rw [← x1, he]; grind
  have te : 0 ≤ t * e := Int.mul_nonneg x4 he0
  have rm : 0 ≤ r * m := Int.mul_nonneg x2 (by omega)
  have e7 : (t + 1) * P = t * P + P := by grind
  refine ⟨by omega, ?_⟩
  by_cases ht : t ≤ q
  · have r1 : r * m ≤ (c - 1) * m := Int.mul_le_mul_of_nonneg_right (by omega) (by omega)
    have r2 : (c - 1) * m = P + e - m := by rw [he]; grind
    have t1 : (t + 1) * e ≤ (q + 1) * e := Int.mul_le_mul_of_nonneg_right (by omega) he0
    have t2 : (t + 1) * e = t * e + e := by grind
    omega
  · have ht2 : t = q + 1 := by
      have : c * t < c * (q + 2) := by
        have : c * (q + 2) = c * q + c + c := by grind
        omega
      have := Int.lt_of_mul_lt_mul_left this (by omega)
      omega
    have hr : r ≤ c - 2 := by
      have : c * t = c * q + c := by rw [ht2]; grind
      omega
    have r1 : r * m ≤ (c - 2) * m := Int.mul_le_mul_of_nonneg_right hr (by omega)
    have r2 : (c - 2) * m = P + e - m - m := by rw [he]; grind
    have t2 : t * e = (q + 1) * e := by rw [ht2]
    have t3 : e ≤ (q + 1) * e := by
      have : 1 * e ≤ (q + 1) * e := Int.mul_le_mul_of_nonneg_right (by omega) he0
      omega
    omega
theorem dv_all {c most m : Int} {s : Nat} (hc : 1 ≤ c) (h : c ≤ most) (hd : dv c most m s = true) {x : Int} (h0 : 0 ≤ x) (h1 : x ≤ most) : dAt c m s x = true := by
  obtain ⟨f1, f2, q, q0, e1, e4, f3⟩ := dv_facts hc h hd
  refine dv_of hc h f1 (fun q' _ e' => ?_) x h0 h1
  have : c * q' = c * q := by omega
  have : q' = q := Int.eq_of_mul_eq_mul_left (by omega) this
  rw [this]
  exact f3
theorem dv_from {c most m : Int} {s : Nat} (hc : 1 ≤ c) (h : c ≤ most) (h1 : 2 ^ s ≤ c * m) (h3 : ∀ q, 0 ≤ q → lastp c most = c * q + c - 1 → (q + 1) * (c * m - 2 ^ s) < m) : dv c most m s = true := by
  obtain ⟨q, q0, e1, e2, e3, e4, e5⟩ := last_eq hc h
  have := dv_of hc h h1 h3
  exact dv_iff.mpr ⟨this _ e5 e3, fun _ => this _ (by omega) h⟩
/-- the least factor -/
theorem lf_facts {c : Int} (hc : 1 ≤ c) (s : Nat) : 2 ^ s ≤ c * lf c s ∧ c * (lf c s - 1) < 2 ^ s ∧ 0 < lf c s ∧ lf c s ≤ 2 ^ s := by
  unfold lf
  have hP := two_pos s
  generalize (2 : Int) ^ s = P at *
  have h1 := Int.mul_ediv_add_emod (-P) c
  have h2 := Int.emod_nonneg (-P) (show c ≠ 0 by omega)
  have h3 := Int.emod_lt_of_pos (-P) (show 0 < c by omega)
  generalize -P / c = t at *
  have a1 : c * -t = -(c * t) := by grind
  have a2 : c * (-t - 1) = -(c * t) - c := by grind
  have a3 : 0 < -t := pos_of_mul (b := c) (by omega) (by omega)
  refine ⟨by omega, by omega, a3, ?_⟩
  have a4 : 1 * (-t - 1) ≤ c * (-t - 1) := Int.mul_le_mul_of_nonneg_right hc (by omega)
  omega
theorem lf_uniq {c : Int} (hc : 1 ≤ c) {s : Nat} {m : Int} (h1 : 2 ^ s ≤ c * m) (h2 : c * (m - 1) < 2 ^ s) : m = lf c s := by
  obtain ⟨f1, f2, _, _⟩ := lf_facts hc s
  have a1 : c * (m - 1) < c * lf c s := by omega
  have a2 : c * (lf c s - 1) < c * m := by omega
  have := Int.lt_of_mul_lt_mul_left a1 (by omega)
  have := Int.lt_of_mul_lt_mul_left a2 (by omega)
  omega
theorem dv_step {c most : Int} {s : Nat} (hc : 1 ≤ c) (h : c ≤ most) (hd : dv c most (lf c s) s = true) : dv c most (lf c (s + 1)) (s + 1) = true := by
  obtain ⟨f1, f2, q, q0, e1, e4, f3⟩ := dv_facts hc h hd
  obtain ⟨g1, g2, g3, _⟩ := lf_facts hc (s + 1)
  obtain ⟨g1', g2', g3', _⟩ := lf_facts hc s
  refine dv_from hc h g1 fun q' _ e' => ?_
  have : c * q' = c * q := by omega
  have : q' = q := Int.eq_of_mul_eq_mul_left (by omega) this
  rw [this]
  have e2 : (2 : Int) ^ (s + 1) = 2 * 2 ^ s := by rw [Int.pow_succ, Int.mul_comm]
  rw [e2] at g1 g2 ⊢
  have hP := two_pos s
  generalize (2 : Int) ^ s = P at *
  generalize lf c (s + 1) = m' at *
  generalize lf c s = m at *
  have b1 : c * (m' - 1) < c * (2 * m) := by
    have : c * (2 * m) = 2 * (c * m) := by grind
    omega
  have b1 := Int.lt_of_mul_lt_mul_left b1 (by omega)
  have b2 : c * (2 * (m - 1)) < c * m' := by
    have : c * (2 * (m - 1)) = 2 * (c * (m - 1)) := by grind
    omega
  have b2 := Int.lt_of_mul_lt_mul_left b2 (by omega)
  rcases (show m' = 2 * m ∨ m' = 2 * m - 1 by omega) with rfl | rfl
  · have : (q + 1) * (c * (2 * m) - 2 * P) = 2 * ((q + 1) * (c * m - P)) := by grind
    omega
  · have k1 : (q + 1) * (c * (2 * m - 1) - 2 * P) = 2 * ((q + 1) * (c * m - P)) - (q + 1) * c := by grind
    have k2 : 1 * c ≤ (q + 1) * c := Int.mul_le_mul_of_nonneg_right (by omega) (by omega)
    omega
theorem dv_far {c most : Int} {s : Nat} (hc : 1 ≤ c) (h : c ≤ most) (hs : c * (most + 1) < 2 ^ s) : dv c most (lf c s) s = true := by
  obtain ⟨g1, g2, g3, _⟩ := lf_facts hc s
  obtain ⟨_, _, e1', _, e3, _, _⟩ := last_eq hc h
  refine dv_from hc h g1 fun q q0 e1 => ?_
  generalize lf c s = m at *
  generalize (2 : Int) ^ s = P at *
  have a1 : (q + 1) * (c * m - P) ≤ (q + 1) * (c - 1) := Int.mul_le_mul_of_nonneg_left (by
    have : c * (m - 1) = c * m - c := by grind
    omega) (by omega)
  have a2 : (q + 1) * (c - 1) = c * q + c - 1 - q := by grind
  have a3 : c * (most + 1) < c * m := by omega
  have a3 := Int.lt_of_mul_lt_mul_left a3 (by omega)
  omega
/-- the first shift that does -/
structure Least (c most : Int) (s : Nat) : Prop where
  at_ : dv c most (lf c s) s = true
  lt : ∀ t, t < s → dv c most (lf c t) t = false
theorem least_ge {c most : Int} (hc : 1 ≤ c) (h : c ≤ most) {s : Nat} (L : Least c most s) : ∀ t, s ≤ t → dv c most (lf c t) t = true := by
  intro t ht
  induction t with
  | zero => rw [show (0 : Nat) = s by omega]; exact L.at_
  | succ t ih =>
    by_cases e : s = t + 1
    · rw [← e]; exact L.at_
    · exact dv_step hc h (ih (by omega))
/-- the judge's answer -/
def judge (c most m : Int) (s : Nat) : Bool := if most < c then decide (m = 0) && decide (s = 0) else if !(dv c most m s) || decide (c * (m - 1) ≥ 2 ^ s) then false else decide (s = 0) || !(dv c most (lf c (s - 1)) (s - 1))
theorem judge_eq {c most : Int} (hc : 1 ≤ c) (h : c ≤ most) {s : Nat} (L : Least c most s) (m : Int) (t : Nat) : judge c most m t = true ↔ m = lf c s ∧ t = s := by
  unfold judge
  rw [if_neg (by omega)]
  constructor
  · intro e
    split at e
    · cases e
    · rename_i hn
      simp only [Bool.or_eq_true, Bool.not_eq_true', decide_eq_true_eq, not_or, Bool.not_eq_false, Int.not_le, ge_iff_le] at hn
      obtain ⟨f1, f2, q, q0, e1, e4, f3⟩ := dv_facts hc h hn.1
      have em := lf_uniq hc f1 hn.2
      have ht : t = s := by
        rcases Nat.lt_trichotomy t s with k | k | k
        · have := L.lt t k
          rw [← em, hn.1] at this
          cases this
        · exact k
        · rw [Bool.or_eq_true, decide_eq_true_eq] at e
          rcases e with e | e
          · omega
          · rw [least_ge hc h L (t - 1) (by omega)] at e
            cases e
      exact ⟨by rw [em, ht], ht⟩
  · rintro ⟨rfl, rfl⟩
    obtain ⟨g1, g2, g3, _⟩ := lf_facts hc t
    rw [L.at_]
    have : ¬ (c * (lf c t - 1) ≥ 2 ^ t) := by omega
    rw [decide_eq_false this]
    simp only [Bool.not_true, Bool.or_false, Bool.false_eq_true, if_false, Bool.or_eq_true, decide_eq_true_eq, Bool.not_eq_true']
    by_cases h0 : t = 0
    · exact .inl h0
    · exact .inr (L.lt _ (by omega))
end G

namespace G
open Y
theorem bt_two_pow (s : Nat) : bt ((2 : Int) ^ s) ≤ s + 1 := by
  apply bt_le
  rw [Int.natAbs_pow]
  exact Nat.pow_lt_pow_right (by decide) (by omega)
theorem raised_two (T : Tab) (s : Nat) (hs : s ≤ 4000) : runF T p_raised [.int 2, .int s] = .ok (.int (2 ^ s)) := raised_eq T s 2 2 (by decide) (by omega)
theorem divides_at_eq {c m x : Int} {s : Nat} (hc : 1 ≤ c) (hcb : bt c ≤ 4000) (hm : bt m ≤ 5000) (hx : bt x ≤ 5000) (hs : s ≤ 4000) : s_divides_at [.int c, .int m, .int s, .int x] = .ok (.bool (dAt c m s x)) := by
  have e : t_divides_at.fn "raised" [.int 2, .int s] = .ok (.int (2 ^ s)) := raised_two _ s hs
  have o : PySem.IntMulOk x m := mulOk hx hm (by omega)
  have p1 : PySem.Builtin.divisionGoesByPylong x c = false := noPy (bt_mono hcb (by omega))
  have p2 : PySem.Builtin.divisionGoesByPylong (x * m) (2 ^ s) = false := noPy (bt_mono (bt_two_pow s) (by omega))
  have c0 : 0 < c := by omega
  have h2 := two_pos s
  unfold s_divides_at runF p_divides_at
  simp [runF, semE_0, semE_1, semE_2, semE_3, semE_4, semE_5, semE_6, semE_7, semE_8, semE_9, semE_10, semE_11, semE_12, semE_13, semE_14, semE_15, semE_16, semE_17, semE_18, semE_19, semE_20, semE_21, semE_22, semE_23, semE_24, semE_25, semE_26, semEs_0, semEs_1, semTs_0, semTs_1, semS_0, semS_1, semS_2, semS_3, semS_4, semS_5, semS_6, semS_7, semS_8, semS_9, semS_10, semS_11, semS_12, semS_13, semS_14, semS_15, semS_16, semS_17, semS_18, semS_19, semS_20, semS_21, semS_22, semS_23, semS_24, semSs_0, semSs_1, getV, peek, freeze, freeze1, keep, scalar, binD, addD, subD, mulD, fdivD, modD, powD, negD, augD, cmpB, eqB, truthD, boolR, biD, bi1, lenD, intD, mthD, itBi, it1, iterD, ixD, lstOf, ownAt, seqO_nx, seqO_rt, seqO_bk, seqO_ct, seqO_ex, seqO_no, R.ok_bind, rbind_ok, bindT_nm, bindT_tup, bindTs_nil, bindTs_cons, wipeE, e, o, p1, p2, c0, h2, dAt]
theorem least_factor_eq {c : Int} {s : Nat} (hc : 1 ≤ c) (hcb : bt c ≤ 4000) (hs : s ≤ 4000) : s_least_factor [.int c, .int s] = .ok (.int (lf c s)) := by
  have e : t_least_factor.fn "raised" [.int 2, .int s] = .ok (.int (2 ^ s)) := raised_two _ s hs
  have p1 : PySem.Builtin.divisionGoesByPylong (-2 ^ s) c = false := noPy (bt_mono hcb (by omega))
  have c0 : 0 < c := by omega
  unfold s_least_factor runF p_least_factor
  simp [runF, semE_0, semE_1, semE_2, semE_3, semE_4, semE_5, semE_6, semE_7, semE_8, semE_9, semE_10, semE_11, semE_12, semE_13, semE_14, semE_15, semE_16, semE_17, semE_18, semE_19, semE_20, semE_21, semE_22, semE_23, semE_24, semE_25, semE_26, semEs_0, semEs_1, semTs_0, semTs_1, semS_0, semS_1, semS_2, semS_3, semS_4, semS_5, semS_6, semS_7, semS_8, semS_9, semS_10, semS_11, semS_12, semS_13, semS_14, semS_15, semS_16, semS_17, semS_18, semS_19, semS_20, semS_21, semS_22, semS_23, semS_24, semSs_0, semSs_1, getV, peek, freeze, freeze1, keep, scalar, binD, addD, subD, mulD, fdivD, modD, powD, negD, augD, cmpB, eqB, truthD, boolR, biD, bi1, lenD, intD, mthD, itBi, it1, iterD, ixD, lstOf, ownAt, seqO_nx, seqO_rt, seqO_bk, seqO_ct, seqO_ex, seqO_no, R.ok_bind, rbind_ok, bindT_nm, bindT_tup, bindTs_nil, bindTs_cons, wipeE, e, p1, c0, lf]
theorem probes_for_eq {c most : Int} (hc : 1 ≤ c) : s_probes_for [.int c, .int most] = .ok (.list ((probes c most).map .int)) := by
  have c0 : 0 < c := by omega
  unfold s_probes_for runF p_probes_for probes lastp
  by_cases h1 : most ≥ c - 1
  · by_cases h2 : c ≤ most
    · simp [runF, semE_0, semE_1, semE_2, semE_3, semE_4, semE_5, semE_6, semE_7, semE_8, semE_9, semE_10, semE_11, semE_12, semE_13, semE_14, semE_15, semE_16, semE_17, semE_18, semE_19, semE_20, semE_21, semE_22, semE_23, semE_24, semE_25, semE_26, semEs_0, semEs_1, semTs_0, semTs_1, semS_0, semS_1, semS_2, semS_3, semS_4, semS_5, semS_6, semS_7, semS_8, semS_9, semS_10, semS_11, semS_12, semS_13, semS_14, semS_15, semS_16, semS_17, semS_18, semS_19, semS_20, semS_21, semS_22, semS_23, semS_24, semSs_0, semSs_1, getV, peek, freeze, freeze1, keep, scalar, binD, addD, subD, mulD, fdivD, modD, powD, negD, augD, cmpB, eqB, truthD, boolR, biD, bi1, lenD, intD, mthD, itBi, it1, iterD, ixD, lstOf, ownAt, seqO_nx, seqO_rt, seqO_bk, seqO_ct, seqO_ex, seqO_no, R.ok_bind, rbind_ok, bindT_nm, bindT_tup, bindTs_nil, bindTs_cons, wipeE, c0, h1, h2, pairSetD]
    · simp [runF, semE_0, semE_1, semE_2, semE_3, semE_4, semE_5, semE_6, semE_7, semE_8, semE_9, semE_10, semE_11, semE_12, semE_13, semE_14, semE_15, semE_16, semE_17, semE_18, semE_19, semE_20, semE_21, semE_22, semE_23, semE_24, semE_25, semE_26, semEs_0, semEs_1, semTs_0, semTs_1, semS_0, semS_1, semS_2, semS_3, semS_4, semS_5, semS_6, semS_7, semS_8, semS_9, semS_10, semS_11, semS_12, semS_13, semS_14, semS_15, semS_16, semS_17, semS_18, semS_19, semS_20, semS_21, semS_22, semS_23, semS_24, semSs_0, semSs_1, getV, peek, freeze, freeze1, keep, scalar, binD, addD, subD, mulD, fdivD, modD, powD, negD, augD, cmpB, eqB, truthD, boolR, biD, bi1, lenD, intD, mthD, itBi, it1, iterD, ixD, lstOf, ownAt, seqO_nx, seqO_rt, seqO_bk, seqO_ct, seqO_ex, seqO_no, R.ok_bind, rbind_ok, bindT_nm, bindT_tup, bindTs_nil, bindTs_cons, wipeE, c0, h1, h2, PySem.sizeLine_eq]
  · have h2 : ¬ c ≤ most := by omega
    have h3 : ¬ c - 1 ≤ most := by omega
    simp [runF, semE_0, semE_1, semE_2, semE_3, semE_4, semE_5, semE_6, semE_7, semE_8, semE_9, semE_10, semE_11, semE_12, semE_13, semE_14, semE_15, semE_16, semE_17, semE_18, semE_19, semE_20, semE_21, semE_22, semE_23, semE_24, semE_25, semE_26, semEs_0, semEs_1, semTs_0, semTs_1, semS_0, semS_1, semS_2, semS_3, semS_4, semS_5, semS_6, semS_7, semS_8, semS_9, semS_10, semS_11, semS_12, semS_13, semS_14, semS_15, semS_16, semS_17, semS_18, semS_19, semS_20, semS_21, semS_22, semS_23, semS_24, semSs_0, semSs_1, getV, peek, freeze, freeze1, keep, scalar, binD, addD, subD, mulD, fdivD, modD, powD, negD, augD, cmpB, eqB, truthD, boolR, biD, bi1, lenD, intD, mthD, itBi, it1, iterD, ixD, lstOf, ownAt, seqO_nx, seqO_rt, seqO_bk, seqO_ct, seqO_ex, seqO_no, R.ok_bind, rbind_ok, bindT_nm, bindT_tup, bindTs_nil, bindTs_cons, wipeE, c0, h3, h2, PySem.sizeLine_eq]
theorem compD_map {α : Type} {f : D → R (Option D)} {h k : α → D} : ∀ {xs : List α}, (∀ x ∈ xs, f (h x) = .ok (some (k x))) → compD f (xs.map h) = .ok (xs.map k)
  | [], _ => rfl
  | x :: xs, e => by
    show (f (h x)).bind _ = _
    rw [e x (by simp), R.bind, compD_map fun y hy => e y (by simp [hy])]
    rfl
theorem boolsOf_map {α : Type} (g : α → Bool) : ∀ xs : List α, boolsOf (xs.map fun x => PySem.PyData.bool (g x)) = some (xs.map g)
  | [] => rfl
  | x :: xs => by
    show (boolsOf (xs.map fun x => PySem.PyData.bool (g x))).map _ = _
    rw [boolsOf_map g xs]
    rfl
theorem probes_length (c most : Int) : (probes c most).length ≤ 2 := by
  unfold probes
  split
  · rw [(sortI_perm _).length_eq]
    split <;> simp
  · simp
theorem bt_nat {x y : Int} {m : Nat} (h0 : 0 ≤ x) (h : x ≤ y) (hy : bt y ≤ m) : bt x ≤ m := bt_abs (by omega) hy
theorem last_in {c most : Int} (hc : 1 ≤ c) (h : 0 ≤ most) : 0 ≤ lastp c most ∧ lastp c most ≤ most := by
  unfold lastp
  split
  · have h1 := Int.emod_nonneg (most + 1) (show c ≠ 0 by omega)
    have h2 := Int.emod_lt_of_pos (most + 1) (show 0 < c by omega)
    refine ⟨?_, by omega⟩
    rcases Int.lt_or_le most c with k | k
    · have : most + 1 = c := by omega
      rw [this, Int.emod_self]; omega
    · omega
  · omega
theorem probes_in {c most : Int} (hc : 1 ≤ c) (h : 0 ≤ most) : ∀ x ∈ probes c most, 0 ≤ x ∧ x ≤ most := by
  intro x hx
  rcases mem_probes.mp hx with rfl | ⟨k, rfl⟩
  · exact last_in hc h
  · omega
theorem divides_eq {c most m : Int} {s : Nat} (hc : 1 ≤ c) (h0 : 0 ≤ most) (hcb : bt c ≤ 4000) (hmb : bt most ≤ 5000) (hm : bt m ≤ 5000) (hs : s ≤ 4000) : s_divides [.int c, .int most, .int m, .int s] = .ok (.bool (dv c most m s)) := by
  have e1 : t_divides.fn "probes_for" [.int c, .int most] = .ok (.list ((probes c most).map .int)) := probes_for_eq hc
  have hl : (probes c most).length ≤ PySem.sizeLine := by
    have := probes_length c most
    rw [PySem.sizeLine_eq]
    omega
  have e2 : ∀ x ∈ probes c most, t_divides.fn "divides_at" [.int c, .int m, .int s, .int x] = .ok (.bool (dAt c m s x)) := fun x hx =>
    divides_at_eq hc hcb hm (bt_nat (probes_in hc h0 x hx).1 (probes_in hc h0 x hx).2 hmb) hs
  have e3 := compD_map (f := fun d => (bindT (.nm 4) d (wipeE [.val (.int c), .val (.int most), .val (.int m), .val (.int s), .un] [4])).bind fun env' => (semTs t_divides [] env').bind fun k => if k = true then (semE t_divides (.call "divides_at" [.var 0, .var 2, .var 3, .var 4]) env').bind fun x => .ok (some x) else .ok none)
    (h := PySem.PyData.int) (k := fun x => .bool (dAt c m s x)) (xs := probes c most) (fun x hx => by
      simp [runF, semE_0, semE_1, semE_2, semE_3, semE_4, semE_5, semE_6, semE_7, semE_8, semE_9, semE_10, semE_11, semE_12, semE_13, semE_14, semE_15, semE_16, semE_17, semE_18, semE_19, semE_20, semE_21, semE_22, semE_23, semE_24, semE_25, semE_26, semEs_0, semEs_1, semTs_0, semTs_1, semS_0, semS_1, semS_2, semS_3, semS_4, semS_5, semS_6, semS_7, semS_8, semS_9, semS_10, semS_11, semS_12, semS_13, semS_14, semS_15, semS_16, semS_17, semS_18, semS_19, semS_20, semS_21, semS_22, semS_23, semS_24, semSs_0, semSs_1, getV, peek, freeze, freeze1, keep, scalar, binD, addD, subD, mulD, fdivD, modD, powD, negD, augD, cmpB, eqB, truthD, boolR, biD, bi1, lenD, intD, mthD, itBi, it1, iterD, ixD, lstOf, ownAt, seqO_nx, seqO_rt, seqO_bk, seqO_ct, seqO_ex, seqO_no, R.ok_bind, rbind_ok, bindT_nm, bindT_tup, bindTs_nil, bindTs_cons, wipeE, R.bind, e2 x hx])
  unfold s_divides runF p_divides
  simp only [semSs, semS, semE, semEs]
  simp only [getV, List.map, List.replicate]
  simp [runF, semE_0, semE_1, semE_2, semE_3, semE_4, semE_5, semE_6, semE_7, semE_8, semE_9, semE_10, semE_11, semE_12, semE_13, semE_14, semE_15, semE_16, semE_17, semE_18, semE_19, semE_20, semE_21, semE_22, semE_23, semE_24, semE_25, semE_26, semEs_0, semEs_1, semTs_0, semTs_1, semS_0, semS_1, semS_2, semS_3, semS_4, semS_5, semS_6, semS_7, semS_8, semS_9, semS_10, semS_11, semS_12, semS_13, semS_14, semS_15, semS_16, semS_17, semS_18, semS_19, semS_20, semS_21, semS_22, semS_23, semS_24, semSs_0, semSs_1, getV, peek, freeze, freeze1, keep, scalar, binD, addD, subD, mulD, fdivD, modD, powD, negD, augD, cmpB, eqB, truthD, boolR, biD, bi1, lenD, intD, mthD, itBi, it1, iterD, ixD, lstOf, ownAt, seqO_nx, seqO_rt, seqO_bk, seqO_ct, seqO_ex, seqO_no, R.ok_bind, rbind_ok, bindT_nm, bindT_tup, bindTs_nil, bindTs_cons, wipeE, -semE, -semTs, -bindT_nm, -wipeE, e1, hl] at e3 ⊢
  simp [e3, allD, boolsOf_map, dv]
end G

namespace G
open Y
theorem bt_lf {c : Int} (hc : 1 ≤ c) (s : Nat) : bt (lf c s) ≤ s + 1 := by
  obtain ⟨_, _, h1, h2⟩ := lf_facts hc s
  exact bt_nat (by omega) h2 (bt_two_pow s)
theorem lp_c {c most : Int} (hc : 1 ≤ c) (h0 : 0 ≤ most) (hcb : bt c ≤ 4000) (hmb : bt most ≤ 5000) (s : Nat) (hs : s ≤ 4000) :
    (semE t_least_pair c_least_pair_0 (freeze [] [.val (.int c), .val (.int most), .val (.int s)]) >>= truthD) = .ok (!(dv c most (lf c s) s)) := by
  have e1 : t_least_pair.fn "least_factor" [.int c, .int s] = .ok (.int (lf c s)) := least_factor_eq hc hcb hs
  have e2 : t_least_pair.fn "divides" [.int c, .int most, .int (lf c s), .int s] = .ok (.bool (dv c most (lf c s) s)) := divides_eq hc h0 hcb hmb (bt_mono (bt_lf hc s) (by omega)) hs
  simp [c_least_pair_0, runF, semE_0, semE_1, semE_2, semE_3, semE_4, semE_5, semE_6, semE_7, semE_8, semE_9, semE_10, semE_11, semE_12, semE_13, semE_14, semE_15, semE_16, semE_17, semE_18, semE_19, semE_20, semE_21, semE_22, semE_23, semE_24, semE_25, semE_26, semEs_0, semEs_1, semTs_0, semTs_1, semS_0, semS_1, semS_2, semS_3, semS_4, semS_5, semS_6, semS_7, semS_8, semS_9, semS_10, semS_11, semS_12, semS_13, semS_14, semS_15, semS_16, semS_17, semS_18, semS_19, semS_20, semS_21, semS_22, semS_23, semS_24, semSs_0, semSs_1, getV, peek, freeze, freeze1, keep, scalar, binD, addD, subD, mulD, fdivD, modD, powD, negD, augD, cmpB, eqB, truthD, boolR, biD, bi1, lenD, intD, mthD, itBi, it1, iterD, ixD, lstOf, ownAt, seqO_nx, seqO_rt, seqO_bk, seqO_ct, seqO_ex, seqO_no, R.ok_bind, rbind_ok, bindT_nm, bindT_tup, bindTs_nil, bindTs_cons, wipeE, e1, e2]
theorem lp_b (T : Tab) (c most s : Int) : semSs T b_least_pair_0 [.val (.int c), .val (.int most), .val (.int s)] = .ok (.nx [.val (.int c), .val (.int most), .val (.int (s + 1))]) := by
  simp [b_least_pair_0, runF, semE_0, semE_1, semE_2, semE_3, semE_4, semE_5, semE_6, semE_7, semE_8, semE_9, semE_10, semE_11, semE_12, semE_13, semE_14, semE_15, semE_16, semE_17, semE_18, semE_19, semE_20, semE_21, semE_22, semE_23, semE_24, semE_25, semE_26, semEs_0, semEs_1, semTs_0, semTs_1, semS_0, semS_1, semS_2, semS_3, semS_4, semS_5, semS_6, semS_7, semS_8, semS_9, semS_10, semS_11, semS_12, semS_13, semS_14, semS_15, semS_16, semS_17, semS_18, semS_19, semS_20, semS_21, semS_22, semS_23, semS_24, semSs_0, semSs_1, getV, peek, freeze, freeze1, keep, scalar, binD, addD, subD, mulD, fdivD, modD, powD, negD, augD, cmpB, eqB, truthD, boolR, biD, bi1, lenD, intD, mthD, itBi, it1, iterD, ixD, lstOf, ownAt, seqO_nx, seqO_rt, seqO_bk, seqO_ct, seqO_ex, seqO_no, R.ok_bind, rbind_ok, bindT_nm, bindT_tup, bindTs_nil, bindTs_cons, wipeE]
theorem lp_loop {c most : Int} (hc : 1 ≤ c) (h0 : 0 ≤ most) (hcb : bt c ≤ 4000) (hmb : bt most ≤ 5000) {N : Nat} (hN : N ≤ 4000) (hd : dv c most (lf c N) N = true) : ∀ (k s : Nat), s + k = N →
    ∃ s', s ≤ s' ∧ s' ≤ N ∧ dv c most (lf c s') s' = true ∧ (∀ t, s ≤ t → t < s' → dv c most (lf c t) t = false) ∧
      whD (fun env => semE t_least_pair c_least_pair_0 (freeze [] env) >>= truthD) (semSs t_least_pair b_least_pair_0) [.val (.int c), .val (.int most), .val (.int s)] = .ok (.nx [.val (.int c), .val (.int most), .val (.int s')]) := by
  intro k
  induction k with
  | zero =>
    intro s hs
    have : s = N := by omega
    subst this
    exact ⟨s, by omega, by omega, hd, fun t h1 h2 => by omega, whD_f (by rw [lp_c hc h0 hcb hmb s hN, hd]; rfl)⟩
  | succ k ih =>
    intro s hs
    cases e : dv c most (lf c s) s with
    | true => exact ⟨s, by omega, by omega, e, fun t h1 h2 => by omega, whD_f (by rw [lp_c hc h0 hcb hmb s (by omega), e]; rfl)⟩
    | false =>
      obtain ⟨s', h1, h2, h3, h4, h5⟩ := ih (s + 1) (by omega)
      refine ⟨s', by omega, h2, h3, fun t k1 k2 => ?_, ?_⟩
      · by_cases q : t = s
        · rw [q, e]
        · exact h4 t (by omega) k2
      · rw [whD_t (by rw [lp_c hc h0 hcb hmb s (by omega), e]; rfl) (lp_b _ c most s)]
        exact h5
def Ans (c most m : Int) (s : Nat) : Prop := (most < c ∧ m = 0 ∧ s = 0) ∨ (c ≤ most ∧ Least c most s ∧ m = lf c s)
theorem lp_end1 {c most : Int} (h : most < c) : s_least_pair [.int c, .int most] = .ok (.tuple [.int 0, .int 0]) := by
  unfold s_least_pair runF p_least_pair
  simp [runF, semE_0, semE_1, semE_2, semE_3, semE_4, semE_5, semE_6, semE_7, semE_8, semE_9, semE_10, semE_11, semE_12, semE_13, semE_14, semE_15, semE_16, semE_17, semE_18, semE_19, semE_20, semE_21, semE_22, semE_23, semE_24, semE_25, semE_26, semEs_0, semEs_1, semTs_0, semTs_1, semS_0, semS_1, semS_2, semS_3, semS_4, semS_5, semS_6, semS_7, semS_8, semS_9, semS_10, semS_11, semS_12, semS_13, semS_14, semS_15, semS_16, semS_17, semS_18, semS_19, semS_20, semS_21, semS_22, semS_23, semS_24, semSs_0, semSs_1, getV, peek, freeze, freeze1, keep, scalar, binD, addD, subD, mulD, fdivD, modD, powD, negD, augD, cmpB, eqB, truthD, boolR, biD, bi1, lenD, intD, mthD, itBi, it1, iterD, ixD, lstOf, ownAt, seqO_nx, seqO_rt, seqO_bk, seqO_ct, seqO_ex, seqO_no, R.ok_bind, rbind_ok, bindT_nm, bindT_tup, bindTs_nil, bindTs_cons, wipeE, h, PySem.sizeLine_eq]
theorem lp_end2 {c most : Int} {s : Nat} (h : ¬ most < c) (hf : t_least_pair.fn "least_factor" [.int c, .int s] = .ok (.int (lf c s))) (W : Env → R Out)
   (hW : ∀ env, whD (fun env => semE t_least_pair c_least_pair_0 (freeze [] env) >>= truthD) (semSs t_least_pair b_least_pair_0) env = W env)
   (hw : W [.val (.int c), .val (.int most), .val (.int 0)] = .ok (.nx [.val (.int c), .val (.int most), .val (.int s)])) : s_least_pair [.int c, .int most] = .ok (.tuple [.int (lf c s), .int s]) := by
  unfold s_least_pair runF p_least_pair
  simp only [semSs, semS]
  simp only [hW]
  simp [runF, semE_0, semE_1, semE_2, semE_3, semE_4, semE_5, semE_6, semE_7, semE_8, semE_9, semE_10, semE_11, semE_12, semE_13, semE_14, semE_15, semE_16, semE_17, semE_18, semE_19, semE_20, semE_21, semE_22, semE_23, semE_24, semE_25, semE_26, semEs_0, semEs_1, semTs_0, semTs_1, semS_0, semS_1, semS_2, semS_3, semS_4, semS_5, semS_6, semS_7, semS_8, semS_9, semS_10, semS_11, semS_12, semS_13, semS_14, semS_15, semS_16, semS_17, semS_18, semS_19, semS_20, semS_21, semS_22, semS_23, semS_24, semSs_0, semSs_1, getV, peek, freeze, freeze1, keep, scalar, binD, addD, subD, mulD, fdivD, modD, powD, negD, augD, cmpB, eqB, truthD, boolR, biD, bi1, lenD, intD, mthD, itBi, it1, iterD, ixD, lstOf, ownAt, seqO_nx, seqO_rt, seqO_bk, seqO_ct, seqO_ex, seqO_no, R.ok_bind, rbind_ok, bindT_nm, bindT_tup, bindTs_nil, bindTs_cons, wipeE, h, hw, hf, PySem.sizeLine_eq]
theorem least_pair_eq {c most : Int} (hc : 1 ≤ c) (h0 : 0 ≤ most) (hcb : bt c ≤ 100) (hmb : bt (most + 1) ≤ 100) : ∃ m s, Ans c most m s ∧ s ≤ 200 ∧ s_least_pair [.int c, .int most] = .ok (.tuple [.int m, .int (s : Nat)]) := by
  by_cases h : most < c
  · exact ⟨0, 0, .inl ⟨h, rfl, rfl⟩, by decide, lp_end1 h⟩
  · have h1 : c ≤ most := by omega
    have hd : dv c most (lf c 200) 200 = true := dv_far hc h1 (by
      have := lt_bt (bt_mul hcb hmb)
      have h2 : 0 ≤ c * (most + 1) := Int.mul_nonneg (by omega) (by omega)
      have h3 : ((c * (most + 1)).natAbs : Int) = c * (most + 1) := Int.natAbs_of_nonneg h2
      rw [← h3]
      exact_mod_cast this)
    obtain ⟨s, _, s2, s3, s4, s5⟩ := lp_loop hc h0 (bt_mono hcb (by omega)) (bt_mono (bt_nat h0 (by omega) hmb) (by omega)) (show 200 ≤ 4000 by omega) hd 200 0 rfl
    exact ⟨lf c s, s, .inr ⟨h1, ⟨s3, fun t ht => s4 t (by omega) ht⟩, rfl⟩, s2, lp_end2 h (least_factor_eq hc (bt_mono hcb (by omega)) (by omega)) _ (fun _ => rfl) s5⟩
theorem judge_pair_eq {c most m : Int} {s : Nat} (hc : 1 ≤ c) (h0 : 0 ≤ most) (hcb : bt c ≤ 4000) (hmb : bt most ≤ 5000) (hm : bt m ≤ 4000) (hs : s ≤ 4000) : s_judge_pair [.int c, .int most, .int m, .int s] = .ok (.bool (judge c most m s)) := by
  have e1 : t_judge_pair.fn "divides" [.int c, .int most, .int m, .int s] = .ok (.bool (dv c most m s)) := divides_eq hc h0 hcb hmb (by omega) hs
  have e2 : t_judge_pair.fn "raised" [.int 2, .int s] = .ok (.int (2 ^ s)) := raised_two _ s hs
  have o : PySem.IntMulOk c (m - 1) := mulOk hcb (bt_mono (PySem.intBits_sub_le (y := 1) (n := 1) hm (by decide)) (Nat.le_refl _)) (by omega)
  unfold s_judge_pair runF p_judge_pair judge
  by_cases h1 : most < c
  · by_cases h2 : m = 0
    · simp [runF, semE_0, semE_1, semE_2, semE_3, semE_4, semE_5, semE_6, semE_7, semE_8, semE_9, semE_10, semE_11, semE_12, semE_13, semE_14, semE_15, semE_16, semE_17, semE_18, semE_19, semE_20, semE_21, semE_22, semE_23, semE_24, semE_25, semE_26, semEs_0, semEs_1, semTs_0, semTs_1, semS_0, semS_1, semS_2, semS_3, semS_4, semS_5, semS_6, semS_7, semS_8, semS_9, semS_10, semS_11, semS_12, semS_13, semS_14, semS_15, semS_16, semS_17, semS_18, semS_19, semS_20, semS_21, semS_22, semS_23, semS_24, semSs_0, semSs_1, getV, peek, freeze, freeze1, keep, scalar, binD, addD, subD, mulD, fdivD, modD, powD, negD, augD, cmpB, eqB, truthD, boolR, biD, bi1, lenD, intD, mthD, itBi, it1, iterD, ixD, lstOf, ownAt, seqO_nx, seqO_rt, seqO_bk, seqO_ct, seqO_ex, seqO_no, R.ok_bind, rbind_ok, bindT_nm, bindT_tup, bindTs_nil, bindTs_cons, wipeE, h1, h2]
    · simp [runF, semE_0, semE_1, semE_2, semE_3, semE_4, semE_5, semE_6, semE_7, semE_8, semE_9, semE_10, semE_11, semE_12, semE_13, semE_14, semE_15, semE_16, semE_17, semE_18, semE_19, semE_20, semE_21, semE_22, semE_23, semE_24, semE_25, semE_26, semEs_0, semEs_1, semTs_0, semTs_1, semS_0, semS_1, semS_2, semS_3, semS_4, semS_5, semS_6, semS_7, semS_8, semS_9, semS_10, semS_11, semS_12, semS_13, semS_14, semS_15, semS_16, semS_17, semS_18, semS_19, semS_20, semS_21, semS_22, semS_23, semS_24, semSs_0, semSs_1, getV, peek, freeze, freeze1, keep, scalar, binD, addD, subD, mulD, fdivD, modD, powD, negD, augD, cmpB, eqB, truthD, boolR, biD, bi1, lenD, intD, mthD, itBi, it1, iterD, ixD, lstOf, ownAt, seqO_nx, seqO_rt, seqO_bk, seqO_ct, seqO_ex, seqO_no, R.ok_bind, rbind_ok, bindT_nm, bindT_tup, bindTs_nil, bindTs_cons, wipeE, h1, h2]
  · cases h2 : dv c most m s with
    | false => simp [runF, semE_0, semE_1, semE_2, semE_3, semE_4, semE_5, semE_6, semE_7, semE_8, semE_9, semE_10, semE_11, semE_12, semE_13, semE_14, semE_15, semE_16, semE_17, semE_18, semE_19, semE_20, semE_21, semE_22, semE_23, semE_24, semE_25, semE_26, semEs_0, semEs_1, semTs_0, semTs_1, semS_0, semS_1, semS_2, semS_3, semS_4, semS_5, semS_6, semS_7, semS_8, semS_9, semS_10, semS_11, semS_12, semS_13, semS_14, semS_15, semS_16, semS_17, semS_18, semS_19, semS_20, semS_21, semS_22, semS_23, semS_24, semSs_0, semSs_1, getV, peek, freeze, freeze1, keep, scalar, binD, addD, subD, mulD, fdivD, modD, powD, negD, augD, cmpB, eqB, truthD, boolR, biD, bi1, lenD, intD, mthD, itBi, it1, iterD, ixD, lstOf, ownAt, seqO_nx, seqO_rt, seqO_bk, seqO_ct, seqO_ex, seqO_no, R.ok_bind, rbind_ok, bindT_nm, bindT_tup, bindTs_nil, bindTs_cons, wipeE, h1, e1, h2]
    | true =>
      by_cases h3 : c * (m - 1) ≥ 2 ^ s
      · simp [runF, semE_0, semE_1, semE_2, semE_3, semE_4, semE_5, semE_6, semE_7, semE_8, semE_9, semE_10, semE_11, semE_12, semE_13, semE_14, semE_15, semE_16, semE_17, semE_18, semE_19, semE_20, semE_21, semE_22, semE_23, semE_24, semE_25, semE_26, semEs_0, semEs_1, semTs_0, semTs_1, semS_0, semS_1, semS_2, semS_3, semS_4, semS_5, semS_6, semS_7, semS_8, semS_9, semS_10, semS_11, semS_12, semS_13, semS_14, semS_15, semS_16, semS_17, semS_18, semS_19, semS_20, semS_21, semS_22, semS_23, semS_24, semSs_0, semSs_1, getV, peek, freeze, freeze1, keep, scalar, binD, addD, subD, mulD, fdivD, modD, powD, negD, augD, cmpB, eqB, truthD, boolR, biD, bi1, lenD, intD, mthD, itBi, it1, iterD, ixD, lstOf, ownAt, seqO_nx, seqO_rt, seqO_bk, seqO_ct, seqO_ex, seqO_no, R.ok_bind, rbind_ok, bindT_nm, bindT_tup, bindTs_nil, bindTs_cons, wipeE, h1, e1, e2, h2, h3, o]
      · have h3' : ¬ (2 ^ s ≤ c * (m - 1)) := h3
        by_cases h4 : s = 0
        · subst h4
          simp at h3' e1 e2
          have h3n : ¬ (1 ≤ c * (m - 1)) := by omega
          simp [runF, semE_0, semE_1, semE_2, semE_3, semE_4, semE_5, semE_6, semE_7, semE_8, semE_9, semE_10, semE_11, semE_12, semE_13, semE_14, semE_15, semE_16, semE_17, semE_18, semE_19, semE_20, semE_21, semE_22, semE_23, semE_24, semE_25, semE_26, semEs_0, semEs_1, semTs_0, semTs_1, semS_0, semS_1, semS_2, semS_3, semS_4, semS_5, semS_6, semS_7, semS_8, semS_9, semS_10, semS_11, semS_12, semS_13, semS_14, semS_15, semS_16, semS_17, semS_18, semS_19, semS_20, semS_21, semS_22, semS_23, semS_24, semSs_0, semSs_1, getV, peek, freeze, freeze1, keep, scalar, binD, addD, subD, mulD, fdivD, modD, powD, negD, augD, cmpB, eqB, truthD, boolR, biD, bi1, lenD, intD, mthD, itBi, it1, iterD, ixD, lstOf, ownAt, seqO_nx, seqO_rt, seqO_bk, seqO_ct, seqO_ex, seqO_no, R.ok_bind, rbind_ok, bindT_nm, bindT_tup, bindTs_nil, bindTs_cons, wipeE, h1, e1, e2, h2, h3n, o]
        · have h5 : (s : Int) - 1 = ((s - 1 : Nat) : Int) := by omega
          have h6 : ¬ ((s : Int) = 0) := by omega
          have e3 : t_judge_pair.fn "least_factor" [.int c, .int ((s - 1 : Nat) : Int)] = .ok (.int (lf c (s - 1))) := least_factor_eq hc hcb (by omega)
          have e4 : t_judge_pair.fn "divides" [.int c, .int most, .int (lf c (s - 1)), .int ((s - 1 : Nat) : Int)] = .ok (.bool (dv c most (lf c (s - 1)) (s - 1))) := divides_eq hc h0 hcb hmb (bt_mono (bt_lf hc _) (by omega)) (by omega)
          generalize ((s - 1 : Nat) : Int) = z at *
          simp [runF, semE_0, semE_1, semE_2, semE_3, semE_4, semE_5, semE_6, semE_7, semE_8, semE_9, semE_10, semE_11, semE_12, semE_13, semE_14, semE_15, semE_16, semE_17, semE_18, semE_19, semE_20, semE_21, semE_22, semE_23, semE_24, semE_25, semE_26, semEs_0, semEs_1, semTs_0, semTs_1, semS_0, semS_1, semS_2, semS_3, semS_4, semS_5, semS_6, semS_7, semS_8, semS_9, semS_10, semS_11, semS_12, semS_13, semS_14, semS_15, semS_16, semS_17, semS_18, semS_19, semS_20, semS_21, semS_22, semS_23, semS_24, semSs_0, semSs_1, getV, peek, freeze, freeze1, keep, scalar, binD, addD, subD, mulD, fdivD, modD, powD, negD, augD, cmpB, eqB, truthD, boolR, biD, bi1, lenD, intD, mthD, itBi, it1, iterD, ixD, lstOf, ownAt, seqO_nx, seqO_rt, seqO_bk, seqO_ct, seqO_ex, seqO_no, R.ok_bind, rbind_ok, bindT_nm, bindT_tup, bindTs_nil, bindTs_cons, wipeE, h1, e1, e2, h2, h3', o, h4, h5, h6, e3, e4]
theorem power_in_eq {c : Int} (hc : 1 ≤ c) (hcb : bt c ≤ 4000) : ∃ d, s_power_in [.int c] = .ok d ∧ (d = .none ∨ ∃ i, d = .int i) := by
  obtain ⟨a, ha⟩ : ∃ a : Nat, (PySem.Builtin.Int.intBits c : Int) - 1 = (a : Int) ∧ a ≤ 4000 := by
    refine ⟨PySem.Builtin.Int.intBits c - 1, ?_, by unfold bt at hcb; omega⟩
    have : 1 ≤ PySem.Builtin.Int.intBits c := by
      have h : ¬ c = 0 := by omega
      have h' : (c == 0) = false := by simpa using h
      unfold PySem.Builtin.Int.intBits
      rw [h']
      simp
    omega
  have e1 : t_power_in.fn "raised" [.int 2, .int a] = .ok (.int (2 ^ a)) := raised_two _ a ha.2
  have e2 := ha.1
  by_cases h : (2 : Int) ^ a = c
  · refine ⟨.int a, ?_, .inr ⟨_, rfl⟩⟩
    unfold s_power_in runF p_power_in
    simp [runF, semE_0, semE_1, semE_2, semE_3, semE_4, semE_5, semE_6, semE_7, semE_8, semE_9, semE_10, semE_11, semE_12, semE_13, semE_14, semE_15, semE_16, semE_17, semE_18, semE_19, semE_20, semE_21, semE_22, semE_23, semE_24, semE_25, semE_26, semEs_0, semEs_1, semTs_0, semTs_1, semS_0, semS_1, semS_2, semS_3, semS_4, semS_5, semS_6, semS_7, semS_8, semS_9, semS_10, semS_11, semS_12, semS_13, semS_14, semS_15, semS_16, semS_17, semS_18, semS_19, semS_20, semS_21, semS_22, semS_23, semS_24, semSs_0, semSs_1, getV, peek, freeze, freeze1, keep, scalar, binD, addD, subD, mulD, fdivD, modD, powD, negD, augD, cmpB, eqB, truthD, boolR, biD, bi1, lenD, intD, mthD, itBi, it1, iterD, ixD, lstOf, ownAt, seqO_nx, seqO_rt, seqO_bk, seqO_ct, seqO_ex, seqO_no, R.ok_bind, rbind_ok, bindT_nm, bindT_tup, bindTs_nil, bindTs_cons, wipeE, bitsD, e1, e2, h]
  · refine ⟨.none, ?_, .inl rfl⟩
    unfold s_power_in runF p_power_in
    simp [runF, semE_0, semE_1, semE_2, semE_3, semE_4, semE_5, semE_6, semE_7, semE_8, semE_9, semE_10, semE_11, semE_12, semE_13, semE_14, semE_15, semE_16, semE_17, semE_18, semE_19, semE_20, semE_21, semE_22, semE_23, semE_24, semE_25, semE_26, semEs_0, semEs_1, semTs_0, semTs_1, semS_0, semS_1, semS_2, semS_3, semS_4, semS_5, semS_6, semS_7, semS_8, semS_9, semS_10, semS_11, semS_12, semS_13, semS_14, semS_15, semS_16, semS_17, semS_18, semS_19, semS_20, semS_21, semS_22, semS_23, semS_24, semSs_0, semSs_1, getV, peek, freeze, freeze1, keep, scalar, binD, addD, subD, mulD, fdivD, modD, powD, negD, augD, cmpB, eqB, truthD, boolR, biD, bi1, lenD, intD, mthD, itBi, it1, iterD, ixD, lstOf, ownAt, seqO_nx, seqO_rt, seqO_bk, seqO_ct, seqO_ex, seqO_no, R.ok_bind, rbind_ok, bindT_nm, bindT_tup, bindTs_nil, bindTs_cons, wipeE, bitsD, e1, e2, h]
theorem way_of_eq {c most m : Int} {s w : Nat} (hc : 1 ≤ c) (h0 : 0 ≤ most) (hcb : bt c ≤ 4000) (hmb : bt most ≤ 5000) (hm : bt m ≤ 4000) (hs : s ≤ 200) (hw : w ≤ 4000) (hl : s_least_pair [.int c, .int most] = .ok (.tuple [.int m, .int (s : Nat)])) :
    ∃ d, s_way_of [.int c, .int most, .int w] = .ok d ∧ (d = .tuple [.str (PySem.Str.ofString "copy")] ∨ (∃ i, d = .tuple [.str (PySem.Str.ofString "right"), .int i]) ∨ (d = .tuple [.str (PySem.Str.ofString "mul"), .int m, .int s] ∧ most * m < 2 ^ w) ∨ (d = .none ∧ ¬ most * m < 2 ^ w)) := by
  have e1 : t_way_of.fn "raised" [.int 2, .int w] = .ok (.int (2 ^ w)) := raised_two _ w hw
  have e2 : t_way_of.fn "least_pair" [.int c, .int most] = .ok (.tuple [.int m, .int (s : Nat)]) := hl
  have e4 : t_way_of.glb "MOST_SHIFT" = .ok (.int 256) := rfl
  have o : PySem.IntMulOk most m := mulOk hmb hm (by omega)
  have hs' : (s : Int) ≤ 256 := by omega
  unfold s_way_of runF p_way_of
  by_cases h1 : c = 1
  · exact ⟨.tuple [.str (PySem.Str.ofString "copy")], by simp [runF, semE_0, semE_1, semE_2, semE_3, semE_4, semE_5, semE_6, semE_7, semE_8, semE_9, semE_10, semE_11, semE_12, semE_13, semE_14, semE_15, semE_16, semE_17, semE_18, semE_19, semE_20, semE_21, semE_22, semE_23, semE_24, semE_25, semE_26, semEs_0, semEs_1, semTs_0, semTs_1, semS_0, semS_1, semS_2, semS_3, semS_4, semS_5, semS_6, semS_7, semS_8, semS_9, semS_10, semS_11, semS_12, semS_13, semS_14, semS_15, semS_16, semS_17, semS_18, semS_19, semS_20, semS_21, semS_22, semS_23, semS_24, semSs_0, semSs_1, getV, peek, freeze, freeze1, keep, scalar, binD, addD, subD, mulD, fdivD, modD, powD, negD, augD, cmpB, eqB, truthD, boolR, biD, bi1, lenD, intD, mthD, itBi, it1, iterD, ixD, lstOf, ownAt, seqO_nx, seqO_rt, seqO_bk, seqO_ct, seqO_ex, seqO_no, R.ok_bind, rbind_ok, bindT_nm, bindT_tup, bindTs_nil, bindTs_cons, wipeE, h1, PySem.sizeLine_eq], .inl rfl⟩
  · obtain ⟨d, e3, h3⟩ := power_in_eq hc hcb
    have e3 : t_way_of.fn "power_in" [.int c] = .ok d := e3
    rcases h3 with rfl | ⟨i, rfl⟩
    · by_cases h4 : most * m < 2 ^ w
      · exact ⟨.tuple [.str (PySem.Str.ofString "mul"), .int m, .int s], by simp [runF, semE_0, semE_1, semE_2, semE_3, semE_4, semE_5, semE_6, semE_7, semE_8, semE_9, semE_10, semE_11, semE_12, semE_13, semE_14, semE_15, semE_16, semE_17, semE_18, semE_19, semE_20, semE_21, semE_22, semE_23, semE_24, semE_25, semE_26, semEs_0, semEs_1, semTs_0, semTs_1, semS_0, semS_1, semS_2, semS_3, semS_4, semS_5, semS_6, semS_7, semS_8, semS_9, semS_10, semS_11, semS_12, semS_13, semS_14, semS_15, semS_16, semS_17, semS_18, semS_19, semS_20, semS_21, semS_22, semS_23, semS_24, semSs_0, semSs_1, getV, peek, freeze, freeze1, keep, scalar, binD, addD, subD, mulD, fdivD, modD, powD, negD, augD, cmpB, eqB, truthD, boolR, biD, bi1, lenD, intD, mthD, itBi, it1, iterD, ixD, lstOf, ownAt, seqO_nx, seqO_rt, seqO_bk, seqO_ct, seqO_ex, seqO_no, R.ok_bind, rbind_ok, bindT_nm, bindT_tup, bindTs_nil, bindTs_cons, wipeE, h1, e1, e2, e3, e4, o, h4, hs', PySem.sizeLine_eq], .inr (.inr (.inl ⟨rfl, h4⟩))⟩
      · exact ⟨.none, by simp [runF, semE_0, semE_1, semE_2, semE_3, semE_4, semE_5, semE_6, semE_7, semE_8, semE_9, semE_10, semE_11, semE_12, semE_13, semE_14, semE_15, semE_16, semE_17, semE_18, semE_19, semE_20, semE_21, semE_22, semE_23, semE_24, semE_25, semE_26, semEs_0, semEs_1, semTs_0, semTs_1, semS_0, semS_1, semS_2, semS_3, semS_4, semS_5, semS_6, semS_7, semS_8, semS_9, semS_10, semS_11, semS_12, semS_13, semS_14, semS_15, semS_16, semS_17, semS_18, semS_19, semS_20, semS_21, semS_22, semS_23, semS_24, semSs_0, semSs_1, getV, peek, freeze, freeze1, keep, scalar, binD, addD, subD, mulD, fdivD, modD, powD, negD, augD, cmpB, eqB, truthD, boolR, biD, bi1, lenD, intD, mthD, itBi, it1, iterD, ixD, lstOf, ownAt, seqO_nx, seqO_rt, seqO_bk, seqO_ct, seqO_ex, seqO_no, R.ok_bind, rbind_ok, bindT_nm, bindT_tup, bindTs_nil, bindTs_cons, wipeE, h1, e1, e2, e3, e4, o, h4, hs', PySem.sizeLine_eq], .inr (.inr (.inr ⟨rfl, h4⟩))⟩
    · exact ⟨.tuple [.str (PySem.Str.ofString "right"), .int i], by simp [runF, semE_0, semE_1, semE_2, semE_3, semE_4, semE_5, semE_6, semE_7, semE_8, semE_9, semE_10, semE_11, semE_12, semE_13, semE_14, semE_15, semE_16, semE_17, semE_18, semE_19, semE_20, semE_21, semE_22, semE_23, semE_24, semE_25, semE_26, semEs_0, semEs_1, semTs_0, semTs_1, semS_0, semS_1, semS_2, semS_3, semS_4, semS_5, semS_6, semS_7, semS_8, semS_9, semS_10, semS_11, semS_12, semS_13, semS_14, semS_15, semS_16, semS_17, semS_18, semS_19, semS_20, semS_21, semS_22, semS_23, semS_24, semSs_0, semSs_1, getV, peek, freeze, freeze1, keep, scalar, binD, addD, subD, mulD, fdivD, modD, powD, negD, augD, cmpB, eqB, truthD, boolR, biD, bi1, lenD, intD, mthD, itBi, it1, iterD, ixD, lstOf, ownAt, seqO_nx, seqO_rt, seqO_bk, seqO_ct, seqO_ex, seqO_no, R.ok_bind, rbind_ok, bindT_nm, bindT_tup, bindTs_nil, bindTs_cons, wipeE, h1, e3, PySem.sizeLine_eq], .inr (.inl ⟨i, rfl⟩)⟩
end G

namespace G
open Y
theorem shaped_pair (a b : Int) : PySem.SeqAt.shaped (.tuple [.int a, .int b]) = true := by
  simp [PySem.SeqAt.shaped, PySem.PyData.canLay0, PySem.PyData.depth, PySem.PyData.canLayAll0, PySem.PyData.depthAll]
theorem eqv_pair (a b c d : Int) : PySem.PyData.eqv (.tuple [.int a, .int b]) (.tuple [.int c, .int d]) = (decide (a = c) && decide (b = d)) := by
  simp [PySem.PyData.eqv, PySem.PyData.eqvAll]
  rfl
/-! the law's beginning -/
theorem fn_power : t_law.fn "_law_power" = s__law_power := rfl
theorem law_power (b : Int) (n m : Nat) (hb : bt b ≤ m) (hn : n ≤ 10000) (hm : m * n ≤ 1000000) : t_law.fn "_law_power" [.int b, .int n] = .ok (.int (b ^ n)) := by
  rw [fn_power]
  exact lpow_eq t__law_power b n m hb hn hm

abbrev V (i : Int) : SV := .val (.int i)
abbrev Lst (xs : List Int) : D := .list (xs.map .int)
theorem g0_eq (ns : List Int) : ∃ ds : List Int, ds.length = 40 ∧ (∀ x ∈ ds, 0 ≤ x ∧ x < 5040) ∧
    semS t_law g_law_0 (.val (Lst ns) :: List.replicate 16 .un) = .ok (.nx (.val (Lst ns) :: .val (Lst ds) :: List.replicate 15 .un)) := by
  have e1 : t_law.fn "_law_cell" [Lst ns, .int 0] = .ok (.int (ns.getD 0 0)) := cell_eq _ ns 0
  obtain ⟨ds, e2, h1, h2⟩ := numbers_eq t__law_numbers (ns.getD 0 0) 40 5040 (by decide) (by decide) (by decide)
  have e2 : t_law.fn "_law_numbers" [.int (ns.getD 0 0), .int 40, .int 5040] = .ok (Lst ds) := e2
  refine ⟨ds, h1, h2, ?_⟩
  generalize ns.getD 0 0 = z at *
  simp [g_law_0, runF, semE_0, semE_1, semE_2, semE_3, semE_4, semE_5, semE_6, semE_7, semE_8, semE_9, semE_10, semE_11, semE_12, semE_13, semE_14, semE_15, semE_16, semE_17, semE_18, semE_19, semE_20, semE_21, semE_22, semE_23, semE_24, semE_25, semE_26, semEs_0, semEs_1, semTs_0, semTs_1, semS_0, semS_1, semS_2, semS_3, semS_4, semS_5, semS_6, semS_7, semS_8, semS_9, semS_10, semS_11, semS_12, semS_13, semS_14, semS_15, semS_16, semS_17, semS_18, semS_19, semS_20, semS_21, semS_22, semS_23, semS_24, semSs_0, semSs_1, getV, peek, freeze, freeze1, keep, scalar, binD, addD, subD, mulD, fdivD, modD, powD, negD, augD, cmpB, eqB, truthD, boolR, biD, bi1, lenD, intD, mthD, itBi, it1, iterD, ixD, lstOf, ownAt, seqO_nx, seqO_rt, seqO_bk, seqO_ct, seqO_ex, seqO_no, R.ok_bind, rbind_ok, bindT_nm, bindT_tup, bindTs_nil, bindTs_cons, wipeE, e1, e2]
theorem g1_eq (ns ds : List Int) : ∃ so : List Int, so.length = 12 ∧ (∀ x ∈ so, 0 ≤ x ∧ x < 1000003) ∧
    semS t_law g_law_1 (.val (Lst ns) :: .val (Lst ds) :: List.replicate 15 .un) = .ok (.nx (.val (Lst ns) :: .val (Lst ds) :: .val (Lst so) :: List.replicate 14 .un)) := by
  have e1 : t_law.fn "_law_cell" [Lst ns, .int 1] = .ok (.int (ns.getD 1 0)) := cell_eq _ ns 1
  obtain ⟨so, e2, h1, h2⟩ := numbers_eq t__law_numbers (ns.getD 1 0) 12 1000003 (by decide) (by decide) (by decide)
  have e2 : t_law.fn "_law_numbers" [.int (ns.getD 1 0), .int 12, .int 1000003] = .ok (Lst so) := e2
  refine ⟨so, h1, h2, ?_⟩
  generalize ns.getD 1 0 = z at *
  simp [g_law_1, runF, semE_0, semE_1, semE_2, semE_3, semE_4, semE_5, semE_6, semE_7, semE_8, semE_9, semE_10, semE_11, semE_12, semE_13, semE_14, semE_15, semE_16, semE_17, semE_18, semE_19, semE_20, semE_21, semE_22, semE_23, semE_24, semE_25, semE_26, semEs_0, semEs_1, semTs_0, semTs_1, semS_0, semS_1, semS_2, semS_3, semS_4, semS_5, semS_6, semS_7, semS_8, semS_9, semS_10, semS_11, semS_12, semS_13, semS_14, semS_15, semS_16, semS_17, semS_18, semS_19, semS_20, semS_21, semS_22, semS_23, semS_24, semSs_0, semSs_1, getV, peek, freeze, freeze1, keep, scalar, binD, addD, subD, mulD, fdivD, modD, powD, negD, augD, cmpB, eqB, truthD, boolR, biD, bi1, lenD, intD, mthD, itBi, it1, iterD, ixD, lstOf, ownAt, seqO_nx, seqO_rt, seqO_bk, seqO_ct, seqO_ex, seqO_no, R.ok_bind, rbind_ok, bindT_nm, bindT_tup, bindTs_nil, bindTs_cons, wipeE, e1, e2]
theorem ix4 (a b c e r : Int) (h0 : 0 ≤ r) (h1 : r < 4) : ∃ x, ixD (.list [.int a, .int b, .int c, .int e]) (.int r) = .ok (.int x) ∧ (x = a ∨ x = b ∨ x = c ∨ x = e) := by
  rcases (show r = 0 ∨ r = 1 ∨ r = 2 ∨ r = 3 by omega) with rfl | rfl | rfl | rfl
  · exact ⟨a, rfl, .inl rfl⟩
  · exact ⟨b, rfl, .inr (.inl rfl)⟩
  · exact ⟨c, rfl, .inr (.inr (.inl rfl))⟩
  · exact ⟨e, rfl, .inr (.inr (.inr rfl))⟩
structure Draws (ds so : List Int) : Prop where
  l1 : ds.length = 40
  l2 : so.length = 12
  d : ∀ i, 0 ≤ at0 ds i ∧ at0 ds i < 5040
  s : ∀ i, 0 ≤ at0 so i ∧ at0 so i < 1000003
theorem Draws.di {ds so : List Int} (h : Draws ds so) {i : Int} (h0 : 0 ≤ i) (h1 : i < 40) : atD (ds.map .int) i = .ok (.int (at0 ds i)) := atD_ints h0 (by rw [h.l1]; exact h1)
theorem Draws.si {ds so : List Int} (h : Draws ds so) {i : Int} (h0 : 0 ≤ i) (h1 : i < 12) : atD (so.map .int) i = .ok (.int (at0 so i)) := atD_ints h0 (by rw [h.l2]; exact h1)
theorem Draws.bd {ds so : List Int} (h : Draws ds so) (i : Int) : bt (at0 ds i) ≤ 13 := bt_le (by have := h.d i; omega)
theorem Draws.bs {ds so : List Int} (h : Draws ds so) (i : Int) : bt (at0 so i) ≤ 20 := bt_le (by have := h.s i; omega)
theorem bt_pow_nn {n : Nat} : bt ((10 : Int) ^ n) ≤ 4 * n + 1 := PySem.intBits_pow_le (show bt 10 ≤ 4 by decide) n
theorem g2_step {L : SV} {d s : List D} {d0 d1 s0 s1 s2 p1 p2 x : Int} (a0 : atD d 0 = .ok (.int d0)) (a1 : atD d 1 = .ok (.int d1)) (q0 : atD s 0 = .ok (.int s0)) (q1 : atD s 1 = .ok (.int s1)) (q2 : atD s 2 = .ok (.int s2))
    (e1 : t_law.fn "_law_power" [.int 10, .int (1 + d0 % 12)] = .ok (.int p1)) (e2 : t_law.fn "_law_power" [.int 10, .int (d0 % 9)] = .ok (.int p2)) (o1 : PySem.IntMulOk s1 s2) (o2 : PySem.IntMulOk 3 p2)
    (ex : atD [.int p1, .int (2 + s0), .int (2 + s1 * s2), .int (3 * p2)] (d1 % 4) = .ok (.int x)) (env : Env) : semS t_law g_law_2 (L :: .val (.list d) :: .val (.list s) :: .un :: env) = .ok (.nx (L :: .val (.list d) :: .val (.list s) :: V x :: env)) := by
  simp [g_law_2, runF, semE_0, semE_1, semE_2, semE_3, semE_4, semE_5, semE_6, semE_7, semE_8, semE_9, semE_10, semE_11, semE_12, semE_13, semE_14, semE_15, semE_16, semE_17, semE_18, semE_19, semE_20, semE_21, semE_22, semE_23, semE_24, semE_25, semE_26, semEs_0, semEs_1, semTs_0, semTs_1, semS_0, semS_1, semS_2, semS_3, semS_4, semS_5, semS_6, semS_7, semS_8, semS_9, semS_10, semS_11, semS_12, semS_13, semS_14, semS_15, semS_16, semS_17, semS_18, semS_19, semS_20, semS_21, semS_22, semS_23, semS_24, semSs_0, semSs_1, getV, peek, freeze, freeze1, keep, scalar, binD, addD, subD, mulD, fdivD, modD, powD, negD, augD, cmpB, eqB, truthD, boolR, biD, bi1, lenD, intD, mthD, itBi, it1, iterD, ixD, lstOf, ownAt, seqO_nx, seqO_rt, seqO_bk, seqO_ct, seqO_ex, seqO_no, R.ok_bind, rbind_ok, bindT_nm, bindT_tup, bindTs_nil, bindTs_cons, wipeE, a0, a1, q0, q1, q2, e1, e2, o1, o2, ex, PySem.sizeLine_eq]
theorem g3_step {L : SV} {d s : List D} {c d2 d3 d4 d5 s3 s4 s5 s6 p1 x : Int} (a2 : atD d 2 = .ok (.int d2)) (a3 : atD d 3 = .ok (.int d3)) (a4 : atD d 4 = .ok (.int d4)) (a5 : atD d 5 = .ok (.int d5)) (q3 : atD s 3 = .ok (.int s3)) (q4 : atD s 4 = .ok (.int s4)) (q5 : atD s 5 = .ok (.int s5)) (q6 : atD s 6 = .ok (.int s6))
    (e1 : t_law.fn "_law_power" [.int 2, .int (10 + d4 % 54)] = .ok (.int p1)) (o1 : PySem.IntMulOk s3 s4) (o2 : PySem.IntMulOk (s3 * s4) (1 + s5)) (o3 : PySem.IntMulOk c (1 + d2))
    (ex : atD [.int (s3 * s4 * (1 + s5)), .int (c * (1 + d2) + d3), .int p1, .int s6] (d5 % 4) = .ok (.int x)) (env : Env) : semS t_law g_law_3 (L :: .val (.list d) :: .val (.list s) :: V c :: .un :: env) = .ok (.nx (L :: .val (.list d) :: .val (.list s) :: V c :: V x :: env)) := by
  simp [g_law_3, runF, semE_0, semE_1, semE_2, semE_3, semE_4, semE_5, semE_6, semE_7, semE_8, semE_9, semE_10, semE_11, semE_12, semE_13, semE_14, semE_15, semE_16, semE_17, semE_18, semE_19, semE_20, semE_21, semE_22, semE_23, semE_24, semE_25, semE_26, semEs_0, semEs_1, semTs_0, semTs_1, semS_0, semS_1, semS_2, semS_3, semS_4, semS_5, semS_6, semS_7, semS_8, semS_9, semS_10, semS_11, semS_12, semS_13, semS_14, semS_15, semS_16, semS_17, semS_18, semS_19, semS_20, semS_21, semS_22, semS_23, semS_24, semSs_0, semSs_1, getV, peek, freeze, freeze1, keep, scalar, binD, addD, subD, mulD, fdivD, modD, powD, negD, augD, cmpB, eqB, truthD, boolR, biD, bi1, lenD, intD, mthD, itBi, it1, iterD, ixD, lstOf, ownAt, seqO_nx, seqO_rt, seqO_bk, seqO_ct, seqO_ex, seqO_no, R.ok_bind, rbind_ok, bindT_nm, bindT_tup, bindTs_nil, bindTs_cons, wipeE, a2, a3, a4, a5, q3, q4, q5, q6, e1, o1, o2, o3, ex, PySem.sizeLine_eq]
theorem g2_eq (ns : List Int) {ds so : List Int} (h : Draws ds so) : ∃ c : Int, 1 ≤ c ∧ bt c ≤ 49 ∧
    semS t_law g_law_2 (.val (Lst ns) :: .val (Lst ds) :: .val (Lst so) :: List.replicate 14 .un) = .ok (.nx (.val (Lst ns) :: .val (Lst ds) :: .val (Lst so) :: V c :: List.replicate 13 .un)) := by
  obtain ⟨n1, hn1⟩ : ∃ n : Nat, 1 + at0 ds 0 % 12 = (n : Int) := ⟨(1 + at0 ds 0 % 12).toNat, by omega⟩
  obtain ⟨n2, hn2⟩ : ∃ n : Nat, at0 ds 0 % 9 = (n : Int) := ⟨(at0 ds 0 % 9).toNat, by omega⟩
  have b1 : n1 ≤ 12 := by omega
  have b2 : n2 ≤ 9 := by omega
  have e1 : t_law.fn "_law_power" [.int 10, .int n1] = .ok (.int (10 ^ n1)) := law_power 10 n1 4 (by decide) (by omega) (by omega)
  have e2 : t_law.fn "_law_power" [.int 10, .int n2] = .ok (.int (10 ^ n2)) := law_power 10 n2 4 (by decide) (by omega) (by omega)
  have o1 : PySem.IntMulOk (at0 so 1) (at0 so 2) := mulOk (h.bs 1) (h.bs 2) (by decide)
  have o2 : PySem.IntMulOk 3 (10 ^ n2) := .of_left (by decide)
  obtain ⟨x, ex, hx⟩ := ix4 (10 ^ n1) (2 + at0 so 0) (2 + at0 so 1 * at0 so 2) (3 * 10 ^ n2) (at0 ds 1 % 4) (by omega) (by omega)
  have p1 : (0 : Int) < 10 ^ n1 := Int.pow_pos (by decide)
  have p2 : (0 : Int) < 10 ^ n2 := Int.pow_pos (by decide)
  have m0 : 0 ≤ at0 so 1 * at0 so 2 := Int.mul_nonneg (h.s 1).1 (h.s 2).1
  have s0 := h.s 0
  refine ⟨x, ?_, ?_, ?_⟩
  · rcases hx with rfl | rfl | rfl | rfl <;> omega
  · rcases hx with rfl | rfl | rfl | rfl
    · exact bt_mono bt_pow_nn (by omega)
    · exact bt_mono (bt_add (m := 2) (n := 20) (by decide) (h.bs 0)) (by decide)
    · exact bt_mono (bt_add (m := 2) (n := 40) (by decide) (bt_mul (h.bs 1) (h.bs 2))) (by decide)
    · exact bt_mono (bt_mul (m := 2) (n := 4 * n2 + 1) (by decide) bt_pow_nn) (by omega)
  · have a0 := h.di (i := 0) (by decide) (by decide)
    have a1 := h.di (i := 1) (by decide) (by decide)
    have q0 := h.si (i := 0) (by decide) (by decide)
    have q1 := h.si (i := 1) (by decide) (by decide)
    have q2 := h.si (i := 2) (by decide) (by decide)
    rw [← hn1] at e1
    rw [← hn2] at e2
    exact g2_step a0 a1 q0 q1 q2 e1 e2 o1 o2 ex _
theorem g3_eq (ns : List Int) {ds so : List Int} (h : Draws ds so) {c : Int} (hc : 1 ≤ c) (hcb : bt c ≤ 49) : ∃ most : Int, 0 ≤ most ∧ bt most ≤ 64 ∧
    semS t_law g_law_3 (.val (Lst ns) :: .val (Lst ds) :: .val (Lst so) :: V c :: List.replicate 13 .un) = .ok (.nx (.val (Lst ns) :: .val (Lst ds) :: .val (Lst so) :: V c :: V most :: List.replicate 12 .un)) := by
  obtain ⟨n1, hn1⟩ : ∃ n : Nat, 10 + at0 ds 4 % 54 = (n : Int) := ⟨(10 + at0 ds 4 % 54).toNat, by omega⟩
  have b1 : n1 ≤ 63 := by omega
  have e1 : t_law.fn "_law_power" [.int 2, .int n1] = .ok (.int (2 ^ n1)) := law_power 2 n1 2 (by decide) (by omega) (by omega)
  have o1 : PySem.IntMulOk (at0 so 3) (at0 so 4) := mulOk (h.bs 3) (h.bs 4) (by decide)
  have o2 : PySem.IntMulOk (at0 so 3 * at0 so 4) (1 + at0 so 5) := mulOk (bt_mul (h.bs 3) (h.bs 4)) (bt_add (m := 1) (by decide) (h.bs 5)) (by decide)
  have o3 : PySem.IntMulOk c (1 + at0 ds 2) := mulOk hcb (bt_add (m := 1) (by decide) (h.bd 2)) (by decide)
  obtain ⟨x, ex, hx⟩ := ix4 (at0 so 3 * at0 so 4 * (1 + at0 so 5)) (c * (1 + at0 ds 2) + at0 ds 3) (2 ^ n1) (at0 so 6) (at0 ds 5 % 4) (by omega) (by omega)
  have p1 : (0 : Int) < 2 ^ n1 := Int.pow_pos (by decide)
  have m0 : 0 ≤ at0 so 3 * at0 so 4 := Int.mul_nonneg (h.s 3).1 (h.s 4).1
  have s5 := h.s 5
  have s6 := h.s 6
  have d2 := h.d 2
  have d3 := h.d 3
  have m1 : 0 ≤ at0 so 3 * at0 so 4 * (1 + at0 so 5) := Int.mul_nonneg m0 (by omega)
  have m2 : 0 ≤ c * (1 + at0 ds 2) := Int.mul_nonneg (by omega) (by omega)
  have hx0 : 0 ≤ x := by rcases hx with rfl | rfl | rfl | rfl <;> omega
  refine ⟨x, hx0, ?_, ?_⟩
  · rcases hx with rfl | rfl | rfl | rfl
    · exact bt_mono (bt_mul (bt_mul (h.bs 3) (h.bs 4)) (bt_le (m := 20) (by omega))) (by decide)
    · exact bt_mono (bt_add (bt_mul hcb (bt_le (m := 13) (z := 1 + at0 ds 2) (by omega))) (h.bd 3)) (by decide)
    · exact bt_mono (bt_two_pow n1) (by omega)
    · exact bt_mono (h.bs 6) (by decide)
  · have a2 := h.di (i := 2) (by decide) (by decide)
    have a3 := h.di (i := 3) (by decide) (by decide)
    have a4 := h.di (i := 4) (by decide) (by decide)
    have a5 := h.di (i := 5) (by decide) (by decide)
    have q3 := h.si (i := 3) (by decide) (by decide)
    have q4 := h.si (i := 4) (by decide) (by decide)
    have q5 := h.si (i := 5) (by decide) (by decide)
    have q6 := h.si (i := 6) (by decide) (by decide)
    rw [← hn1] at e1
    exact g3_step a2 a3 a4 a5 q3 q4 q5 q6 e1 o1 o2 o3 ex _
end G

namespace G
open Y
theorem fn_least_pair : t_law.fn "least_pair" = s_least_pair := rfl
theorem fn_probes_for : t_law.fn "probes_for" = s_probes_for := rfl
theorem fn_divides : t_law.fn "divides" = s_divides := rfl
theorem fn_judge_pair : t_law.fn "judge_pair" = s_judge_pair := rfl
theorem fn_way_of : t_law.fn "way_of" = s_way_of := rfl
theorem fn_same : t_law.fn "_law_same" = s__law_same 6 := rfl
theorem fn_power' : t_law.fn "_law_power" = s__law_power := rfl
theorem same_tt : s__law_same 6 [.bool true, .bool true] = .ok (.bool true) := by
  unfold s__law_same runF p__law_same
  simp [g__law_same_0, runF, semE_0, semE_1, semE_2, semE_3, semE_4, semE_5, semE_6, semE_7, semE_8, semE_9, semE_10, semE_11, semE_12, semE_13, semE_14, semE_15, semE_16, semE_17, semE_18, semE_19, semE_20, semE_21, semE_22, semE_23, semE_24, semE_25, semE_26, semEs_0, semEs_1, semTs_0, semTs_1, semS_0, semS_1, semS_2, semS_3, semS_4, semS_5, semS_6, semS_7, semS_8, semS_9, semS_10, semS_11, semS_12, semS_13, semS_14, semS_15, semS_16, semS_17, semS_18, semS_19, semS_20, semS_21, semS_22, semS_23, semS_24, semSs_0, semSs_1, getV, peek, freeze, freeze1, keep, scalar, binD, addD, subD, mulD, fdivD, modD, powD, negD, augD, cmpB, eqB, truthD, boolR, biD, bi1, lenD, intD, mthD, itBi, it1, iterD, ixD, lstOf, ownAt, seqO_nx, seqO_rt, seqO_bk, seqO_ct, seqO_ex, seqO_no, R.ok_bind, rbind_ok, bindT_nm, bindT_tup, bindTs_nil, bindTs_cons, wipeE, isTy, tyD]
section
variable {a0 a1 a2 a3 a4 a5 a6 a7 a8 a9 a10 a11 a12 a13 a14 a15 a16 : SV}
theorem g4_eq {c most m s : Int} (e : t_law.fn "least_pair" [.int c, .int most] = .ok (.tuple [.int m, .int s])) :
    semS t_law g_law_4 [a0, a1, a2, V c, V most, a5, a6, a7, a8, a9, a10, a11, a12, a13, a14, a15, a16] = .ok (.nx [a0, a1, a2, V c, V most, V m, V s, a7, a8, a9, a10, a11, a12, a13, a14, a15, a16]) := by
  simp [g_law_4, runF, semE_0, semE_1, semE_2, semE_3, semE_4, semE_5, semE_6, semE_7, semE_8, semE_9, semE_10, semE_11, semE_12, semE_13, semE_14, semE_15, semE_16, semE_17, semE_18, semE_19, semE_20, semE_21, semE_22, semE_23, semE_24, semE_25, semE_26, semEs_0, semEs_1, semTs_0, semTs_1, semS_0, semS_1, semS_2, semS_3, semS_4, semS_5, semS_6, semS_7, semS_8, semS_9, semS_10, semS_11, semS_12, semS_13, semS_14, semS_15, semS_16, semS_17, semS_18, semS_19, semS_20, semS_21, semS_22, semS_23, semS_24, semSs_0, semSs_1, getV, peek, freeze, freeze1, keep, scalar, binD, addD, subD, mulD, fdivD, modD, powD, negD, augD, cmpB, eqB, truthD, boolR, biD, bi1, lenD, intD, mthD, itBi, it1, iterD, ixD, lstOf, ownAt, seqO_nx, seqO_rt, seqO_bk, seqO_ct, seqO_ex, seqO_no, R.ok_bind, rbind_ok, bindT_nm, bindT_tup, bindTs_nil, bindTs_cons, wipeE, e]
theorem g5_eq {c most m s : Int} (hc : 0 < c) : ∃ ts : List Int, ts.length = 9 ∧ 
    semS t_law g_law_5 [a0, a1, a2, V c, V most, V m, V s, a7, a8, a9, a10, a11, a12, a13, a14, a15, a16] = .ok (.nx [a0, a1, a2, V c, V most, V m, V s, .own (ts.map .int), a8, a9, a10, a11, a12, a13, a14, a15, a16]) := by
  have p : PySem.Builtin.divisionGoesByPylong most 2 = false := noPy (by decide)
  refine ⟨[0, 1, most, most / 2, c, c - 1, c + 1, most - most % c, most - most % c - 1], rfl, ?_⟩
  simp [g_law_5, runF, semE_0, semE_1, semE_2, semE_3, semE_4, semE_5, semE_6, semE_7, semE_8, semE_9, semE_10, semE_11, semE_12, semE_13, semE_14, semE_15, semE_16, semE_17, semE_18, semE_19, semE_20, semE_21, semE_22, semE_23, semE_24, semE_25, semE_26, semEs_0, semEs_1, semTs_0, semTs_1, semS_0, semS_1, semS_2, semS_3, semS_4, semS_5, semS_6, semS_7, semS_8, semS_9, semS_10, semS_11, semS_12, semS_13, semS_14, semS_15, semS_16, semS_17, semS_18, semS_19, semS_20, semS_21, semS_22, semS_23, semS_24, semSs_0, semSs_1, getV, peek, freeze, freeze1, keep, scalar, binD, addD, subD, mulD, fdivD, modD, powD, negD, augD, cmpB, eqB, truthD, boolR, biD, bi1, lenD, intD, mthD, itBi, it1, iterD, ixD, lstOf, ownAt, seqO_nx, seqO_rt, seqO_bk, seqO_ct, seqO_ex, seqO_no, R.ok_bind, rbind_ok, bindT_nm, bindT_tup, bindTs_nil, bindTs_cons, wipeE, hc, p, PySem.sizeLine_eq]
theorem b0_eq {d s : List D} {c k x1 x2 x3 x4 y1 : Int} {ts : List Int} (hl : ts.length + 1 < PySem.sizeLine) (e1 : atD s (7 + k % 5) = .ok (.int x1)) (e2 : atD d (6 + k) = .ok (.int x2)) (e3 : atD d (7 + k) = .ok (.int x3)) (e4 : atD d (8 + k) = .ok (.int x4)) (f1 : atD s (k % 7) = .ok (.int y1))
    (o1 : PySem.IntMulOk x1 x2) (o2 : PySem.IntMulOk (x1 * x2) x3) (o3 : PySem.IntMulOk y1 x2) (o4 : PySem.IntMulOk c (y1 * x2)) :
    semSs t_law b_law_0 [a0, .val (.list d), .val (.list s), V c, a4, a5, a6, .own (ts.map .int), V k, a9, a10, a11, a12, a13, a14, a15, a16] = .ok (.nx [a0, .val (.list d), .val (.list s), V c, a4, a5, a6, .own ((ts ++ [x1 * x2 * x3 + x4] ++ [c * (y1 * x2) - 1]).map .int), V k, a9, a10, a11, a12, a13, a14, a15, a16]) := by
  have hl2 : ts.length < PySem.sizeLine := by omega
  simp [b_law_0, runF, semE_0, semE_1, semE_2, semE_3, semE_4, semE_5, semE_6, semE_7, semE_8, semE_9, semE_10, semE_11, semE_12, semE_13, semE_14, semE_15, semE_16, semE_17, semE_18, semE_19, semE_20, semE_21, semE_22, semE_23, semE_24, semE_25, semE_26, semEs_0, semEs_1, semTs_0, semTs_1, semS_0, semS_1, semS_2, semS_3, semS_4, semS_5, semS_6, semS_7, semS_8, semS_9, semS_10, semS_11, semS_12, semS_13, semS_14, semS_15, semS_16, semS_17, semS_18, semS_19, semS_20, semS_21, semS_22, semS_23, semS_24, semSs_0, semSs_1, getV, peek, freeze, freeze1, keep, scalar, binD, addD, subD, mulD, fdivD, modD, powD, negD, augD, cmpB, eqB, truthD, boolR, biD, bi1, lenD, intD, mthD, itBi, it1, iterD, ixD, lstOf, ownAt, seqO_nx, seqO_rt, seqO_bk, seqO_ct, seqO_ex, seqO_no, R.ok_bind, rbind_ok, bindT_nm, bindT_tup, bindTs_nil, bindTs_cons, wipeE, e1, e2, e3, e4, f1, o1, o2, o3, o4, hl, hl2]
theorem g6_run {env e' : Env} (h : forD (.nm 8) (semSs t_law b_law_0) (rangeL 0 20) env = .ok (.nx e')) : semS t_law g_law_6 env = .ok (.nx e') := by
  have hs : smallI 20 = true := by decide
  simp [g_law_6, runF, semE_0, semE_1, semE_2, semE_3, semE_4, semE_5, semE_6, semE_7, semE_8, semE_9, semE_10, semE_11, semE_12, semE_13, semE_14, semE_15, semE_16, semE_17, semE_18, semE_19, semE_20, semE_21, semE_22, semE_23, semE_24, semE_25, semE_26, semEs_0, semEs_1, semTs_0, semTs_1, semS_0, semS_1, semS_2, semS_3, semS_4, semS_5, semS_6, semS_7, semS_8, semS_9, semS_10, semS_11, semS_12, semS_13, semS_14, semS_15, semS_16, semS_17, semS_18, semS_19, semS_20, semS_21, semS_22, semS_23, semS_24, semSs_0, semSs_1, getV, peek, freeze, freeze1, keep, scalar, binD, addD, subD, mulD, fdivD, modD, powD, negD, augD, cmpB, eqB, truthD, boolR, biD, bi1, lenD, intD, mthD, itBi, it1, iterD, ixD, lstOf, ownAt, seqO_nx, seqO_rt, seqO_bk, seqO_ct, seqO_ex, seqO_no, R.ok_bind, rbind_ok, bindT_nm, bindT_tup, bindTs_nil, bindTs_cons, wipeE, rangeD, hs, h]
theorem g6_eq {ds so ts : List Int} {c : Int} (h : Draws ds so) (hcb : bt c ≤ 49) (hts : ts.length = 9) : ∃ (ts' : List Int) (k : SV),
    semS t_law g_law_6 [a0, .val (Lst ds), .val (Lst so), V c, a4, a5, a6, .own (ts.map .int), a8, a9, a10, a11, a12, a13, a14, a15, a16] = .ok (.nx [a0, .val (Lst ds), .val (Lst so), V c, a4, a5, a6, .own (ts'.map .int), k, a9, a10, a11, a12, a13, a14, a15, a16]) := by
  obtain ⟨e', h1, ts', k', h2, h3⟩ := forD_inv (t := .nm 8) (b := semSs t_law b_law_0) (g := fun i : Nat => PySem.PyData.int (i : Int)) (fun pre env => ∃ (ts' : List Int) (k : SV), env = [a0, .val (Lst ds), .val (Lst so), V c, a4, a5, a6, .own (ts'.map .int), k, a9, a10, a11, a12, a13, a14, a15, a16] ∧ ts'.length = 9 + 2 * pre.length)
      (l := List.range 20) (ds := List.range 20) (pre := []) (env := [a0, .val (Lst ds), .val (Lst so), V c, a4, a5, a6, .own (ts.map .int), a8, a9, a10, a11, a12, a13, a14, a15, a16]) ⟨ts, a8, rfl, by simp [hts]⟩ rfl (by
        rintro pre x post env he ⟨ts', k', rfl, h1⟩
        have hx := pre_lt he
        rw [List.length_range] at hx
        have hx2 : x < 20 := List.mem_range.mp (by rw [← he]; simp)
        refine ⟨[a0, .val (Lst ds), .val (Lst so), V c, a4, a5, a6, .own (ts'.map .int), V x, a9, a10, a11, a12, a13, a14, a15, a16], _, rfl, 
          b0_eq (sl_lt (by omega)) (h.si (by omega) (by omega)) (h.di (by omega) (by omega)) (h.di (by omega) (by omega)) (h.di (by omega) (by omega)) (h.si (by omega) (by omega))
            (mulOk (h.bs _) (h.bd _) (by decide)) (mulOk (bt_mul (h.bs _) (h.bd _)) (h.bd _) (by decide)) (mulOk (h.bs _) (h.bd _) (by decide)) (mulOk hcb (bt_mul (h.bs _) (h.bd _)) (by decide)), _, _, rfl, ?_⟩
        rw [List.length_append, List.length_append, List.length_append, h1]
        show 9 + 2 * pre.length + 1 + 1 = 9 + 2 * (pre.length + 1)
        omega)
  subst h2
  exact ⟨ts', k', g6_run h1⟩
theorem b1_eq {c most m s x p y : Int} (hy : x % (most + 1) = y) (hc : 0 < c) (hm : 0 < most + 1) (hp : 0 < p) (e : t_law.fn "_law_power" [.int 2, .int s] = .ok (.int p)) (o : PySem.IntMulOk (y) m) (p1 : PySem.Builtin.divisionGoesByPylong (y) c = false) (p2 : PySem.Builtin.divisionGoesByPylong (y * m) p = false)
    (h : y / c = y * m / p) :
    semSs t_law b_law_1 [a0, a1, a2, V c, V most, V m, V s, a7, a8, V x, a10, a11, a12, a13, a14, a15, a16] = .ok (.nx [a0, a1, a2, V c, V most, V m, V s, a7, a8, V (y), a10, a11, a12, a13, a14, a15, a16]) := by
  simp [b_law_1, runF, semE_0, semE_1, semE_2, semE_3, semE_4, semE_5, semE_6, semE_7, semE_8, semE_9, semE_10, semE_11, semE_12, semE_13, semE_14, semE_15, semE_16, semE_17, semE_18, semE_19, semE_20, semE_21, semE_22, semE_23, semE_24, semE_25, semE_26, semEs_0, semEs_1, semTs_0, semTs_1, semS_0, semS_1, semS_2, semS_3, semS_4, semS_5, semS_6, semS_7, semS_8, semS_9, semS_10, semS_11, semS_12, semS_13, semS_14, semS_15, semS_16, semS_17, semS_18, semS_19, semS_20, semS_21, semS_22, semS_23, semS_24, semSs_0, semSs_1, getV, peek, freeze, freeze1, keep, scalar, binD, addD, subD, mulD, fdivD, modD, powD, negD, augD, cmpB, eqB, truthD, boolR, biD, bi1, lenD, intD, mthD, itBi, it1, iterD, ixD, lstOf, ownAt, seqO_nx, seqO_rt, seqO_bk, seqO_ct, seqO_ex, seqO_no, R.ok_bind, rbind_ok, bindT_nm, bindT_tup, bindTs_nil, bindTs_cons, wipeE, hy, hc, hm, hp, e, o, p1, p2, h]
theorem g7_run {ts : List D} {e' : Env} (hl : True) (h : forD (.nm 9) (semSs t_law b_law_1) ts [a0, a1, a2, a3, a4, a5, a6, .val (.list ts), a8, a9, a10, a11, a12, a13, a14, a15, a16] = .ok (.nx e')) :
    semS t_law g_law_7 [a0, a1, a2, a3, a4, a5, a6, .own ts, a8, a9, a10, a11, a12, a13, a14, a15, a16] = .ok (.nx e') := by
  simp [g_law_7, runF, semE_0, semE_1, semE_2, semE_3, semE_4, semE_5, semE_6, semE_7, semE_8, semE_9, semE_10, semE_11, semE_12, semE_13, semE_14, semE_15, semE_16, semE_17, semE_18, semE_19, semE_20, semE_21, semE_22, semE_23, semE_24, semE_25, semE_26, semEs_0, semEs_1, semTs_0, semTs_1, semS_0, semS_1, semS_2, semS_3, semS_4, semS_5, semS_6, semS_7, semS_8, semS_9, semS_10, semS_11, semS_12, semS_13, semS_14, semS_15, semS_16, semS_17, semS_18, semS_19, semS_20, semS_21, semS_22, semS_23, semS_24, semSs_0, semSs_1, getV, peek, freeze, freeze1, keep, scalar, binD, addD, subD, mulD, fdivD, modD, powD, negD, augD, cmpB, eqB, truthD, boolR, biD, bi1, lenD, intD, mthD, itBi, it1, iterD, ixD, lstOf, ownAt, seqO_nx, seqO_rt, seqO_bk, seqO_ct, seqO_ex, seqO_no, R.ok_bind, rbind_ok, bindT_nm, bindT_tup, bindTs_nil, bindTs_cons, wipeE, h]
end
end G

namespace G
open Y
theorem compD_none {α : Type} {f : D → R (Option D)} {h : α → D} : ∀ {xs : List α}, (∀ x ∈ xs, f (h x) = .ok none) → compD f (xs.map h) = .ok []
  | [], _ => rfl
  | x :: xs, e => by
    show (f (h x)).bind _ = _
    rw [e x (by simp), R.bind, compD_none fun y hy => e y (by simp [hy])]
    rfl
theorem compD_filter {α : Type} {f : D → R (Option D)} {h : α → D} (g : α → Bool) : ∀ {xs : List α}, (∀ x ∈ xs, f (h x) = .ok (if g x then some (h x) else none)) → compD f (xs.map h) = .ok ((xs.filter g).map h)
  | [], _ => rfl
  | x :: xs, e => by
    show (f (h x)).bind _ = _
    rw [e x (by simp), R.bind, compD_filter g fun y hy => e y (by simp [hy]), List.filter_cons]
    cases g x <;> rfl
def compF (T : Tab) (own : List Nat) (elt : Ex) (tg : Tg) (ifs : List Ex) (env : Env) (d : D) : R (Option D) := (bindT tg d (wipeE env own)).bind fun env' => (semTs T ifs env').bind fun k => if k = true then (semE T elt env').bind fun x => .ok (some x) else .ok none
theorem comp_eq {T : Tab} {own : List Nat} {elt : Ex} {tg : Tg} {itf : String} {its ifs : List Ex} {env : Env} {as ds r : List D} (h1 : semEs T its env = .ok as) (h2 : itBi itf as = .ok ds) (h3 : ds.length ≤ PySem.sizeLine) (h4 : compD (compF T own elt tg ifs env) ds = .ok r) :
    semE T (.comp own elt tg itf its ifs) env = .ok (.list r) := by
  rw [semE, h1]
  show (itBi itf as >>= _) = _
  rw [h2]
  show (if ds.length ≤ PySem.sizeLine then _ else _) = _
  rw [if_pos h3]
  show (compD (compF T own elt tg ifs env) ds >>= _) = _
  rw [h4]
  rfl
def pairD (p : Int × Int) : D := .tuple [.int p.1, .int p.2]
section
variable {a0 a1 a2 a3 a4 a5 a6 a7 a8 a9 a10 a11 a12 a13 a14 a15 a16 : SV}
theorem g8_eq {c most : Int} {ps : List D} (e : t_law.fn "probes_for" [.int c, .int most] = .ok (.list ps)) :
    semS t_law g_law_8 [a0, a1, a2, V c, V most, a5, a6, a7, a8, a9, a10, a11, a12, a13, a14, a15, a16] = .ok (.nx [a0, a1, a2, V c, V most, a5, a6, a7, a8, a9, .val (.list ps), a11, a12, a13, a14, a15, a16]) := by
  simp [g_law_8, runF, semE_0, semE_1, semE_2, semE_3, semE_4, semE_5, semE_6, semE_7, semE_8, semE_9, semE_10, semE_11, semE_12, semE_13, semE_14, semE_15, semE_16, semE_17, semE_18, semE_19, semE_20, semE_21, semE_22, semE_23, semE_24, semE_25, semE_26, semEs_0, semEs_1, semTs_0, semTs_1, semS_0, semS_1, semS_2, semS_3, semS_4, semS_5, semS_6, semS_7, semS_8, semS_9, semS_10, semS_11, semS_12, semS_13, semS_14, semS_15, semS_16, semS_17, semS_18, semS_19, semS_20, semS_21, semS_22, semS_23, semS_24, semSs_0, semSs_1, getV, peek, freeze, freeze1, keep, scalar, binD, addD, subD, mulD, fdivD, modD, powD, negD, augD, cmpB, eqB, truthD, boolR, biD, bi1, lenD, intD, mthD, itBi, it1, iterD, ixD, lstOf, ownAt, seqO_nx, seqO_rt, seqO_bk, seqO_ct, seqO_ex, seqO_no, R.ok_bind, rbind_ok, bindT_nm, bindT_tup, bindTs_nil, bindTs_cons, wipeE, e]
theorem g9_in {most x : Int} (h : 0 ≤ x ∧ x ≤ most) {b c m s : SV} : 
    compF t_law [9] (.var 9) (.nm 9) [.or (.cmp .lt (.var 9) (.cst (.int 0))) (.cmp .gt (.var 9) (.var 4))] [a0, a1, a2, a3, V most, a5, a6, a7, a8, a9, a10, a11, a12, a13, a14, a15, a16] (.int x) = .ok none := by
  have h1 : ¬ x < 0 := by omega
  have h2 : ¬ most < x := by omega
  unfold compF
  simp [runF, semE_0, semE_1, semE_2, semE_3, semE_4, semE_5, semE_6, semE_7, semE_8, semE_9, semE_10, semE_11, semE_12, semE_13, semE_14, semE_15, semE_16, semE_17, semE_18, semE_19, semE_20, semE_21, semE_22, semE_23, semE_24, semE_25, semE_26, semEs_0, semEs_1, semTs_0, semTs_1, semS_0, semS_1, semS_2, semS_3, semS_4, semS_5, semS_6, semS_7, semS_8, semS_9, semS_10, semS_11, semS_12, semS_13, semS_14, semS_15, semS_16, semS_17, semS_18, semS_19, semS_20, semS_21, semS_22, semS_23, semS_24, semSs_0, semSs_1, getV, peek, freeze, freeze1, keep, scalar, binD, addD, subD, mulD, fdivD, modD, powD, negD, augD, cmpB, eqB, truthD, boolR, biD, bi1, lenD, intD, mthD, itBi, it1, iterD, ixD, lstOf, ownAt, seqO_nx, seqO_rt, seqO_bk, seqO_ct, seqO_ex, seqO_no, R.ok_bind, rbind_ok, bindT_nm, bindT_tup, bindTs_nil, bindTs_cons, wipeE, h1, h2]
theorem g9_eq {c most m s : Int} {ps : List Int} (hl : ps.length ≤ PySem.sizeLine) (hp : ∀ x ∈ ps, 0 ≤ x ∧ x ≤ most) (e1 : t_law.fn "divides" [.int c, .int most, .int m, .int s] = .ok (.bool true)) (e2 : t_law.fn "judge_pair" [.int c, .int most, .int m, .int s] = .ok (.bool true)) :
    semS t_law g_law_9 [a0, a1, a2, V c, V most, V m, V s, a7, a8, a9, .val (Lst ps), a11, a12, a13, a14, a15, a16] = .ok (.nx [a0, a1, a2, V c, V most, V m, V s, a7, a8, a9, .val (Lst ps), a11, a12, a13, a14, a15, a16]) := by
  have e3 : t_law.fn "_law_same" [.bool true, .bool true] = .ok (.bool true) := same_tt
  have e4 := compD_none (xs := ps) (h := PySem.PyData.int) fun x hx => g9_in (a0 := a0) (a1 := a1) (a2 := a2) (a3 := V c) (most := most) (a5 := V m) (a6 := V s) (a7 := a7) (a8 := a8) (a9 := a9) (a10 := .val (Lst ps)) (a11 := a11) (a12 := a12) (a13 := a13) (a14 := a14) (a15 := a15) (a16 := a16) (hp x hx) (b := a0) (c := a0) (m := a0) (s := a0)
  unfold g_law_9
  have e5 : semE t_law (.comp [9] (.var 9) (.nm 9) "" [.var 10] [.or (.cmp .lt (.var 9) (.cst (.int 0))) (.cmp .gt (.var 9) (.var 4))]) [a0, a1, a2, V c, V most, V m, V s, a7, a8, a9, .val (Lst ps), a11, a12, a13, a14, a15, a16] = .ok (.list []) := by
    exact comp_eq (as := [Lst ps]) rfl rfl (by rw [List.length_map]; exact hl) e4
  generalize (Ex.comp [9] (.var 9) (.nm 9) "" [.var 10] [.or (.cmp .lt (.var 9) (.cst (.int 0))) (.cmp .gt (.var 9) (.var 4))]) = C at *
  simp [runF, semE_0, semE_1, semE_2, semE_3, semE_4, semE_5, semE_6, semE_7, semE_8, semE_9, semE_10, semE_11, semE_12, semE_13, semE_14, semE_15, semE_16, semE_17, semE_18, semE_19, semE_20, semE_21, semE_22, semE_23, semE_24, semE_25, semE_26, semEs_0, semEs_1, semTs_0, semTs_1, semS_0, semS_1, semS_2, semS_3, semS_4, semS_5, semS_6, semS_7, semS_8, semS_9, semS_10, semS_11, semS_12, semS_13, semS_14, semS_15, semS_16, semS_17, semS_18, semS_19, semS_20, semS_21, semS_22, semS_23, semS_24, semSs_0, semSs_1, getV, peek, freeze, freeze1, keep, scalar, binD, addD, subD, mulD, fdivD, modD, powD, negD, augD, cmpB, eqB, truthD, boolR, biD, bi1, lenD, intD, mthD, itBi, it1, iterD, ixD, lstOf, ownAt, seqO_nx, seqO_rt, seqO_bk, seqO_ct, seqO_ex, seqO_no, R.ok_bind, rbind_ok, bindT_nm, bindT_tup, bindTs_nil, bindTs_cons, wipeE, e5, e1, e2, e3]
theorem g10_eq {c m s : Int} (o1 : PySem.IntMulOk 2 m) (o2 : PySem.IntMulOk 4 m) :
    semS t_law g_law_10 [a0, a1, a2, V c, a4, V m, V s, a7, a8, a9, a10, a11, a12, a13, a14, a15, a16] = .ok (.nx [a0, a1, a2, V c, a4, V m, V s, a7, a8, a9, a10, .val (.list ([(m + 1, s), (2 * m, s + 1), (2 * m - 1, s + 1), (m + c, s), (m, s + 1), (4 * m, s + 2)].map pairD)), a12, a13, a14, a15, a16]) := by
  simp [g_law_10, runF, semE_0, semE_1, semE_2, semE_3, semE_4, semE_5, semE_6, semE_7, semE_8, semE_9, semE_10, semE_11, semE_12, semE_13, semE_14, semE_15, semE_16, semE_17, semE_18, semE_19, semE_20, semE_21, semE_22, semE_23, semE_24, semE_25, semE_26, semEs_0, semEs_1, semTs_0, semTs_1, semS_0, semS_1, semS_2, semS_3, semS_4, semS_5, semS_6, semS_7, semS_8, semS_9, semS_10, semS_11, semS_12, semS_13, semS_14, semS_15, semS_16, semS_17, semS_18, semS_19, semS_20, semS_21, semS_22, semS_23, semS_24, semSs_0, semSs_1, getV, peek, freeze, freeze1, keep, scalar, binD, addD, subD, mulD, fdivD, modD, powD, negD, augD, cmpB, eqB, truthD, boolR, biD, bi1, lenD, intD, mthD, itBi, it1, iterD, ixD, lstOf, ownAt, seqO_nx, seqO_rt, seqO_bk, seqO_ct, seqO_ex, seqO_no, R.ok_bind, rbind_ok, bindT_nm, bindT_tup, bindTs_nil, bindTs_cons, wipeE, o1, o2, pairD, PySem.sizeLine_eq]
theorem g11_no {m s : Int} (h : ¬ (s > 0 ∧ m > 0)) : semS t_law g_law_11 [a0, a1, a2, a3, a4, V m, V s, a7, a8, a9, a10, a11, a12, a13, a14, a15, a16] = .ok (.nx [a0, a1, a2, a3, a4, V m, V s, a7, a8, a9, a10, a11, a12, a13, a14, a15, a16]) := by
  by_cases h1 : 0 < s
  · have h2 : ¬ 0 < m := fun k => h ⟨h1, k⟩
    simp [g_law_11, runF, semE_0, semE_1, semE_2, semE_3, semE_4, semE_5, semE_6, semE_7, semE_8, semE_9, semE_10, semE_11, semE_12, semE_13, semE_14, semE_15, semE_16, semE_17, semE_18, semE_19, semE_20, semE_21, semE_22, semE_23, semE_24, semE_25, semE_26, semEs_0, semEs_1, semTs_0, semTs_1, semS_0, semS_1, semS_2, semS_3, semS_4, semS_5, semS_6, semS_7, semS_8, semS_9, semS_10, semS_11, semS_12, semS_13, semS_14, semS_15, semS_16, semS_17, semS_18, semS_19, semS_20, semS_21, semS_22, semS_23, semS_24, semSs_0, semSs_1, getV, peek, freeze, freeze1, keep, scalar, binD, addD, subD, mulD, fdivD, modD, powD, negD, augD, cmpB, eqB, truthD, boolR, biD, bi1, lenD, intD, mthD, itBi, it1, iterD, ixD, lstOf, ownAt, seqO_nx, seqO_rt, seqO_bk, seqO_ct, seqO_ex, seqO_no, R.ok_bind, rbind_ok, bindT_nm, bindT_tup, bindTs_nil, bindTs_cons, wipeE, h1, h2]
  · simp [g_law_11, runF, semE_0, semE_1, semE_2, semE_3, semE_4, semE_5, semE_6, semE_7, semE_8, semE_9, semE_10, semE_11, semE_12, semE_13, semE_14, semE_15, semE_16, semE_17, semE_18, semE_19, semE_20, semE_21, semE_22, semE_23, semE_24, semE_25, semE_26, semEs_0, semEs_1, semTs_0, semTs_1, semS_0, semS_1, semS_2, semS_3, semS_4, semS_5, semS_6, semS_7, semS_8, semS_9, semS_10, semS_11, semS_12, semS_13, semS_14, semS_15, semS_16, semS_17, semS_18, semS_19, semS_20, semS_21, semS_22, semS_23, semS_24, semSs_0, semSs_1, getV, peek, freeze, freeze1, keep, scalar, binD, addD, subD, mulD, fdivD, modD, powD, negD, augD, cmpB, eqB, truthD, boolR, biD, bi1, lenD, intD, mthD, itBi, it1, iterD, ixD, lstOf, ownAt, seqO_nx, seqO_rt, seqO_bk, seqO_ct, seqO_ex, seqO_no, R.ok_bind, rbind_ok, bindT_nm, bindT_tup, bindTs_nil, bindTs_cons, wipeE, h1]
theorem g11_in {c p d x s1 : Int} (hc : 0 < c) (hp : 0 < p) (p1 : PySem.Builtin.divisionGoesByPylong x c = false) (p2 : PySem.Builtin.divisionGoesByPylong (x * d) p = false) (o : PySem.IntMulOk x d) {s : Int} (e : t_law.fn "_law_power" [.int 2, .int (s - 1)] = .ok (.int p)) :
    compF t_law [9] (.var 9) (.nm 9) [.cmp .ne (.bin .fdiv (.var 9) (.var 3)) (.bin .fdiv (.bin .mul (.var 9) (.var 12)) (.call "_law_power" [.cst (.int 2), .bin .sub (.var 6) (.cst (.int 1))]))] [a0, a1, a2, V c, a4, a5, V s, a7, a8, a9, a10, a11, V d, a13, a14, a15, a16] (.int x)
     = .ok (if (!decide (x / c = x * d / p)) = true then some (.int x) else none) := by
  unfold compF
  by_cases h : x / c = x * d / p <;> simp [runF, semE_0, semE_1, semE_2, semE_3, semE_4, semE_5, semE_6, semE_7, semE_8, semE_9, semE_10, semE_11, semE_12, semE_13, semE_14, semE_15, semE_16, semE_17, semE_18, semE_19, semE_20, semE_21, semE_22, semE_23, semE_24, semE_25, semE_26, semEs_0, semEs_1, semTs_0, semTs_1, semS_0, semS_1, semS_2, semS_3, semS_4, semS_5, semS_6, semS_7, semS_8, semS_9, semS_10, semS_11, semS_12, semS_13, semS_14, semS_15, semS_16, semS_17, semS_18, semS_19, semS_20, semS_21, semS_22, semS_23, semS_24, semSs_0, semSs_1, getV, peek, freeze, freeze1, keep, scalar, binD, addD, subD, mulD, fdivD, modD, powD, negD, augD, cmpB, eqB, truthD, boolR, biD, bi1, lenD, intD, mthD, itBi, it1, iterD, ixD, lstOf, ownAt, seqO_nx, seqO_rt, seqO_bk, seqO_ct, seqO_ex, seqO_no, R.ok_bind, rbind_ok, bindT_nm, bindT_tup, bindTs_nil, bindTs_cons, wipeE, hc, hp, p1, p2, o, e, h]
theorem g11_yes {c m s p d : Int} {ps : List Int} {bs : List (Int × Int)} (hl : ps.length ≤ PySem.sizeLine) (hc : 0 < c) (hp : 0 < p) (h1 : 0 < s) (h2 : 0 < m) (e : t_law.fn "_law_power" [.int 2, .int (s - 1)] = .ok (.int p)) (hd : 0 - (0 - p) / c = d)
    (q0 : PySem.Builtin.divisionGoesByPylong (0 - p) c = false) (q1 : ∀ x ∈ ps, PySem.Builtin.divisionGoesByPylong x c = false) (q2 : ∀ x ∈ ps, PySem.Builtin.divisionGoesByPylong (x * d) p = false) (q3 : ∀ x ∈ ps, PySem.IntMulOk x d) (q4 : PySem.Builtin.divisionGoesByPylong m 2 = false)
    (hx : ∃ x ∈ ps, ¬ x / c = x * d / p) (hb : bs.length ≤ 100) :
    semS t_law g_law_11 [a0, a1, a2, V c, a4, V m, V s, a7, a8, a9, .val (Lst ps), .val (.list (bs.map pairD)), a12, a13, a14, a15, a16] = .ok (.nx [a0, a1, a2, V c, a4, V m, V s, a7, a8, a9, .val (Lst ps), .val (.list ((bs ++ [(m - 1, s), (d, s - 1), (m, s - 1), (m / 2, s - 1)]).map pairD)), V d, a13, a14, a15, a16]) := by
  obtain ⟨r, hr, hr2⟩ : ∃ r : List Int, r = ps.filter (fun x => !decide (x / c = x * d / p)) ∧ r ≠ [] := by
    refine ⟨_, rfl, fun e => ?_⟩
    obtain ⟨x, h1, h2⟩ := hx
    have : x ∈ ps.filter (fun x => !decide (x / c = x * d / p)) := List.mem_filter.mpr ⟨h1, by simp [h2]⟩
    rw [e] at this
    cases this
  have e4 := compD_filter (fun x => !decide (x / c = x * d / p)) (xs := ps) (h := PySem.PyData.int) fun x hx => g11_in (a0 := a0) (a1 := a1) (a2 := a2) (c := c) (a4 := a4) (a5 := V m) (s := s) (a7 := a7) (a8 := a8) (a9 := a9) (a10 := .val (Lst ps)) (a11 := .val (.list ((bs ++ [(m - 1, s), (d, s - 1), (m, s - 1), (m / 2, s - 1)]).map pairD))) (d := d) (a13 := a13) (a14 := a14) (a15 := a15) (a16 := a16) (s1 := 0) (x := x) hc hp (q1 x hx) (q2 x hx) (q3 x hx) e
  rw [← hr] at e4
  have e5 : semE t_law (.comp [9] (.var 9) (.nm 9) "" [.var 10] [.cmp .ne (.bin .fdiv (.var 9) (.var 3)) (.bin .fdiv (.bin .mul (.var 9) (.var 12)) (.call "_law_power" [.cst (.int 2), .bin .sub (.var 6) (.cst (.int 1))]))]) [a0, a1, a2, V c, a4, V m, V s, a7, a8, a9, .val (Lst ps), .val (.list ((bs ++ [(m - 1, s), (d, s - 1), (m, s - 1), (m / 2, s - 1)]).map pairD)), V d, a13, a14, a15, a16] = .ok (Lst r) := by
    exact comp_eq (as := [Lst ps]) rfl rfl (by rw [List.length_map]; exact hl) e4
  have hr3 : ¬ r.length = 0 := fun k => hr2 (List.eq_nil_of_length_eq_zero k)
  have hsz : bs.length ≤ 16777212 := by omega
  unfold g_law_11
  generalize (Ex.comp [9] (.var 9) (.nm 9) "" [.var 10] [.cmp .ne (.bin .fdiv (.var 9) (.var 3)) (.bin .fdiv (.bin .mul (.var 9) (.var 12)) (.call "_law_power" [.cst (.int 2), .bin .sub (.var 6) (.cst (.int 1))]))]) = C at *
  rw [List.map_append] at e5 ⊢
  simp only [List.map, pairD] at e5
  generalize hbs : List.map pairD bs = BS at *
  have hbl : BS.length = bs.length := by rw [← hbs, List.length_map]
  have hd' : 0 - (-p) / c = d := by rw [← hd]; simp
  have hd'' : -(-p / c) = d := by rw [← hd']; simp
  have q0' : PySem.Builtin.divisionGoesByPylong (-p) c = false := by rw [← q0]; simp
  simp [runF, semE_0, semE_1, semE_2, semE_3, semE_4, semE_5, semE_6, semE_7, semE_8, semE_9, semE_10, semE_11, semE_12, semE_13, semE_14, semE_15, semE_16, semE_17, semE_18, semE_19, semE_20, semE_21, semE_22, semE_23, semE_24, semE_25, semE_26, semEs_0, semEs_1, semTs_0, semTs_1, semS_0, semS_1, semS_2, semS_3, semS_4, semS_5, semS_6, semS_7, semS_8, semS_9, semS_10, semS_11, semS_12, semS_13, semS_14, semS_15, semS_16, semS_17, semS_18, semS_19, semS_20, semS_21, semS_22, semS_23, semS_24, semSs_0, semSs_1, getV, peek, freeze, freeze1, keep, scalar, binD, addD, subD, mulD, fdivD, modD, powD, negD, augD, cmpB, eqB, truthD, boolR, biD, bi1, lenD, intD, mthD, itBi, it1, iterD, ixD, lstOf, ownAt, seqO_nx, seqO_rt, seqO_bk, seqO_ct, seqO_ex, seqO_no, R.ok_bind, rbind_ok, bindT_nm, bindT_tup, bindTs_nil, bindTs_cons, wipeE, h1, h2, e, hc, q0', hd'', e5, q4, hr3, hr2, hbl, hsz, pairD, PySem.sizeLine_eq]
end
end G

namespace G
open Y
section
variable {a0 a1 a2 a3 a4 a5 a6 a7 a8 a9 a10 a11 a12 a13 a14 a15 a16 : SV}
theorem b2_eq {c most m s a b : Int} (e : 0 ≤ a → ¬ (a = m ∧ b = s) → t_law.fn "judge_pair" [.int c, .int most, .int a, .int b] = .ok (.bool false)) :
    semSs t_law b_law_2 [a0, a1, a2, V c, V most, V m, V s, a7, a8, a9, a10, a11, a12, V a, V b, a15, a16] = .ok (.nx [a0, a1, a2, V c, V most, V m, V s, a7, a8, a9, a10, a11, a12, V a, V b, a15, a16]) := by
  have h1 := shaped_pair a b
  have h2 := shaped_pair m s
  have h3 := eqv_pair a b m s
  by_cases hab : a = m ∧ b = s
  · obtain ⟨rfl, rfl⟩ := hab
    have h4 : PySem.PyData.eqv (.tuple [.int a, .int b]) (.tuple [.int a, .int b]) = true := by rw [eqv_pair]; simp
    simp [b_law_2, runF, semE_0, semE_1, semE_2, semE_3, semE_4, semE_5, semE_6, semE_7, semE_8, semE_9, semE_10, semE_11, semE_12, semE_13, semE_14, semE_15, semE_16, semE_17, semE_18, semE_19, semE_20, semE_21, semE_22, semE_23, semE_24, semE_25, semE_26, semEs_0, semEs_1, semTs_0, semTs_1, semS_0, semS_1, semS_2, semS_3, semS_4, semS_5, semS_6, semS_7, semS_8, semS_9, semS_10, semS_11, semS_12, semS_13, semS_14, semS_15, semS_16, semS_17, semS_18, semS_19, semS_20, semS_21, semS_22, semS_23, semS_24, semSs_0, semSs_1, getV, peek, freeze, freeze1, keep, scalar, binD, addD, subD, mulD, fdivD, modD, powD, negD, augD, cmpB, eqB, truthD, boolR, biD, bi1, lenD, intD, mthD, itBi, it1, iterD, ixD, lstOf, ownAt, seqO_nx, seqO_rt, seqO_bk, seqO_ct, seqO_ex, seqO_no, R.ok_bind, rbind_ok, bindT_nm, bindT_tup, bindTs_nil, bindTs_cons, wipeE, h1, h4, PySem.sizeLine_eq]
  · have h4 : PySem.PyData.eqv (.tuple [.int a, .int b]) (.tuple [.int m, .int s]) = false := by
      rw [h3]
      by_cases k : a = m
      · have : ¬ b = s := fun q => hab ⟨k, q⟩
        simp [this]
      · simp [k]
    by_cases ha : 0 ≤ a
    · have e := e ha hab
      simp [b_law_2, runF, semE_0, semE_1, semE_2, semE_3, semE_4, semE_5, semE_6, semE_7, semE_8, semE_9, semE_10, semE_11, semE_12, semE_13, semE_14, semE_15, semE_16, semE_17, semE_18, semE_19, semE_20, semE_21, semE_22, semE_23, semE_24, semE_25, semE_26, semEs_0, semEs_1, semTs_0, semTs_1, semS_0, semS_1, semS_2, semS_3, semS_4, semS_5, semS_6, semS_7, semS_8, semS_9, semS_10, semS_11, semS_12, semS_13, semS_14, semS_15, semS_16, semS_17, semS_18, semS_19, semS_20, semS_21, semS_22, semS_23, semS_24, semSs_0, semSs_1, getV, peek, freeze, freeze1, keep, scalar, binD, addD, subD, mulD, fdivD, modD, powD, negD, augD, cmpB, eqB, truthD, boolR, biD, bi1, lenD, intD, mthD, itBi, it1, iterD, ixD, lstOf, ownAt, seqO_nx, seqO_rt, seqO_bk, seqO_ct, seqO_ex, seqO_no, R.ok_bind, rbind_ok, bindT_nm, bindT_tup, bindTs_nil, bindTs_cons, wipeE, h1, h2, h4, ha, e, PySem.sizeLine_eq]
    · simp [b_law_2, runF, semE_0, semE_1, semE_2, semE_3, semE_4, semE_5, semE_6, semE_7, semE_8, semE_9, semE_10, semE_11, semE_12, semE_13, semE_14, semE_15, semE_16, semE_17, semE_18, semE_19, semE_20, semE_21, semE_22, semE_23, semE_24, semE_25, semE_26, semEs_0, semEs_1, semTs_0, semTs_1, semS_0, semS_1, semS_2, semS_3, semS_4, semS_5, semS_6, semS_7, semS_8, semS_9, semS_10, semS_11, semS_12, semS_13, semS_14, semS_15, semS_16, semS_17, semS_18, semS_19, semS_20, semS_21, semS_22, semS_23, semS_24, semSs_0, semSs_1, getV, peek, freeze, freeze1, keep, scalar, binD, addD, subD, mulD, fdivD, modD, powD, negD, augD, cmpB, eqB, truthD, boolR, biD, bi1, lenD, intD, mthD, itBi, it1, iterD, ixD, lstOf, ownAt, seqO_nx, seqO_rt, seqO_bk, seqO_ct, seqO_ex, seqO_no, R.ok_bind, rbind_ok, bindT_nm, bindT_tup, bindTs_nil, bindTs_cons, wipeE, h1, h2, h4, ha, PySem.sizeLine_eq]
theorem g12_run {ds : List D} {e' : Env} (h : forD (.tup [.nm 13, .nm 14]) (semSs t_law b_law_2) ds [a0, a1, a2, a3, a4, a5, a6, a7, a8, a9, a10, .val (.list ds), a12, a13, a14, a15, a16] = .ok (.nx e')) :
    semS t_law g_law_12 [a0, a1, a2, a3, a4, a5, a6, a7, a8, a9, a10, .val (.list ds), a12, a13, a14, a15, a16] = .ok (.nx e') := by
  simp [g_law_12, runF, semE_0, semE_1, semE_2, semE_3, semE_4, semE_5, semE_6, semE_7, semE_8, semE_9, semE_10, semE_11, semE_12, semE_13, semE_14, semE_15, semE_16, semE_17, semE_18, semE_19, semE_20, semE_21, semE_22, semE_23, semE_24, semE_25, semE_26, semEs_0, semEs_1, semTs_0, semTs_1, semS_0, semS_1, semS_2, semS_3, semS_4, semS_5, semS_6, semS_7, semS_8, semS_9, semS_10, semS_11, semS_12, semS_13, semS_14, semS_15, semS_16, semS_17, semS_18, semS_19, semS_20, semS_21, semS_22, semS_23, semS_24, semSs_0, semSs_1, getV, peek, freeze, freeze1, keep, scalar, binD, addD, subD, mulD, fdivD, modD, powD, negD, augD, cmpB, eqB, truthD, boolR, biD, bi1, lenD, intD, mthD, itBi, it1, iterD, ixD, lstOf, ownAt, seqO_nx, seqO_rt, seqO_bk, seqO_ct, seqO_ex, seqO_no, R.ok_bind, rbind_ok, bindT_nm, bindT_tup, bindTs_nil, bindTs_cons, wipeE, h]
theorem g12_eq {c most m s : Int} {bs : List (Int × Int)} (e : ∀ p ∈ bs, 0 ≤ p.1 → ¬ (p.1 = m ∧ p.2 = s) → t_law.fn "judge_pair" [.int c, .int most, .int p.1, .int p.2] = .ok (.bool false)) : ∃ x y,
    semS t_law g_law_12 [a0, a1, a2, V c, V most, V m, V s, a7, a8, a9, a10, .val (.list (bs.map pairD)), a12, a13, a14, a15, a16] = .ok (.nx [a0, a1, a2, V c, V most, V m, V s, a7, a8, a9, a10, .val (.list (bs.map pairD)), a12, x, y, a15, a16]) := by
  obtain ⟨e', h1, x, y, h2⟩ := forD_inv (t := .tup [.nm 13, .nm 14]) (b := semSs t_law b_law_2) (g := pairD) (fun pre env => ∃ x y, env = [a0, a1, a2, V c, V most, V m, V s, a7, a8, a9, a10, .val (.list (bs.map pairD)), a12, x, y, a15, a16])
      (l := bs) (ds := bs) (pre := []) (env := [a0, a1, a2, V c, V most, V m, V s, a7, a8, a9, a10, .val (.list (bs.map pairD)), a12, a13, a14, a15, a16]) ⟨a13, a14, rfl⟩ rfl (by
        rintro pre p post env he ⟨x, y, rfl⟩
        have hp : p ∈ bs := by rw [← he]; simp
        refine ⟨[a0, a1, a2, V c, V most, V m, V s, a7, a8, a9, a10, .val (.list (bs.map pairD)), a12, V p.1, V p.2, a15, a16], _, ?_, b2_eq (e p hp), _, _, rfl⟩
        unfold pairD
        simp [runF, semE_0, semE_1, semE_2, semE_3, semE_4, semE_5, semE_6, semE_7, semE_8, semE_9, semE_10, semE_11, semE_12, semE_13, semE_14, semE_15, semE_16, semE_17, semE_18, semE_19, semE_20, semE_21, semE_22, semE_23, semE_24, semE_25, semE_26, semEs_0, semEs_1, semTs_0, semTs_1, semS_0, semS_1, semS_2, semS_3, semS_4, semS_5, semS_6, semS_7, semS_8, semS_9, semS_10, semS_11, semS_12, semS_13, semS_14, semS_15, semS_16, semS_17, semS_18, semS_19, semS_20, semS_21, semS_22, semS_23, semS_24, semSs_0, semSs_1, getV, peek, freeze, freeze1, keep, scalar, binD, addD, subD, mulD, fdivD, modD, powD, negD, augD, cmpB, eqB, truthD, boolR, biD, bi1, lenD, intD, mthD, itBi, it1, iterD, ixD, lstOf, ownAt, seqO_nx, seqO_rt, seqO_bk, seqO_ct, seqO_ex, seqO_no, R.ok_bind, rbind_ok, bindT_nm, bindT_tup, bindTs_nil, bindTs_cons, wipeE])
  subst h2
  exact ⟨x, y, g12_run h1⟩
abbrev mulS : PySem.Str := PySem.Str.ofString "mul"
theorem str_ok (x : PySem.Str) (h : PySem.PyData.strOk x = true) (m s : Int) : PySem.SeqAt.shaped (.tuple [.str x, .int m, .int s]) = true := by
  simp [PySem.SeqAt.shaped, PySem.PyData.canLay0, PySem.PyData.depth, PySem.PyData.canLayAll0, PySem.PyData.depthAll, h]
theorem eqv_mul (m s : Int) : PySem.PyData.eqv (.tuple [.str mulS, .int m, .int s]) (.tuple [.str mulS, .int m, .int s]) = true := by
  simp [PySem.PyData.eqv, PySem.PyData.eqvAll]
theorem b3_eq {c most m s w p : Int} {d : D} (o : PySem.IntMulOk most m) (e1 : t_law.fn "way_of" [.int c, .int most, .int w] = .ok d) (e2 : t_law.fn "_law_power" [.int 2, .int w] = .ok (.int p))
    (h : d = .tuple [.str (PySem.Str.ofString "copy")] ∨ (∃ i, d = .tuple [.str (PySem.Str.ofString "right"), .int i]) ∨ (d = .tuple [.str (PySem.Str.ofString "mul"), .int m, .int s] ∧ most * m < p) ∨ (d = .none ∧ ¬ most * m < p)) :
    semSs t_law b_law_3 [a0, a1, a2, V c, V most, V m, V s, a7, a8, a9, a10, a11, a12, a13, a14, V w, a16] = .ok (.nx [a0, a1, a2, V c, V most, V m, V s, a7, a8, a9, a10, a11, a12, a13, a14, V w, .val d]) := by
  have n1 : ¬ (PySem.Str.ofString "copy" = PySem.Str.ofString "mul") := by decide +kernel
  have n2 : ¬ (PySem.Str.ofString "right" = PySem.Str.ofString "mul") := by decide +kernel
  rcases h with rfl | ⟨i, rfl⟩ | ⟨rfl, h⟩ | ⟨rfl, h⟩
  · simp [b_law_3, runF, semE_0, semE_1, semE_2, semE_3, semE_4, semE_5, semE_6, semE_7, semE_8, semE_9, semE_10, semE_11, semE_12, semE_13, semE_14, semE_15, semE_16, semE_17, semE_18, semE_19, semE_20, semE_21, semE_22, semE_23, semE_24, semE_25, semE_26, semEs_0, semEs_1, semTs_0, semTs_1, semS_0, semS_1, semS_2, semS_3, semS_4, semS_5, semS_6, semS_7, semS_8, semS_9, semS_10, semS_11, semS_12, semS_13, semS_14, semS_15, semS_16, semS_17, semS_18, semS_19, semS_20, semS_21, semS_22, semS_23, semS_24, semSs_0, semSs_1, getV, peek, freeze, freeze1, keep, scalar, binD, addD, subD, mulD, fdivD, modD, powD, negD, augD, cmpB, eqB, truthD, boolR, biD, bi1, lenD, intD, mthD, itBi, it1, iterD, ixD, lstOf, ownAt, seqO_nx, seqO_rt, seqO_bk, seqO_ct, seqO_ex, seqO_no, R.ok_bind, rbind_ok, bindT_nm, bindT_tup, bindTs_nil, bindTs_cons, wipeE, e1, n1, atD, L2.atI, L2.ixN]
  · simp [b_law_3, runF, semE_0, semE_1, semE_2, semE_3, semE_4, semE_5, semE_6, semE_7, semE_8, semE_9, semE_10, semE_11, semE_12, semE_13, semE_14, semE_15, semE_16, semE_17, semE_18, semE_19, semE_20, semE_21, semE_22, semE_23, semE_24, semE_25, semE_26, semEs_0, semEs_1, semTs_0, semTs_1, semS_0, semS_1, semS_2, semS_3, semS_4, semS_5, semS_6, semS_7, semS_8, semS_9, semS_10, semS_11, semS_12, semS_13, semS_14, semS_15, semS_16, semS_17, semS_18, semS_19, semS_20, semS_21, semS_22, semS_23, semS_24, semSs_0, semSs_1, getV, peek, freeze, freeze1, keep, scalar, binD, addD, subD, mulD, fdivD, modD, powD, negD, augD, cmpB, eqB, truthD, boolR, biD, bi1, lenD, intD, mthD, itBi, it1, iterD, ixD, lstOf, ownAt, seqO_nx, seqO_rt, seqO_bk, seqO_ct, seqO_ex, seqO_no, R.ok_bind, rbind_ok, bindT_nm, bindT_tup, bindTs_nil, bindTs_cons, wipeE, e1, n2, atD, L2.atI, L2.ixN]
  · have k1 := str_ok mulS (by decide +kernel) m s
    have k2 := eqv_mul m s
    have k3 : ¬ p ≤ most * m := by omega
    simp [b_law_3, runF, semE_0, semE_1, semE_2, semE_3, semE_4, semE_5, semE_6, semE_7, semE_8, semE_9, semE_10, semE_11, semE_12, semE_13, semE_14, semE_15, semE_16, semE_17, semE_18, semE_19, semE_20, semE_21, semE_22, semE_23, semE_24, semE_25, semE_26, semEs_0, semEs_1, semTs_0, semTs_1, semS_0, semS_1, semS_2, semS_3, semS_4, semS_5, semS_6, semS_7, semS_8, semS_9, semS_10, semS_11, semS_12, semS_13, semS_14, semS_15, semS_16, semS_17, semS_18, semS_19, semS_20, semS_21, semS_22, semS_23, semS_24, semSs_0, semSs_1, getV, peek, freeze, freeze1, keep, scalar, binD, addD, subD, mulD, fdivD, modD, powD, negD, augD, cmpB, eqB, truthD, boolR, biD, bi1, lenD, intD, mthD, itBi, it1, iterD, ixD, lstOf, ownAt, seqO_nx, seqO_rt, seqO_bk, seqO_ct, seqO_ex, seqO_no, R.ok_bind, rbind_ok, bindT_nm, bindT_tup, bindTs_nil, bindTs_cons, wipeE, e1, e2, k1, k2, k3, o, atD, L2.atI, L2.ixN, PySem.sizeLine_eq]
  · have k3 : ¬ most * m < p := h
    simp [b_law_3, runF, semE_0, semE_1, semE_2, semE_3, semE_4, semE_5, semE_6, semE_7, semE_8, semE_9, semE_10, semE_11, semE_12, semE_13, semE_14, semE_15, semE_16, semE_17, semE_18, semE_19, semE_20, semE_21, semE_22, semE_23, semE_24, semE_25, semE_26, semEs_0, semEs_1, semTs_0, semTs_1, semS_0, semS_1, semS_2, semS_3, semS_4, semS_5, semS_6, semS_7, semS_8, semS_9, semS_10, semS_11, semS_12, semS_13, semS_14, semS_15, semS_16, semS_17, semS_18, semS_19, semS_20, semS_21, semS_22, semS_23, semS_24, semSs_0, semSs_1, getV, peek, freeze, freeze1, keep, scalar, binD, addD, subD, mulD, fdivD, modD, powD, negD, augD, cmpB, eqB, truthD, boolR, biD, bi1, lenD, intD, mthD, itBi, it1, iterD, ixD, lstOf, ownAt, seqO_nx, seqO_rt, seqO_bk, seqO_ct, seqO_ex, seqO_no, R.ok_bind, rbind_ok, bindT_nm, bindT_tup, bindTs_nil, bindTs_cons, wipeE, e1, e2, k3, o]
theorem g13_run {e' : Env} (h : forD (.nm 15) (semSs t_law b_law_3) [.int 16, .int 64, .int 128, .int 256] [a0, a1, a2, a3, a4, a5, a6, a7, a8, a9, a10, a11, a12, a13, a14, a15, a16] = .ok (.nx e')) :
    semS t_law g_law_13 [a0, a1, a2, a3, a4, a5, a6, a7, a8, a9, a10, a11, a12, a13, a14, a15, a16] = .ok (.nx e') := by
  simp [g_law_13, runF, semE_0, semE_1, semE_2, semE_3, semE_4, semE_5, semE_6, semE_7, semE_8, semE_9, semE_10, semE_11, semE_12, semE_13, semE_14, semE_15, semE_16, semE_17, semE_18, semE_19, semE_20, semE_21, semE_22, semE_23, semE_24, semE_25, semE_26, semEs_0, semEs_1, semTs_0, semTs_1, semS_0, semS_1, semS_2, semS_3, semS_4, semS_5, semS_6, semS_7, semS_8, semS_9, semS_10, semS_11, semS_12, semS_13, semS_14, semS_15, semS_16, semS_17, semS_18, semS_19, semS_20, semS_21, semS_22, semS_23, semS_24, semSs_0, semSs_1, getV, peek, freeze, freeze1, keep, scalar, binD, addD, subD, mulD, fdivD, modD, powD, negD, augD, cmpB, eqB, truthD, boolR, biD, bi1, lenD, intD, mthD, itBi, it1, iterD, ixD, lstOf, ownAt, seqO_nx, seqO_rt, seqO_bk, seqO_ct, seqO_ex, seqO_no, R.ok_bind, rbind_ok, bindT_nm, bindT_tup, bindTs_nil, bindTs_cons, wipeE, h, PySem.sizeLine_eq]
theorem g13_eq {c most m s : Int} (o : PySem.IntMulOk most m) (h : ∀ w : Nat, w ≤ 256 → ∃ d, t_law.fn "way_of" [.int c, .int most, .int w] = .ok d ∧ (d = .tuple [.str (PySem.Str.ofString "copy")] ∨ (∃ i, d = .tuple [.str (PySem.Str.ofString "right"), .int i]) ∨ (d = .tuple [.str (PySem.Str.ofString "mul"), .int m, .int s] ∧ most * m < 2 ^ w) ∨ (d = .none ∧ ¬ most * m < 2 ^ w))) : ∃ x y,
    semS t_law g_law_13 [a0, a1, a2, V c, V most, V m, V s, a7, a8, a9, a10, a11, a12, a13, a14, a15, a16] = .ok (.nx [a0, a1, a2, V c, V most, V m, V s, a7, a8, a9, a10, a11, a12, a13, a14, x, y]) := by
  have hw : ∀ w ∈ [16, 64, 128, 256], w ≤ 256 := by decide
  obtain ⟨e', h1, x, y, h2⟩ := forD_inv (t := .nm 15) (b := semSs t_law b_law_3) (g := fun w : Nat => PySem.PyData.int (w : Int)) (fun pre env => ∃ x y, env = [a0, a1, a2, V c, V most, V m, V s, a7, a8, a9, a10, a11, a12, a13, a14, x, y])
      (l := [16, 64, 128, 256]) (ds := [16, 64, 128, 256]) (pre := []) (env := [a0, a1, a2, V c, V most, V m, V s, a7, a8, a9, a10, a11, a12, a13, a14, a15, a16]) ⟨a15, a16, rfl⟩ rfl (by
        rintro pre w post env he ⟨x, y, rfl⟩
        have hw := hw w (by rw [← he]; simp)
        obtain ⟨d, e1, e2⟩ := h w hw
        have e3 : t_law.fn "_law_power" [.int 2, .int w] = .ok (.int (2 ^ w)) := law_power 2 w 2 (by decide) (by omega) (by omega)
        exact ⟨[a0, a1, a2, V c, V most, V m, V s, a7, a8, a9, a10, a11, a12, a13, a14, V w, y], _, rfl, b3_eq o e1 e3 e2, _, _, rfl⟩)
  subst h2
  exact ⟨x, y, g13_run h1⟩
theorem g14_eq {c most m s : Int} (h : c ≤ most ∨ (m = 0 ∧ s = 0)) : ∃ e',
    semS t_law g_law_14 [a0, a1, a2, V c, V most, V m, V s, a7, a8, a9, a10, a11, a12, a13, a14, a15, a16] = .ok (.rt (.bool true) e') := by
  refine ⟨[a0, a1, a2, V c, V most, V m, V s, a7, a8, a9, a10, a11, a12, a13, a14, a15, a16], ?_⟩
  by_cases h1 : c ≤ most
  · simp [g_law_14, runF, semE_0, semE_1, semE_2, semE_3, semE_4, semE_5, semE_6, semE_7, semE_8, semE_9, semE_10, semE_11, semE_12, semE_13, semE_14, semE_15, semE_16, semE_17, semE_18, semE_19, semE_20, semE_21, semE_22, semE_23, semE_24, semE_25, semE_26, semEs_0, semEs_1, semTs_0, semTs_1, semS_0, semS_1, semS_2, semS_3, semS_4, semS_5, semS_6, semS_7, semS_8, semS_9, semS_10, semS_11, semS_12, semS_13, semS_14, semS_15, semS_16, semS_17, semS_18, semS_19, semS_20, semS_21, semS_22, semS_23, semS_24, semSs_0, semSs_1, getV, peek, freeze, freeze1, keep, scalar, binD, addD, subD, mulD, fdivD, modD, powD, negD, augD, cmpB, eqB, truthD, boolR, biD, bi1, lenD, intD, mthD, itBi, it1, iterD, ixD, lstOf, ownAt, seqO_nx, seqO_rt, seqO_bk, seqO_ct, seqO_ex, seqO_no, R.ok_bind, rbind_ok, bindT_nm, bindT_tup, bindTs_nil, bindTs_cons, wipeE, h1]
  · obtain ⟨rfl, rfl⟩ := h.resolve_left h1
    have k1 := shaped_pair 0 0
    have k2 := eqv_pair 0 0 0 0
    simp [g_law_14, runF, semE_0, semE_1, semE_2, semE_3, semE_4, semE_5, semE_6, semE_7, semE_8, semE_9, semE_10, semE_11, semE_12, semE_13, semE_14, semE_15, semE_16, semE_17, semE_18, semE_19, semE_20, semE_21, semE_22, semE_23, semE_24, semE_25, semE_26, semEs_0, semEs_1, semTs_0, semTs_1, semS_0, semS_1, semS_2, semS_3, semS_4, semS_5, semS_6, semS_7, semS_8, semS_9, semS_10, semS_11, semS_12, semS_13, semS_14, semS_15, semS_16, semS_17, semS_18, semS_19, semS_20, semS_21, semS_22, semS_23, semS_24, semSs_0, semSs_1, getV, peek, freeze, freeze1, keep, scalar, binD, addD, subD, mulD, fdivD, modD, powD, negD, augD, cmpB, eqB, truthD, boolR, biD, bi1, lenD, intD, mthD, itBi, it1, iterD, ixD, lstOf, ownAt, seqO_nx, seqO_rt, seqO_bk, seqO_ct, seqO_ex, seqO_no, R.ok_bind, rbind_ok, bindT_nm, bindT_tup, bindTs_nil, bindTs_cons, wipeE, h1, k1, k2, PySem.sizeLine_eq]
end
end G

namespace G
open Y
/-- the pair fits every number up to the most -/
theorem ans_all {c most m : Int} {s : Nat} (hc : 1 ≤ c) (h : Ans c most m s) {x : Int} (h0 : 0 ≤ x) (h1 : x ≤ most) : x / c = x * m / 2 ^ s := by
  rcases h with ⟨h2, rfl, rfl⟩ | ⟨h2, h3, rfl⟩
  · rw [Int.ediv_eq_zero_of_lt h0 (by omega)]
    simp
  · have := dv_all hc h2 h3.at_ h0 h1
    unfold dAt at this
    exact of_decide_eq_true this
theorem ans_bt {c most m : Int} {s : Nat} (hc : 1 ≤ c) (hs : s ≤ 200) (h : Ans c most m s) : bt m ≤ 201 := by
  rcases h with ⟨_, rfl, rfl⟩ | ⟨_, _, rfl⟩
  · decide
  · exact bt_mono (bt_lf hc s) (by omega)
theorem ans_nn {c most m : Int} {s : Nat} (hc : 1 ≤ c) (h : Ans c most m s) : 0 ≤ m := by
  rcases h with ⟨_, rfl, rfl⟩ | ⟨_, _, rfl⟩
  · decide
  · have := (lf_facts hc s).2.2.1
    omega
theorem ans_judge {c most m : Int} {s : Nat} (hc : 1 ≤ c) (h : Ans c most m s) (a : Int) (b : Nat) : judge c most a b = true ↔ a = m ∧ b = s := by
  rcases h with ⟨h2, rfl, rfl⟩ | ⟨h2, h3, rfl⟩
  · unfold judge
    rw [if_pos h2, Bool.and_eq_true, decide_eq_true_eq, decide_eq_true_eq]
  · exact judge_eq hc h2 h3 a b
theorem ans_dv {c most m : Int} {s : Nat} (hc : 1 ≤ c) (h0 : 0 ≤ most) (h : Ans c most m s) : dv c most m s = true := by
  unfold dv
  rw [List.all_eq_true]
  intro x hx
  have := probes_in hc h0 x hx
  unfold dAt
  rw [decide_eq_true_eq]
  exact ans_all hc h this.1 this.2
theorem g7_eq {a0 a1 a2 a8 a9 a10 a11 a12 a13 a14 a15 a16 : SV} {c most m : Int} {s : Nat} (hc : 1 ≤ c) (h0 : 0 ≤ most) (hcb : bt c ≤ 49) (hmb : bt most ≤ 64) (hs : s ≤ 200) (h : Ans c most m s) (ts : List Int) : ∃ x,
    semS t_law g_law_7 [a0, a1, a2, V c, V most, V m, V s, .own (ts.map .int), a8, a9, a10, a11, a12, a13, a14, a15, a16] = .ok (.nx [a0, a1, a2, V c, V most, V m, V s, .val (Lst ts), a8, x, a10, a11, a12, a13, a14, a15, a16]) := by
  have e : t_law.fn "_law_power" [.int 2, .int s] = .ok (.int (2 ^ s)) := law_power 2 s 2 (by decide) (by omega) (by omega)
  obtain ⟨e', h1, x, h2⟩ := forD_inv (t := .nm 9) (b := semSs t_law b_law_1) (g := PySem.PyData.int) (fun pre env => ∃ x, env = [a0, a1, a2, V c, V most, V m, V s, .val (Lst ts), a8, x, a10, a11, a12, a13, a14, a15, a16])
      (l := ts) (ds := ts) (pre := []) (env := [a0, a1, a2, V c, V most, V m, V s, .val (Lst ts), a8, a9, a10, a11, a12, a13, a14, a15, a16]) ⟨a9, rfl⟩ rfl (by
        rintro pre x post env he ⟨y, rfl⟩
        have k1 := Int.emod_nonneg x (show most + 1 ≠ 0 by omega)
        have k2 := Int.emod_lt_of_pos x (show 0 < most + 1 by omega)
        have kb : bt (x % (most + 1)) ≤ 64 := bt_nat k1 (by omega) hmb
        exact ⟨[a0, a1, a2, V c, V most, V m, V s, .val (Lst ts), a8, V x, a10, a11, a12, a13, a14, a15, a16], _, rfl,
          b1_eq rfl (by omega) (by omega) (two_pos s) e (mulOk kb (ans_bt hc hs h) (by decide)) (noPy (bt_mono hcb (by decide))) (noPy (bt_mono (bt_two_pow s) (by omega))) (ans_all hc h k1 (by omega)), _, rfl⟩)
  subst h2
  exact ⟨x, g7_run trivial h1⟩
theorem g11_eq {a0 a1 a2 a7 a8 a9 a12 a13 a14 a15 a16 : SV} {c most m : Int} {s : Nat} {bs : List (Int × Int)} (hc : 1 ≤ c) (h0 : 0 ≤ most) (hcb : bt c ≤ 49) (hmb : bt most ≤ 64) (hs : s ≤ 200) (h : Ans c most m s)
    (hbs : ∀ p ∈ bs, ∃ b : Nat, p.2 = (b : Int) ∧ b ≤ 1000 ∧ bt p.1 ≤ 1000) (hbl : bs.length ≤ 100) : ∃ (bs' : List (Int × Int)) (x : SV), (∀ p ∈ bs', ∃ b : Nat, p.2 = (b : Int) ∧ b ≤ 1000 ∧ bt p.1 ≤ 1000) ∧
    semS t_law g_law_11 [a0, a1, a2, V c, V most, V m, V s, a7, a8, a9, .val (Lst (probes c most)), .val (.list (bs.map pairD)), a12, a13, a14, a15, a16] = .ok (.nx [a0, a1, a2, V c, V most, V m, V s, a7, a8, a9, .val (Lst (probes c most)), .val (.list (bs'.map pairD)), x, a13, a14, a15, a16]) := by
  by_cases k : ((s : Int) > 0 ∧ m > 0)
  · rcases h with ⟨h2, rfl, rfl⟩ | ⟨h2, h3, rfl⟩
    · exact absurd k.2 (by decide)
    · have hs1 : ((s : Int) - 1) = ((s - 1 : Nat) : Int) := by omega
      have e : t_law.fn "_law_power" [.int 2, .int ((s : Int) - 1)] = .ok (.int (2 ^ (s - 1))) := by
        rw [hs1]
        exact law_power 2 (s - 1) 2 (by decide) (by omega) (by omega)
      have hd : 0 - (0 - 2 ^ (s - 1)) / c = lf c (s - 1) := by unfold lf; simp
      have hm := h3.lt (s - 1) (by omega)
      have hps := probes_in hc h0
      have hbm : ∀ x ∈ probes c most, bt x ≤ 64 := fun x hx => bt_nat (hps x hx).1 (hps x hx).2 hmb
      have hx : ∃ x ∈ probes c most, ¬ x / c = x * lf c (s - 1) / 2 ^ (s - 1) := by
        unfold dv at hm
        rw [List.all_eq_false] at hm
        obtain ⟨x, hx, hx2⟩ := hm
        refine ⟨x, hx, fun q => hx2 ?_⟩
        unfold dAt
        exact decide_eq_true q
      refine ⟨bs ++ [(lf c s - 1, (s : Int)), (lf c (s - 1), (s : Int) - 1), (lf c s, (s : Int) - 1), (lf c s / 2, (s : Int) - 1)], V (lf c (s - 1)), ?_, ?_⟩
      · have l1 := bt_lf hc s
        have l2 := bt_lf hc (s - 1)
        have l3 := lf_facts hc s
        intro p hp
        rcases List.mem_append.mp hp with hp | hp
        · exact hbs p hp
        · simp only [List.mem_cons, List.not_mem_nil, or_false] at hp
          rcases hp with rfl | rfl | rfl | rfl
          · exact ⟨s, rfl, by omega, bt_mono (bt_abs (y := lf c s) (by show (lf c s - 1).natAbs ≤ _; omega) l1) (by omega)⟩
          · exact ⟨s - 1, hs1, by omega, bt_mono l2 (by omega)⟩
          · exact ⟨s - 1, hs1, by omega, bt_mono l1 (by omega)⟩
          · exact ⟨s - 1, hs1, by omega, bt_mono (bt_abs (y := lf c s) (by show (lf c s / 2).natAbs ≤ _; omega) l1) (by omega)⟩
      · exact g11_yes (by have := probes_length c most; rw [PySem.sizeLine_eq]; omega) (by omega) (two_pos _) k.1 k.2 e hd (noPy (bt_mono hcb (by decide))) (fun _ _ => noPy (bt_mono hcb (by decide))) (fun _ _ => noPy (bt_mono (bt_two_pow _) (by omega)))
          (fun x hx => mulOk (hbm x hx) (bt_lf hc (s - 1)) (by omega)) (noPy (by decide)) hx hbl
  · exact ⟨bs, a12, hbs, g11_no k⟩
theorem law_run {ns : List Int} {envs : Nat → Env} {e' : Env} (h0 : envs 0 = .val (Lst ns) :: List.replicate 16 .un)
   (s0 : semS t_law g_law_0 (envs 0) = .ok (.nx (envs 1))) (s1 : semS t_law g_law_1 (envs 1) = .ok (.nx (envs 2))) (s2 : semS t_law g_law_2 (envs 2) = .ok (.nx (envs 3))) (s3 : semS t_law g_law_3 (envs 3) = .ok (.nx (envs 4)))
   (s4 : semS t_law g_law_4 (envs 4) = .ok (.nx (envs 5))) (s5 : semS t_law g_law_5 (envs 5) = .ok (.nx (envs 6))) (s6 : semS t_law g_law_6 (envs 6) = .ok (.nx (envs 7))) (s7 : semS t_law g_law_7 (envs 7) = .ok (.nx (envs 8)))
   (s8 : semS t_law g_law_8 (envs 8) = .ok (.nx (envs 9))) (s9 : semS t_law g_law_9 (envs 9) = .ok (.nx (envs 10))) (s10 : semS t_law g_law_10 (envs 10) = .ok (.nx (envs 11))) (s11 : semS t_law g_law_11 (envs 11) = .ok (.nx (envs 12)))
   (s12 : semS t_law g_law_12 (envs 12) = .ok (.nx (envs 13))) (s13 : semS t_law g_law_13 (envs 13) = .ok (.nx (envs 14))) (s14 : semS t_law g_law_14 (envs 14) = .ok (.rt (.bool true) e')) : s_law [Lst ns] = .ok (.bool true) := by
  have hb : semSs t_law p_law.body (envs 0) = .ok (.rt (.bool true) e') := by
    unfold p_law
    simp only [semSs_0, semSs_1, s0, s1, s2, s3, s4, s5, s6, s7, s8, s9, s10, s11, s12, s13, s14, seqO_nx, seqO_rt]
  have h0' : ([Lst ns] : List D).map SV.val ++ List.replicate (p_law.sl - p_law.ps) .un = envs 0 := by
    rw [h0]
    rfl
  unfold s_law runF
  rw [if_pos (show [Lst ns].length = p_law.ps from rfl), h0', hb]
theorem law_true : LawHolds s_law := by
  intro ns _ _
  obtain ⟨ds, l1, d1, s0⟩ := g0_eq ns
  obtain ⟨so, l2, d2, s1⟩ := g1_eq ns ds
  have D : Draws ds so := ⟨l1, l2, fun i => at0_in (by decide) d1, fun i => at0_in (by decide) d2⟩
  obtain ⟨c, hc, hcb, s2⟩ := g2_eq ns D
  obtain ⟨most, h0, hmb, s3⟩ := g3_eq ns D hc hcb
  obtain ⟨m, s, A, hs, el⟩ := least_pair_eq hc h0 (bt_mono hcb (by decide)) (bt_mono (bt_add (n := 1) hmb (by decide)) (by decide))
  have hm := ans_bt hc hs A
  have hmn := ans_nn hc A
  obtain ⟨ts, hts, s5⟩ := g5_eq (a0 := .val (Lst ns)) (a1 := .val (Lst ds)) (a2 := .val (Lst so)) (a7 := .un) (a8 := .un) (a9 := .un) (a10 := .un) (a11 := .un) (a12 := .un) (a13 := .un) (a14 := .un) (a15 := .un) (a16 := .un) (c := c) (most := most) (m := m) (s := s) (by omega)
  obtain ⟨ts', k, s6⟩ := g6_eq (a0 := .val (Lst ns)) (a4 := V most) (a5 := V m) (a6 := V s) (a8 := .un) (a9 := .un) (a10 := .un) (a11 := .un) (a12 := .un) (a13 := .un) (a14 := .un) (a15 := .un) (a16 := .un) D hcb hts
  obtain ⟨x, s7⟩ := g7_eq (a0 := .val (Lst ns)) (a1 := .val (Lst ds)) (a2 := .val (Lst so)) (a8 := k) (a9 := .un) (a10 := .un) (a11 := .un) (a12 := .un) (a13 := .un) (a14 := .un) (a15 := .un) (a16 := .un) hc h0 hcb hmb hs A ts'
  have ej : t_law.fn "judge_pair" [.int c, .int most, .int m, .int s] = .ok (.bool true) := by
    rw [fn_judge_pair, judge_pair_eq hc h0 (bt_mono hcb (by decide)) (bt_mono hmb (by decide)) (bt_mono hm (by decide)) (by omega), (ans_judge hc A m s).mpr ⟨rfl, rfl⟩]
  have ed : t_law.fn "divides" [.int c, .int most, .int m, .int s] = .ok (.bool true) := by
    rw [fn_divides, divides_eq hc h0 (bt_mono hcb (by decide)) (bt_mono hmb (by decide)) (bt_mono hm (by decide)) (by omega), ans_dv hc h0 A]
  have s9 := g9_eq (a0 := .val (Lst ns)) (a1 := .val (Lst ds)) (a2 := .val (Lst so)) (a7 := .val (Lst ts')) (a8 := k) (a9 := x) (a11 := .un) (a12 := .un) (a13 := .un) (a14 := .un) (a15 := .un) (a16 := .un) (ps := probes c most) (by have := probes_length c most; rw [PySem.sizeLine_eq]; omega) (probes_in hc h0) ed ej
  have bm1 : bt (m + 1) ≤ 1000 := bt_mono (bt_add (n := 1) hm (by decide)) (by decide)
  have b2m : bt (2 * m) ≤ 1000 := bt_mono (bt_mul (m := 2) (by decide) hm) (by decide)
  have b2m1 : bt (2 * m - 1) ≤ 1000 := bt_mono (PySem.intBits_sub_le (y := 1) (n := 1) (bt_mul (m := 2) (by decide) hm) (by decide)) (by decide)
  have bmc : bt (m + c) ≤ 1000 := bt_mono (bt_add hm hcb) (by decide)
  have b4m : bt (4 * m) ≤ 1000 := bt_mono (bt_mul (m := 3) (by decide) hm) (by decide)
  obtain ⟨bs', x12, hbs', s11⟩ := g11_eq (a0 := .val (Lst ns)) (a1 := .val (Lst ds)) (a2 := .val (Lst so)) (a7 := .val (Lst ts')) (a8 := k) (a9 := x) (a12 := .un) (a13 := .un) (a14 := .un) (a15 := .un) (a16 := .un)
    (bs := [(m + 1, s), (2 * m, s + 1), (2 * m - 1, s + 1), (m + c, s), (m, s + 1), (4 * m, s + 2)]) hc h0 hcb hmb hs A (by
      intro p hp
      simp only [List.mem_cons, List.not_mem_nil, or_false] at hp
      rcases hp with rfl | rfl | rfl | rfl | rfl | rfl
      · exact ⟨s, rfl, by omega, bm1⟩
      · exact ⟨s + 1, rfl, by omega, b2m⟩
      · exact ⟨s + 1, rfl, by omega, b2m1⟩
      · exact ⟨s, rfl, by omega, bmc⟩
      · exact ⟨s + 1, rfl, by omega, bt_mono hm (by decide)⟩
      · exact ⟨s + 2, rfl, by omega, b4m⟩) (by show 6 ≤ 100; decide)
  obtain ⟨y13, y14, s12⟩ := g12_eq (a0 := .val (Lst ns)) (a1 := .val (Lst ds)) (a2 := .val (Lst so)) (a7 := .val (Lst ts')) (a8 := k) (a9 := x) (a10 := .val (Lst (probes c most))) (a12 := x12) (a13 := .un) (a14 := .un) (a15 := .un) (a16 := .un) (c := c) (most := most) (m := m) (s := s) (bs := bs') (fun p hp _ hne => by
    obtain ⟨b, e1, e2, e3⟩ := hbs' p hp
    rw [e1] at hne ⊢
    rw [fn_judge_pair, judge_pair_eq hc h0 (bt_mono hcb (by decide)) (bt_mono hmb (by decide)) (bt_mono e3 (by decide)) (by omega)]
    have : judge c most p.1 b = false := by
      cases q : judge c most p.1 b with
      | false => rfl
      | true =>
        have := (ans_judge hc A p.1 b).mp q
        exact absurd ⟨this.1, by rw [this.2]⟩ hne
    rw [this])
  obtain ⟨z15, z16, s13⟩ := g13_eq (a0 := .val (Lst ns)) (a1 := .val (Lst ds)) (a2 := .val (Lst so)) (a7 := .val (Lst ts')) (a8 := k) (a9 := x) (a10 := .val (Lst (probes c most))) (a11 := .val (.list (bs'.map pairD))) (a12 := x12) (a13 := y13) (a14 := y14) (a15 := .un) (a16 := .un) (c := c) (most := most) (m := m) (s := s) (mulOk hmb hm (by decide)) (fun w hw => by
    rw [fn_way_of]
    exact way_of_eq hc h0 (bt_mono hcb (by decide)) (bt_mono hmb (by decide)) (bt_mono hm (by decide)) hs (by omega) el)
  obtain ⟨e', s14⟩ := g14_eq (a0 := .val (Lst ns)) (a1 := .val (Lst ds)) (a2 := .val (Lst so)) (a7 := .val (Lst ts')) (a8 := k) (a9 := x) (a10 := .val (Lst (probes c most))) (a11 := .val (.list (bs'.map pairD))) (a12 := x12) (a13 := y13) (a14 := y14) (a15 := z15) (a16 := z16) (c := c) (most := most) (m := m) (s := s) (by
    rcases A with ⟨_, q1, q2⟩ | ⟨q, _⟩
    · exact .inr ⟨q1, by rw [q2]; rfl⟩
    · exact .inl q)
  exact law_run (envs := fun i => match i with
    | 0 => .val (Lst ns) :: List.replicate 16 .un
    | 1 => .val (Lst ns) :: .val (Lst ds) :: List.replicate 15 .un
    | 2 => .val (Lst ns) :: .val (Lst ds) :: .val (Lst so) :: List.replicate 14 .un
    | 3 => .val (Lst ns) :: .val (Lst ds) :: .val (Lst so) :: V c :: List.replicate 13 .un
    | 4 => .val (Lst ns) :: .val (Lst ds) :: .val (Lst so) :: V c :: V most :: List.replicate 12 .un
    | 5 => [.val (Lst ns), .val (Lst ds), .val (Lst so), V c, V most, V m, V s, .un, .un, .un, .un, .un, .un, .un, .un, .un, .un]
    | 6 => [.val (Lst ns), .val (Lst ds), .val (Lst so), V c, V most, V m, V s, .own (ts.map .int), .un, .un, .un, .un, .un, .un, .un, .un, .un]
    | 7 => [.val (Lst ns), .val (Lst ds), .val (Lst so), V c, V most, V m, V s, .own (ts'.map .int), k, .un, .un, .un, .un, .un, .un, .un, .un]
    | 8 => [.val (Lst ns), .val (Lst ds), .val (Lst so), V c, V most, V m, V s, .val (Lst ts'), k, x, .un, .un, .un, .un, .un, .un, .un]
    | 9 => [.val (Lst ns), .val (Lst ds), .val (Lst so), V c, V most, V m, V s, .val (Lst ts'), k, x, .val (Lst (probes c most)), .un, .un, .un, .un, .un, .un]
    | 10 => [.val (Lst ns), .val (Lst ds), .val (Lst so), V c, V most, V m, V s, .val (Lst ts'), k, x, .val (Lst (probes c most)), .un, .un, .un, .un, .un, .un]
    | 11 => [.val (Lst ns), .val (Lst ds), .val (Lst so), V c, V most, V m, V s, .val (Lst ts'), k, x, .val (Lst (probes c most)), .val (.list ([(m + 1, (s : Int)), (2 * m, s + 1), (2 * m - 1, s + 1), (m + c, s), (m, s + 1), (4 * m, s + 2)].map pairD)), .un, .un, .un, .un, .un]
    | 12 => [.val (Lst ns), .val (Lst ds), .val (Lst so), V c, V most, V m, V s, .val (Lst ts'), k, x, .val (Lst (probes c most)), .val (.list (bs'.map pairD)), x12, .un, .un, .un, .un]
    | 13 => [.val (Lst ns), .val (Lst ds), .val (Lst so), V c, V most, V m, V s, .val (Lst ts'), k, x, .val (Lst (probes c most)), .val (.list (bs'.map pairD)), x12, y13, y14, .un, .un]
    | _ => [.val (Lst ns), .val (Lst ds), .val (Lst so), V c, V most, V m, V s, .val (Lst ts'), k, x, .val (Lst (probes c most)), .val (.list (bs'.map pairD)), x12, y13, y14, z15, z16])
    rfl s0 s1 s2 s3 (g4_eq (by rw [fn_least_pair]; exact el)) s5 s6 s7 (g8_eq (by rw [fn_probes_for]; exact probes_for_eq hc)) s9 (g10_eq (mulOk (m := 2) (by decide) hm (by decide)) (mulOk (m := 3) (by decide) hm (by decide))) s11 s12 s13 s14
end G

open PySem PySem.W PyProof.Rows in
set_option maxRecDepth 100000 in
set_option maxHeartbeats 0 in
theorem PySem.Challenge.cw_fewestfigures_k86_least_pairs_of_great_n_holds : PySem.Challenge.rw_fewestfigures_k86_least_pairs_of_great_n.Holds := by
  w_on; o_law; k_head; (case hw => w_witness2)
  k_fill
  refine Y.walk (l := PySem.Challenge.rw_fewestfigures_k86_least_pairs_of_great_n) (k := 8) rfl rfl (by decide) (fun w h Y => PySem.W.kIn_of Y) ?F
  case F =>
    intro w mg fa h KX HG hmg
    refine' Y.defat_k (x := Str.ofString "raised") (st := G.st_raised) KX HG ?a0 ?l0 ?c0 ?k0 fun f_raised fd_raised A_raised => ?z0; (case a0 => k_is); (case l0 => k_is); (case c0 => k_is); (case k0 => k_is)
    refine' Y.defat_k (x := Str.ofString "divides_at") (st := G.st_divides_at) KX HG ?a1 ?l1 ?c1 ?k1 fun f_divides_at fd_divides_at A_divides_at => ?z1; (case a1 => k_is); (case l1 => k_is); (case c1 => k_is); (case k1 => k_is)
    refine' Y.defat_k (x := Str.ofString "probes_for") (st := G.st_probes_for) KX HG ?a2 ?l2 ?c2 ?k2 fun f_probes_for fd_probes_for A_probes_for => ?z2; (case a2 => k_is); (case l2 => k_is); (case c2 => k_is); (case k2 => k_is)
    refine' Y.defat_k (x := Str.ofString "divides") (st := G.st_divides) KX HG ?a3 ?l3 ?c3 ?k3 fun f_divides fd_divides A_divides => ?z3; (case a3 => k_is); (case l3 => k_is); (case c3 => k_is); (case k3 => k_is)
    refine' Y.defat_k (x := Str.ofString "least_factor") (st := G.st_least_factor) KX HG ?a4 ?l4 ?c4 ?k4 fun f_least_factor fd_least_factor A_least_factor => ?z4; (case a4 => k_is); (case l4 => k_is); (case c4 => k_is); (case k4 => k_is)
    refine' Y.defat_k (x := Str.ofString "least_pair") (st := G.st_least_pair) KX HG ?a5 ?l5 ?c5 ?k5 fun f_least_pair fd_least_pair A_least_pair => ?z5; (case a5 => k_is); (case l5 => k_is); (case c5 => k_is); (case k5 => k_is)
    refine' Y.defat_k (x := Str.ofString "judge_pair") (st := G.st_judge_pair) KX HG ?a6 ?l6 ?c6 ?k6 fun f_judge_pair fd_judge_pair A_judge_pair => ?z6; (case a6 => k_is); (case l6 => k_is); (case c6 => k_is); (case k6 => k_is)
    refine' Y.defat_k (x := Str.ofString "power_in") (st := G.st_power_in) KX HG ?a7 ?l7 ?c7 ?k7 fun f_power_in fd_power_in A_power_in => ?z7; (case a7 => k_is); (case l7 => k_is); (case c7 => k_is); (case k7 => k_is)
    refine' Y.defat_k (x := Str.ofString "way_of") (st := G.st_way_of) KX HG ?a8 ?l8 ?c8 ?k8 fun f_way_of fd_way_of A_way_of => ?z8; (case a8 => k_is); (case l8 => k_is); (case c8 => k_is); (case k8 => k_is)
    refine' Y.defat_k (x := Str.ofString "_law_cell") (st := G.st__law_cell) KX HG ?a9 ?l9 ?c9 ?k9 fun f__law_cell fd__law_cell A__law_cell => ?z9; (case a9 => k_is); (case l9 => k_is); (case c9 => k_is); (case k9 => k_is)
    refine' Y.defat_k (x := Str.ofString "_law_numbers") (st := G.st__law_numbers) KX HG ?a10 ?l10 ?c10 ?k10 fun f__law_numbers fd__law_numbers A__law_numbers => ?z10; (case a10 => k_is); (case l10 => k_is); (case c10 => k_is); (case k10 => k_is)
    refine' Y.defat_k (x := Str.ofString "_law_same") (st := G.st__law_same) KX HG ?a11 ?l11 ?c11 ?k11 fun f__law_same fd__law_same A__law_same => ?z11; (case a11 => k_is); (case l11 => k_is); (case c11 => k_is); (case k11 => k_is)
    refine' Y.defat_k (x := Str.ofString "_law_power") (st := G.st__law_power) KX HG ?a12 ?l12 ?c12 ?k12 fun f__law_power fd__law_power A__law_power => ?z12; (case a12 => k_is); (case l12 => k_is); (case c12 => k_is); (case k12 => k_is)
    refine' Y.defat_k (x := Str.ofString "law") (st := G.st_law) KX HG ?a13 ?l13 ?c13 ?k13 fun f_law fd_law A_law => ?z13; (case a13 => k_is); (case l13 => k_is); (case c13 => k_is); (case k13 => k_is)
    have hB : ∀ x ∈ G.BLT, mg (Str.ofString x) = none := by
      refine' List.forall_mem_cons.mpr ⟨PySem.W.mg_none_of KX HG ?b0, ?_⟩; (case b0 => k_is)
      refine' List.forall_mem_cons.mpr ⟨PySem.W.mg_none_of KX HG ?b1, ?_⟩; (case b1 => k_is)
      refine' List.forall_mem_cons.mpr ⟨PySem.W.mg_none_of KX HG ?b2, ?_⟩; (case b2 => k_is)
      refine' List.forall_mem_cons.mpr ⟨PySem.W.mg_none_of KX HG ?b3, ?_⟩; (case b3 => k_is)
      refine' List.forall_mem_cons.mpr ⟨PySem.W.mg_none_of KX HG ?b4, ?_⟩; (case b4 => k_is)
      refine' List.forall_mem_cons.mpr ⟨PySem.W.mg_none_of KX HG ?b5, ?_⟩; (case b5 => k_is)
      refine' List.forall_mem_cons.mpr ⟨PySem.W.mg_none_of KX HG ?b6, ?_⟩; (case b6 => k_is)
      refine' List.forall_mem_cons.mpr ⟨PySem.W.mg_none_of KX HG ?b7, ?_⟩; (case b7 => k_is)
      refine' List.forall_mem_cons.mpr ⟨PySem.W.mg_none_of KX HG ?b8, ?_⟩; (case b8 => k_is)
      refine' List.forall_mem_cons.mpr ⟨PySem.W.mg_none_of KX HG ?b9, ?_⟩; (case b9 => k_is)
      exact fun _ h => absurd h List.not_mem_nil
    have hG : ∀ q ∈ G.GLS, Y.GlbAt (L2.KOf KX) mg q := by
      refine' List.forall_mem_cons.mpr ⟨?yg0, ?_⟩; (case yg0 => (refine' Y.glb_int KX HG ?ygl0; (case ygl0 => k_is)))
      exact fun _ h => absurd h List.not_mem_nil
    have e := hmg.symm.trans A_law.at_
    cases e
    refine ⟨fd_law, ?_, fun base _ _ => ?_⟩
    · exact Y.law_binds A_law.fn (fun _ _ _ _ _ _ _ => rfl)
    · have C_raised := G.ok_raised (P := PySem.Challenge.rw_fewestfigures_k86_least_pairs_of_great_n.prog) (w := w) (base := base) A_raised hB hG
      have C_divides_at := G.ok_divides_at (P := PySem.Challenge.rw_fewestfigures_k86_least_pairs_of_great_n.prog) (w := w) (base := base) A_divides_at hB hG C_raised
      have C_probes_for := G.ok_probes_for (P := PySem.Challenge.rw_fewestfigures_k86_least_pairs_of_great_n.prog) (w := w) (base := base) A_probes_for hB hG
      have C_divides := G.ok_divides (P := PySem.Challenge.rw_fewestfigures_k86_least_pairs_of_great_n.prog) (w := w) (base := base) A_divides hB hG C_divides_at C_probes_for
      have C_least_factor := G.ok_least_factor (P := PySem.Challenge.rw_fewestfigures_k86_least_pairs_of_great_n.prog) (w := w) (base := base) A_least_factor hB hG C_raised
      have C_least_pair := G.ok_least_pair (P := PySem.Challenge.rw_fewestfigures_k86_least_pairs_of_great_n.prog) (w := w) (base := base) A_least_pair hB hG C_divides C_least_factor
      have C_judge_pair := G.ok_judge_pair (P := PySem.Challenge.rw_fewestfigures_k86_least_pairs_of_great_n.prog) (w := w) (base := base) A_judge_pair hB hG C_divides C_least_factor C_raised
      have C_power_in := G.ok_power_in (P := PySem.Challenge.rw_fewestfigures_k86_least_pairs_of_great_n.prog) (w := w) (base := base) A_power_in hB hG C_raised
      have C_way_of := G.ok_way_of (P := PySem.Challenge.rw_fewestfigures_k86_least_pairs_of_great_n.prog) (w := w) (base := base) A_way_of hB hG C_least_pair C_power_in C_raised
      have C__law_cell := G.ok__law_cell (P := PySem.Challenge.rw_fewestfigures_k86_least_pairs_of_great_n.prog) (w := w) (base := base) A__law_cell hB hG
      have C__law_numbers := G.ok__law_numbers (P := PySem.Challenge.rw_fewestfigures_k86_least_pairs_of_great_n.prog) (w := w) (base := base) A__law_numbers hB hG
      have C__law_same := G.ok__law_same (P := PySem.Challenge.rw_fewestfigures_k86_least_pairs_of_great_n.prog) (w := w) (base := base) A__law_same hB hG 6
      have C__law_power := G.ok__law_power (P := PySem.Challenge.rw_fewestfigures_k86_least_pairs_of_great_n.prog) (w := w) (base := base) A__law_power hB hG
      exact Y.law_sp (G.ok_law A_law hB hG C__law_cell C__law_numbers C__law_power C__law_same C_divides C_judge_pair C_least_pair C_probes_for C_way_of) G.law_true
