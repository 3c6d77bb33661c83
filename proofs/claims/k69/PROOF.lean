import PyProof.Rows.All
import Wide.All
import OpenK.AllK
import Wide.FinOn
import HandS.Base
import HandS.Call
import HandS.List
import HandS.Comp
import HandS.Words
import HandS.Exc
import HandS.TryOnly
import HandS.ExcOwn
import HandS.WordsExc
import HandS.Iter
import HandS.Zip
import HandS.TupAny
import HandS.TupMul
import HandS.Style
import HandS.IsInst
import HandS.Deep
import HandS.Gcd
import HandS.Wide
import HandS.CallLocal
import HandS.Star
import HandS.Small
import KE.KSortedM
import KE.GoesNew
import KE.GoesEnum
import KE.KDictZip
import HandS.More
import HandS.Defaults
import HandS.Ends
import HandS.EndTab
import HandS.Head0
import HandS.Head1
import HandS.Head2
import HandS.HeadEnd
import HandS.HeadHook1
import HandS.HeadHook2
import HandS.HeadHook3
import HandS.HeadHook4
import HandS.HeadWalk
import KE.KStateDown
import HandS.Head3
import PySem.Challenge.RW_warmtubs_k69_whole_costs_of_settings
set_option Elab.async false
set_option linter.all false
set_option maxRecDepth 100000
set_option maxHeartbeats 0
/-! Ev: a small language with its evaluator (pure). -/
namespace Wt
open PySem (Str)

/-! ### values -/
inductive PV where
  | non | bl (b : Bool) | int (i : Int) | str (x : Str)
  | tup (xs : List PV) | lst (xs : List PV) | frz (xs : List PV)
  | fn (f : Nat) | ref (n : Nat)
  deriving Inhabited

/-- an exception: its class's number, what it keeps -/
structure Exn where
  cls : Nat
  arg : Option PV

abbrev Sto := List (List PV)
inductive Out (α : Type) where
  | ok (a : α) (S : Sto) | err (x : Exn) (S : Sto) | bad
/-- what runs: over the store of the lists by reference -/
structure M (α : Type) where
  go : Sto → Out α
def M.pure {α : Type} (a : α) : M α := ⟨fun S => .ok a S⟩
def M.bind {α β : Type} (m : M α) (f : α → M β) : M β := ⟨fun S => match m.go S with
  | .ok a S' => (f a).go S'
  | .err x S' => .err x S'
  | .bad => .bad⟩
instance : Monad M where
  pure := M.pure
  bind := M.bind
def bad {α : Type} : M α := ⟨fun _ => .bad⟩
def raiseM {α : Type} (x : Exn) : M α := ⟨fun S => .err x S⟩
/-- an exception is not looked at here -/
def noerr {α : Type} (m : M α) : M α := ⟨fun S => match m.go S with
  | .ok a S' => .ok a S'
  | _ => .bad⟩
def lift {α : Type} : Option α → M α
  | some a => Pure.pure a
  | none => bad
theorem M.ext {α : Type} {m m' : M α} (h : ∀ S, m.go S = m'.go S) : m = m' := by
  cases m; cases m'; congr; exact funext h
@[simp] theorem pure_go {α : Type} (a : α) (S : Sto) : (Pure.pure a : M α).go S = .ok a S := rfl
theorem bind_go {α β : Type} (m : M α) (f : α → M β) (S : Sto) : (m >>= f).go S = match m.go S with
  | .ok a S' => (f a).go S'
  | .err x S' => .err x S'
  | .bad => .bad := rfl
@[simp] theorem pure_bindM {α β : Type} (a : α) (f : α → M β) : (Pure.pure a : M α) >>= f = f a := rfl
@[simp] theorem bad_bindM {α β : Type} (f : α → M β) : (bad : M α) >>= f = bad := rfl
@[simp] theorem raise_bindM {α β : Type} (x : Exn) (f : α → M β) : (raiseM x : M α) >>= f = raiseM x := rfl
theorem bind_assocM {α β γ : Type} (m : M α) (f : α → M β) (g : β → M γ) : m >>= f >>= g = m >>= fun a => f a >>= g := by
  apply M.ext
  intro S
  simp only [bind_go]
  cases m.go S <;> rfl
theorem bind_pureM {α : Type} (m : M α) : m >>= Pure.pure = m := by
  apply M.ext
  intro S
  rw [bind_go]
  cases m.go S <;> rfl
instance : LawfulMonad M := LawfulMonad.mk'
  (id_map := fun m => bind_pureM m)
  (pure_bind := fun _ _ => rfl)
  (bind_assoc := fun m f g => bind_assocM m f g)
@[simp] theorem lift_some {α : Type} (a : α) : lift (some a) = (Pure.pure a : M α) := rfl
@[simp] theorem lift_none {α : Type} : (lift none : M α) = bad := rfl
@[simp] theorem noerr_pure {α : Type} (a : α) : noerr (Pure.pure a : M α) = Pure.pure a := rfl
@[simp] theorem noerr_bad {α : Type} : noerr (bad : M α) = bad := rfl

/-! ### equality -/
mutual
def PV.eqv : PV → PV → Bool
  | .non, .non => true
  | .bl a, .bl b => a == b
  | .bl a, .int j => (if a then 1 else 0) == j
  | .int i, .bl b => i == (if b then 1 else 0)
  | .int i, .int j => i == j
  | .str x, .str y => x == y
  | .tup xs, .tup ys => PV.eqvs xs ys
  | .lst xs, .lst ys => PV.eqvs xs ys
  | _, _ => false
def PV.eqvs : List PV → List PV → Bool
  | [], [] => true
  | x :: xs, y :: ys => PV.eqv x y && PV.eqvs xs ys
  | _, _ => false
end
/-! plain data, nested no deeper than so -/
mutual
def PV.dat : Nat → PV → Bool
  | _, .non => true
  | _, .bl _ => true
  | _, .int _ => true
  | _, .str x => PySem.PyData.canLay0 (.str x)
  | n + 1, .tup xs => PV.dats n xs
  | n + 1, .lst xs => PV.dats n xs
  | _, _ => false
def PV.dats : Nat → List PV → Bool
  | _, [] => true
  | n, x :: xs => PV.dat n x && PV.dats n xs
end
/-! structural equality, for the checker -/
mutual
def PV.same : PV → PV → Bool
  | .non, .non => true
  | .bl a, .bl b => a == b
  | .int i, .int j => i == j
  | .str x, .str y => decide (x = y)
  | .tup xs, .tup ys => PV.sames xs ys
  | .lst xs, .lst ys => PV.sames xs ys
  | .frz xs, .frz ys => PV.sames xs ys
  | .fn f, .fn g => f == g
  | .ref f, .ref g => f == g
  | _, _ => false
def PV.sames : List PV → List PV → Bool
  | [], [] => true
  | x :: xs, y :: ys => PV.same x y && PV.sames xs ys
  | _, _ => false
end

/-! ### syntax -/
inductive BOp where | add | sub | mul | fdiv | mod | pow
  deriving DecidableEq
inductive COp where | eq | ne | lt | le | gt | ge | is | isnot | in_ | notin
  deriving DecidableEq
/-- built-in calls -/
inductive BI where | len | int | abs | tuple | list | all | any | max | min | gcd | sorted | sortedSet
  deriving DecidableEq
/-- targets -/
inductive T where
  | nm (i : Nat) | tp (ts : List T)

mutual
inductive E where
  | non | bl (b : Bool) | int (i : Int) | str (x : Str) | cst (j : Nat)
  | var (i : Nat) | pk (i : Nat) | con (x : Str) (v : PV) | fnv (f : Nat)
  | tup (es : Es) | lst (es : Es) | tupS (es : Es) | lstS (es : Es)
  | op (o : BOp) (a b : E) | neg (a : E)
  | cmp (o : COp) (a b : E) | chain (o o' : COp) (a b c : E)
  | and_ (es : Es) | or_ (es : Es) | not_ (a : E) | ite (c a b : E)
  | call (f : Nat) (es : Es) | callk (f : Nat) (perm : List Nat) (ks : List Str) (es : Es) | callv (i : Nat) (es : Es)
  | bi (b : BI) (es : Es) | isi (a : E) (t : String)
  | ix (a i : E) | sl (a : E) (lo hi : Oe) | rev (a : E)
  | lc (elt : E) (t : T) (it : It) (c : Oe) (own : List (Str × Nat))
  | lc2 (elt : E) (t : T) (it : It) (t1 : T) (it1 : It) (own : List (Str × Nat)) (own1 : List Nat)
  | poolN (es : Es)
inductive Oe where
  | no | yes (e : E)
inductive Es where
  | nil | cons (e : E) (es : Es) | star (e : E) (es : Es)
inductive It where
  | seq (e : E) | rng1 (a : E) | rng2 (a b : E) | rng3 (a b c : E) | enum (e : E) | zip2 (a b : E) | zip3 (a b c : E) | enumzip (a b : E)
end
mutual
inductive St where
  | set (i : Nat) (e : E) | setO (i : Nat) (e : E) | asg (t : T) (e : E) | par (ts : List (Nat × Bool)) (es : Es)
  | setix (i : Nat) (a e : E) | setixR (r a e : E)
  | app (i : Nat) (e : E) | ext (i : Nat) (e : E) | ins (i : Nat) (a e : E) | never | share (i : Nat)
  | popcall (i : Nat) (f : Nat) (j : Nat) (a : E) (es : Es)
  | ret (e : E) | retN | ite (c : E) (b b' : B) | for_ (t : T) (it : It) (b : B) | while_ (i : Nat) (c : E) (b : B)
  | expr (e : E) | pass
  | raise_ (k : Nat) (e : Oe)
inductive B where
  | nil | cons (s : St) (b : B)
end
structure Def where
  np : Nat
  nms : List Str
  body : B

/-! ### slots -/
inductive Slot where
  | emp | val (v : PV) | own (xs : List PV)
  deriving Inhabited
abbrev Env := List Slot
def wipeE (env : Env) : List Nat → Env
  | [] => env
  | v :: vs => (wipeE env vs).set v .emp
mutual
def asgT : T → PV → Env → Option Env
  | .nm i, v, env => some (env.set i (.val v))
  | .tp ts, .tup xs, env => asgTs ts xs env
  | .tp _, _, _ => none
def asgTs : List T → List PV → Env → Option Env
  | [], [], env => some env
  | t :: ts, x :: xs, env => match asgT t x env with
    | some env' => asgTs ts xs env'
    | none => none
  | _, _, _ => none
end

/-! ### operators -/
def LIM : Nat := 1000000
def mulOk (i j : Int) : Bool := decide (i.natAbs.log2 + j.natAbs.log2 < 1000000)
def divOk (j : Int) : Bool := decide (j ≠ 0) && decide (j.natAbs.log2 < 9000)
def bopE : BOp → PV → PV → Option PV
  | .add, .int i, .int j => some (.int (i + j))
  | .add, .tup xs, .tup ys => if xs.length + ys.length ≤ LIM then some (.tup (xs ++ ys)) else none
  | .add, .lst xs, .lst ys => if xs.length + ys.length ≤ LIM then some (.lst (xs ++ ys)) else none
  | .sub, .int i, .int j => some (.int (i - j))
  | .mul, .int i, .int j => if mulOk i j then some (.int (i * j)) else none
  | .mul, .tup xs, .int k => if 1 ≤ k ∧ k ≤ 1000 ∧ 1 ≤ xs.length ∧ xs.length ≤ 1000 then some (.tup (List.replicate k.toNat xs).flatten) else none
  | .fdiv, .int i, .int j => if divOk j then some (.int (i.fdiv j)) else none
  | .mod, .int i, .int j => if j ≠ 0 then some (.int (i.fmod j)) else none
  | .pow, .int i, .int j => if 0 ≤ j ∧ j ≤ 1000 ∧ i.natAbs < 2 ^ 64 then some (.int (i ^ j.toNat)) else none
  | _, _, _ => none
def inE (x : PV) (xs : List PV) : Bool := xs.any fun y => PV.eqv y x
def datB (x : PV) : Bool := PV.dat 60 x
def flatB : PV → Bool
  | .non => true
  | .bl _ => true
  | .int _ => true
  | .str _ => true
  | _ => false
def isNonE : PV → Bool
  | .non => true
  | _ => false
def copE : COp → PV → PV → Option Bool
  | .eq, x, y => if datB x && datB y then some (PV.eqv x y) else none
  | .ne, x, y => if datB x && datB y then some (!PV.eqv x y) else none
  | .lt, .int i, .int j => some (decide (i < j))
  | .le, .int i, .int j => some (decide (i ≤ j))
  | .gt, .int i, .int j => some (decide (j < i))
  | .ge, .int i, .int j => some (decide (j ≤ i))
  | .is, x, .non => some (isNonE x)
  | .isnot, x, .non => some (!isNonE x)
  | .is, .bl a, .bl b => some (a == b)
  | .isnot, .bl a, .bl b => some (!(a == b))
  | .in_, x, .lst ys => if datB x && PV.dats 60 ys then some (inE x ys) else none
  | .in_, x, .tup ys => if flatB x && ys.all flatB then some (inE x ys) else none
  | .notin, x, .lst ys => if datB x && PV.dats 60 ys then some (!inE x ys) else none
  | .notin, x, .tup ys => if flatB x && ys.all flatB then some (!inE x ys) else none
  | _, _, _ => none
def asBs : List PV → Option (List Bool)
  | [] => some []
  | .bl b :: r => (asBs r).map (b :: ·)
  | _ => none
def asIs : List PV → Option (List Int)
  | [] => some []
  | .int b :: r => (asIs r).map (b :: ·)
  | _ => none
def maxI : List Int → Int
  | [] => 0
  | x :: r => r.foldl (fun a b => if b > a then b else a) x
def minI : List Int → Int
  | [] => 0
  | x :: r => r.foldl (fun a b => if b < a then b else a) x
def insI (x : Int) : List Int → List Int
  | [] => [x]
  | y :: r => if x < y then x :: y :: r else y :: insI x r
def sortI (xs : List Int) : List Int := xs.foldl (fun a x => insI x a) []
def biE : BI → List PV → Option PV
  | .len, [.tup xs] => some (.int xs.length)
  | .len, [.lst xs] => some (.int xs.length)
  | .len, [.frz xs] => some (.int xs.length)
  | .int, [.int i] => some (.int i)
  | .int, [.bl b] => some (.int (if b then 1 else 0))
  | .abs, [.int i] => some (.int (if i < 0 then -i else i))
  | .tuple, [.tup xs] => some (.tup xs)
  | .tuple, [.lst xs] => some (.tup xs)
  | .list, [.tup xs] => some (.lst xs)
  | .list, [.lst xs] => some (.lst xs)
  | .all, [.lst xs] => (asBs xs).map fun bs => .bl (bs.all id)
  | .any, [.lst xs] => (asBs xs).map fun bs => .bl (bs.any id)
  | .max, [.int i, .int j] => some (.int (if j > i then j else i))
  | .min, [.int i, .int j] => some (.int (if j < i then j else i))
  | .max, [.lst xs] => match asIs xs with
    | some (n :: ns) => some (.int (maxI (n :: ns)))
    | _ => none
  | .min, [.lst xs] => match asIs xs with
    | some (n :: ns) => some (.int (minI (n :: ns)))
    | _ => none
  | .gcd, [.int i, .int j] => some (.int ((Nat.gcd i.natAbs j.natAbs : Nat) : Int))
  | .sorted, [.lst xs] => if xs.length < 64 then (asIs xs).map fun ns => .lst ((sortI ns).map .int) else none
  | _, _ => none
def tyB : PV → Option String
  | .non => some "NoneType"
  | .bl _ => some "bool"
  | .int _ => some "int"
  | .str _ => some "str"
  | .tup _ => some "tuple"
  | .lst _ => some "list"
  | .frz _ => some "list"
  | _ => none
/-- isinstance with a built-in class -/
def isiE (v : PV) (t : String) : Option Bool := match tyB v with
  | none => none
  | some s => if t = "int" then some (s = "int" || s = "bool") else if t = "bool" ∨ t = "str" ∨ t = "tuple" ∨ t = "list" ∨ t = "dict" then some (s = t) else none
def ixN (n : Nat) (i : Int) : Option Nat := if 0 ≤ i then (if i < n then some i.toNat else none) else if -(n : Int) ≤ i then some (i + n).toNat else none
def atE (xs : List PV) (i : Int) : Option PV := (ixN xs.length i).bind fun j => xs[j]?
def ixE : PV → PV → Option PV
  | .tup xs, .int i => atE xs i
  | .lst xs, .int i => atE xs i
  | .frz xs, .int i => atE xs i
  | _, _ => none
def sIx (n d : Nat) : Option Int → Nat
  | none => d
  | some i => if i < 0 then (i + n).toNat else min i.toNat n
def cutE (xs : List PV) (lo hi : Option Int) : List PV := (xs.drop (sIx xs.length 0 lo)).take (sIx xs.length xs.length hi - sIx xs.length 0 lo)
def slE : PV → Option Int → Option Int → Option PV
  | .tup xs, lo, hi => some (.tup (cutE xs lo hi))
  | .lst xs, lo, hi => some (.lst (cutE xs lo hi))
  | .frz xs, lo, hi => some (.lst (cutE xs lo hi))
  | _, _, _ => none
def revE : PV → Option PV
  | .lst xs => some (.lst xs.reverse)
  | _ => none
def items : PV → Option (List PV)
  | .tup xs => some xs
  | .lst xs => some xs
  | .frz xs => some xs
  | _ => none
def asI : PV → Option Int
  | .int i => some i
  | _ => none
def rngE (lo : Int) (n : Nat) : List PV := (List.range n).map fun (i : Nat) => .int (lo + (i : Int))
def enumE (xs : List PV) : List PV := (List.range xs.length).map fun (i : Nat) => .tup [.int (i : Int), xs.getD i .non]
def zip2E (xs ys : List PV) : List PV := (xs.zip ys).map fun p => .tup [p.1, p.2]
def zip3E (xs ys zs : List PV) : List PV := (xs.zip (ys.zip zs)).map fun p => .tup [p.1, p.2.1, p.2.2]
def asBM : PV → M Bool
  | .bl b => Pure.pure b
  | _ => bad
def rngM (lo hi : Int) : M (List PV) := if -1000000 ≤ lo ∧ lo ≤ 1000000 ∧ -1000000 ≤ hi ∧ hi ≤ 1000000 then Pure.pure (rngE lo (hi - lo).toNat) else bad
def rng3E (lo hi : Int) : List PV := (List.range (lo - hi).toNat).map fun (i : Nat) => .int (lo + (i : Int) * (-1))
/-- a new list by reference -/
def newRef (xs : List PV) : M PV := ⟨fun S => .ok (.ref S.length) (S ++ [xs])⟩
def getRef (n : Nat) : M (List PV) := ⟨fun S => match S[n]? with
  | some xs => .ok xs S
  | none => .bad⟩
def setRef (n : Nat) (xs : List PV) : M Unit := ⟨fun S => if n < S.length then .ok () (S.set n xs) else .bad⟩
/-- a list comprehension's loop -/
def lcGo (f : PV → M (Option PV)) : List PV → M (List PV)
  | [] => Pure.pure []
  | x :: xs => f x >>= fun o => lcGo f xs >>= fun r => Pure.pure (match o with
    | some y => y :: r
    | none => r)
def lcGo2 (f : PV → M (List PV)) : List PV → M (List PV)
  | [] => Pure.pure []
  | x :: xs => f x >>= fun o => lcGo2 f xs >>= fun r => Pure.pure (o ++ r)

structure Cc where
  call : Nat → List PV → M PV
  cst : Nat → Int

def ixM (c : Cc) (x i : PV) : M PV := match x, i with
  | .ref n, .int i => getRef n >>= fun xs => lift (atE xs i)
  | x, i => lift (ixE x i)

mutual
def ev (c : Cc) : E → Env → M PV
  | .non, _ => Pure.pure .non
  | .bl b, _ => Pure.pure (.bl b)
  | .int i, _ => Pure.pure (.int i)
  | .str x, _ => Pure.pure (.str x)
  | .cst j, _ => Pure.pure (.int (c.cst j))
  | .var i, env => match env[i]? with
    | some (.val v) => Pure.pure v
    | _ => bad
  | .pk i, env => match env[i]? with
    | some (.own xs) => Pure.pure (.lst xs)
    | _ => bad
  | .con _ v, _ => Pure.pure v
  | .fnv f, _ => Pure.pure (.fn f)
  | .tup es, env => evs c es env >>= fun vs => Pure.pure (.tup vs)
  | .lst es, env => evs c es env >>= fun vs => Pure.pure (.lst vs)
  | .tupS es, env => evs c es env >>= fun vs => if vs.length ≤ LIM then Pure.pure (.tup vs) else bad
  | .lstS es, env => evs c es env >>= fun vs => if vs.length ≤ LIM then Pure.pure (.lst vs) else bad
  | .op o a b, env => ev c a env >>= fun x => ev c b env >>= fun y => lift (bopE o x y)
  | .neg a, env => ev c a env >>= fun x => lift ((asI x).map fun i => .int (-i))
  | .cmp o a b, env => ev c a env >>= fun x => ev c b env >>= fun y => lift ((copE o x y).map .bl)
  | .chain o o' a b d, env => ev c a env >>= fun x => ev c b env >>= fun y => lift (copE o x y) >>= fun r =>
      if r = true then ev c d env >>= fun z => lift ((copE o' y z).map .bl) else Pure.pure (.bl false)
  | .and_ es, env => evAnd c es env
  | .or_ es, env => evOr c es env
  | .not_ a, env => ev c a env >>= fun x => asBM x >>= fun b => Pure.pure (.bl (!b))
  | .ite d a b, env => ev c d env >>= fun x => asBM x >>= fun t => if t = true then ev c a env else ev c b env
  | .call f es, env => evs c es env >>= fun vs => c.call f vs
  | .callk f perm _ es, env => evs c es env >>= fun vs => c.call f (perm.map fun j => vs.getD j .non)
  | .callv i es, env => match env[i]? with
    | some (.val (.fn f)) => evs c es env >>= fun vs => c.call f vs
    | _ => bad
  | .bi b es, env => evs c es env >>= fun vs => lift (biE b vs)
  | .isi a t, env => ev c a env >>= fun x => lift ((isiE x t).map .bl)
  | .ix a i, env => ev c a env >>= fun x => ev c i env >>= fun j => ixM c x j
  | .sl a lo hi, env => ev c a env >>= fun x => evO c lo env >>= fun l => evO c hi env >>= fun h => lift (slE x l h)
  | .rev a, env => ev c a env >>= fun x => lift (revE x)
  | .lc elt t it d own, env => evI c it env >>= fun xs => noerr (lcGo (fun x => lift (asgT t x (wipeE env (own.map (·.2)))) >>= fun env2 =>
      evC c d env2 >>= fun b => if b = true then ev c elt env2 >>= fun y => Pure.pure (some y) else Pure.pure none) xs) >>= fun ys => Pure.pure (.lst ys)
  | .lc2 elt t it t1 it1 own own1, env => evI c it env >>= fun xs => noerr (lcGo2 (fun x => lift (asgT t x (wipeE env (own.map (·.2)))) >>= fun env2 =>
      evI c it1 env2 >>= fun zs => lcGo2 (fun z => lift (asgT t1 z (wipeE env2 own1)) >>= fun env3 => ev c elt env3 >>= fun y => Pure.pure [y]) zs) xs) >>= fun ys =>
        if ys.length ≤ LIM then Pure.pure (.lst ys) else bad
  | .poolN es, env => evs c es env >>= fun vs => newRef vs
def evO (c : Cc) : Oe → Env → M (Option Int)
  | .no, _ => Pure.pure none
  | .yes e, env => ev c e env >>= fun x => lift ((asI x).map some)
def evC (c : Cc) : Oe → Env → M Bool
  | .no, _ => Pure.pure true
  | .yes e, env => ev c e env >>= fun x => asBM x
def evs (c : Cc) : Es → Env → M (List PV)
  | .nil, _ => Pure.pure []
  | .cons e es, env => ev c e env >>= fun x => evs c es env >>= fun xs => Pure.pure (x :: xs)
  | .star e es, env => ev c e env >>= fun x => lift (items x) >>= fun ys => evs c es env >>= fun xs => Pure.pure (ys ++ xs)
def evAnd (c : Cc) : Es → Env → M PV
  | .nil, _ => bad
  | .cons e .nil, env => ev c e env
  | .cons e es, env => ev c e env >>= fun x => asBM x >>= fun b => if b = true then evAnd c es env else Pure.pure (.bl false)
  | .star _ _, _ => bad
def evOr (c : Cc) : Es → Env → M PV
  | .nil, _ => bad
  | .cons e .nil, env => ev c e env
  | .cons e es, env => ev c e env >>= fun x => asBM x >>= fun b => if b = true then Pure.pure (.bl true) else evOr c es env
  | .star _ _, _ => bad
def evI (c : Cc) : It → Env → M (List PV)
  | .seq e, env => ev c e env >>= fun x => lift (items x)
  | .rng1 a, env => ev c a env >>= fun x => lift (asI x) >>= fun n => rngM 0 n
  | .rng2 a b, env => ev c a env >>= fun x => ev c b env >>= fun y => lift (asI x) >>= fun lo => lift (asI y) >>= fun hi => rngM lo hi
  | .rng3 a b d, env => ev c a env >>= fun x => ev c b env >>= fun y => ev c d env >>= fun z => lift (asI x) >>= fun lo => lift (asI y) >>= fun hi => lift (asI z) >>= fun k =>
      if k = -1 ∧ -1000000 ≤ lo ∧ lo ≤ 1000000 ∧ -1000000 ≤ hi ∧ hi ≤ 1000000 then Pure.pure (rng3E lo hi) else bad
  | .enum e, env => ev c e env >>= fun x => lift (items x) >>= fun xs => Pure.pure (enumE xs)
  | .zip2 a b, env => ev c a env >>= fun x => ev c b env >>= fun y => lift (items x) >>= fun xs => lift (items y) >>= fun ys => Pure.pure (zip2E xs ys)
  | .zip3 a b d, env => ev c a env >>= fun x => ev c b env >>= fun y => ev c d env >>= fun z => lift (items x) >>= fun xs => lift (items y) >>= fun ys => lift (items z) >>= fun zs => Pure.pure (zip3E xs ys zs)
  | .enumzip a b, env => ev c a env >>= fun x => ev c b env >>= fun y => lift (items x) >>= fun xs => lift (items y) >>= fun ys => Pure.pure (enumE (zip2E xs ys))
end

/-! ### statements -/
inductive Fl where
  | nx (env : Env) | rt (v : PV)
def ownOf (env : Env) (i : Nat) : M (List PV) := match env[i]? with
  | some (.own xs) => Pure.pure xs
  | _ => bad
def parE : List (Nat × Bool) → List PV → Env → Option Env
  | [], [], env => some env
  | (i, false) :: ts, v :: vs, env => parE ts vs (env.set i (.val v))
  | (i, true) :: ts, .lst xs :: vs, env => parE ts vs (env.set i (.own xs))
  | _, _, _ => none
def insE (xs : List PV) (k : Nat) (v : PV) : List PV := xs.take k ++ v :: xs.drop k
def forGo (f : PV → Env → M Fl) : List PV → Env → M Fl
  | [], env => Pure.pure (.nx env)
  | x :: xs, env => f x env >>= fun r => match r with
    | .nx env' => forGo f xs env'
    | .rt v => Pure.pure (.rt v)
def whileGo (t : Env → M Bool) (f : Env → M Fl) : Nat → Env → M Fl
  | 0, _ => bad
  | n + 1, env => t env >>= fun b => if b = true then f env >>= fun r => (match r with
    | .nx env' => whileGo t f n env'
    | .rt v => Pure.pure (.rt v)) else Pure.pure (.nx env)
def setI (env : Env) (i : Nat) (s : Slot) : M Fl := if i < env.length then Pure.pure (.nx (env.set i s)) else bad
mutual
def evS (c : Cc) : St → Env → M Fl
  | .set i e, env => ev c e env >>= fun v => setI env i (.val v)
  | .setO i e, env => ev c e env >>= fun v => match v with
    | .lst xs => setI env i (.own xs)
    | _ => bad
  | .asg t e, env => ev c e env >>= fun v => lift (asgT t v env) >>= fun env' => Pure.pure (.nx env')
  | .par ts es, env => evs c es env >>= fun vs => lift (parE ts vs env) >>= fun env' => Pure.pure (.nx env')
  | .setix i a e, env => ev c e env >>= fun v => ownOf env i >>= fun xs => ev c a env >>= fun x => lift (asI x) >>= fun k => lift (ixN xs.length k) >>= fun j => Pure.pure (.nx (env.set i (.own (xs.set j v))))
  | .setixR r a e, env => ev c e env >>= fun v => ev c r env >>= fun p => ev c a env >>= fun x => (match p with
    | .ref n => getRef n >>= fun xs => lift (asI x) >>= fun k => lift (ixN xs.length k) >>= fun j => setRef n (xs.set j v) >>= fun _ => Pure.pure (.nx env)
    | _ => bad)
  | .app i e, env => ownOf env i >>= fun xs => ev c e env >>= fun v => if xs.length < LIM then Pure.pure (.nx (env.set i (.own (xs ++ [v])))) else bad
  | .ext i e, env => ownOf env i >>= fun xs => ev c e env >>= fun v => (match v with
    | .lst ys => if xs.length + ys.length < LIM then Pure.pure (.nx (env.set i (.own (xs ++ ys)))) else bad
    | _ => bad)
  | .ins i a e, env => ownOf env i >>= fun xs => ev c a env >>= fun x => ev c e env >>= fun v => lift (asI x) >>= fun k =>
      if 0 ≤ k ∧ k.toNat ≤ xs.length ∧ xs.length < LIM then Pure.pure (.nx (env.set i (.own (insE xs k.toNat v)))) else bad
  | .never, _ => bad
  | .share i, env => ownOf env i >>= fun xs => Pure.pure (.nx (env.set i (.val (.lst xs))))
  | .popcall i f j a es, env => ownOf env j >>= fun xs => (match xs.getLast? with
    | some v => (let env' := env.set j (.own xs.dropLast); ev c a env' >>= fun x => lift (ixE v x) >>= fun y => evs c es env' >>= fun vs => c.call f (y :: vs) >>= fun r => setI env' i (.val r))
    | none => bad)
  | .ret e, env => ev c e env >>= fun v => Pure.pure (.rt v)
  | .retN, _ => Pure.pure (.rt .non)
  | .ite d b b', env => ev c d env >>= fun x => asBM x >>= fun t => if t = true then evB c b env else evB c b' env
  | .for_ t it b, env => evI c it env >>= fun xs => forGo (fun x env => lift (asgT t x env) >>= fun env' => evB c b env') xs env
  | .while_ i d b, env => match env[i]? with
    | some (.val (.int k)) => whileGo (fun env => ev c d env >>= fun x => asBM x) (fun env => evB c b env) (k.toNat + 1) env
    | _ => bad
  | .expr e, env => ev c e env >>= fun _ => Pure.pure (.nx env)
  | .pass, env => Pure.pure (.nx env)
  | .raise_ k e, env => match e with
    | .no => raiseM ⟨k, none⟩
    | .yes e => ev c e env >>= fun v => raiseM ⟨k, some v⟩
def evB (c : Cc) : B → Env → M Fl
  | .nil, env => Pure.pure (.nx env)
  | .cons s b, env => evS c s env >>= fun r => match r with
    | .nx env' => evB c b env'
    | .rt v => Pure.pure (.rt v)
end

/-! ### programs -/
structure Prg where
  dt : Nat → Option Def
  cst : Nat → Int
def start0 (d : Def) (args : List PV) : Env := args.map .val ++ List.replicate (d.nms.length - args.length) .emp
def retF : Fl → PV
  | .nx _ => .non
  | .rt v => v
def run (p : Prg) : Nat → Nat → List PV → M PV
  | 0, _, _ => bad
  | n + 1, f, args => match p.dt f with
    | none => bad
    | some d => if args.length = d.np then evB ⟨run p n, p.cst⟩ d.body (start0 d args) >>= fun r => Pure.pure (retF r) else bad
end Wt
/-! Rep: how values of the small language lie in the layer's heap. -/
namespace Wt
open PySem PySem.Spec PyProof.Rows L2

/-- what is public and never changes; where the lists by reference lie -/
structure Gh where
  Hv : Hp
  al : List Addr

section
variable (K : PySem.W.Frag) (fa : Nat → Option Addr)
mutual
inductive Rep (g : Gh) : V → PV → Prop
  | non : Rep g .non .non
  | bl (b : Bool) : Rep g (.bl b) (.bl b)
  | int (i : Int) : Rep g (.int i) (.int i)
  | str (x : Str) : Rep g (.str x) (.str x)
  | tup {a : Addr} {vs : List V} {xs : List PV} : SqT K g.Hv a vs → vs.length ≤ sizeLine → Reps g vs xs → Rep g (.ref a) (.tup xs)
  | lst {a : Addr} {vs : List V} {xs : List PV} : g.Hv a = some (.lst vs) → vs.length ≤ sizeLine → Reps g vs xs → Rep g (.ref a) (.lst xs)
  | frz {a : Addr} {vs : List V} {xs : List PV} : SqL K g.Hv a vs → vs.length ≤ sizeLine → Reps g vs xs → Rep g (.ref a) (.frz xs)
  | fn {f : Nat} {a : Addr} : fa f = some a → Rep g (.ref a) (.fn f)
  | ref {n : Nat} {a : Addr} : g.al[n]? = some a → Rep g (.ref a) (.ref n)
inductive Reps (g : Gh) : List V → List PV → Prop
  | nil : Reps g [] []
  | cons {v : V} {vs : List V} {x : PV} {xs : List PV} : Rep g v x → Reps g vs xs → Reps g (v :: vs) (x :: xs)
end
end

section
variable {K : PySem.W.Frag} {fa : Nat → Option Addr} {g g' : Gh} {v : V} {x : PV} {vs : List V} {xs : List PV} {H H' : Hp} {S S' : Sto}

structure Ext (g : Gh) (H : Hp) (g' : Gh) (H' : Hp) : Prop where
  hv : ∀ a o, g.Hv a = some o → g'.Hv a = some o
  al : ∃ more, g'.al = g.al ++ more
  keep : ∀ a o, H a = some o → a ∉ g.al → H' a = some o
  old : ∀ a, H' a = none → H a = none
  newV : ∀ a o, g'.Hv a = some o → g.Hv a = some o ∨ H a = none
  newA : ∀ a, a ∈ g'.al → a ∈ g.al ∨ H a = none
theorem Ext.refl (g : Gh) (H : Hp) : Ext g H g H := ⟨fun _ _ h => h, ⟨[], by simp⟩, fun _ _ h _ => h, fun _ h => h, fun _ _ h => .inl h, fun _ h => .inl h⟩
theorem Ext.mem {g g' : Gh} {H H' : Hp} (e : Ext g H g' H') {a : Addr} (h : a ∈ g.al) : a ∈ g'.al := by
  obtain ⟨m, e⟩ := e.al
  rw [e]
  exact List.mem_append_left _ h
theorem Ext.trans {g1 g2 g3 : Gh} {H1 H2 H3 : Hp} (a : Ext g1 H1 g2 H2) (b : Ext g2 H2 g3 H3) : Ext g1 H1 g3 H3 where
  hv := fun x o h => b.hv x o (a.hv x o h)
  al := by
    obtain ⟨m, e⟩ := a.al
    obtain ⟨m', e'⟩ := b.al
    exact ⟨m ++ m', by rw [e', e, List.append_assoc]⟩
  keep := fun x o h hn => b.keep x o (a.keep x o h hn) fun hm => by
    rcases a.newA x hm with z | z
    · exact hn z
    · rw [z] at h; cases h
  old := fun x h => a.old x (b.old x h)
  newV := fun x o h => by
    rcases b.newV x o h with z | z
    · exact a.newV x o z
    · exact .inr (a.old x z)
  newA := fun x h => by
    rcases b.newA x h with z | z
    · exact a.newA x z
    · exact .inr (a.old x z)
/-- only what values lean on -/
structure Le (g g' : Gh) : Prop where
  hv : ∀ a o, g.Hv a = some o → g'.Hv a = some o
  al : ∃ more, g'.al = g.al ++ more
theorem Ext.le {g g' : Gh} {H H' : Hp} (e : Ext g H g' H') : Le g g' := ⟨e.hv, e.al⟩
theorem rdMono {H H' : Hp} {a : Addr} {u : HO} (e : ∀ a o, H a = some o → H' a = some o) (h : Rd H a u) : Rd H' a u := by
  rcases h with h | ⟨o, h⟩
  · exact .inl (e _ _ h)
  · exact .inr ⟨o, e _ _ h⟩
theorem sqTMono {H H' : Hp} {a : Addr} (e : ∀ a o, H a = some o → H' a = some o) (h : SqT K H a vs) : SqT K H' a vs := by
  rcases h with h | h
  · exact .inl (rdMono e h)
  · exact .inr h
theorem sqLMono {H H' : Hp} {a : Addr} (e : ∀ a o, H a = some o → H' a = some o) (h : SqL K H a vs) : SqL K H' a vs := by
  rcases h with h | h
  · exact .inl (rdMono e h)
  · exact .inr h
mutual
theorem Rep.mono {g g' : Gh} (e : Le g g') : ∀ {v : V} {x : PV}, Rep K fa g v x → Rep K fa g' v x
  | _, _, .non => .non
  | _, _, .bl b => .bl b
  | _, _, .int i => .int i
  | _, _, .str i => .str i
  | _, _, .tup h1 h2 h3 => .tup (sqTMono e.hv h1) h2 (Reps.mono e h3)
  | _, _, .lst h1 h2 h3 => .lst (e.hv _ _ h1) h2 (Reps.mono e h3)
  | _, _, .frz h1 h2 h3 => .frz (sqLMono e.hv h1) h2 (Reps.mono e h3)
  | _, _, .fn h => .fn h
  | _, _, .ref h => .ref (by
    obtain ⟨m, q⟩ := e.al
    rw [q, List.getElem?_append_left (List.getElem?_eq_some_iff.mp h).1]
    exact h)
theorem Reps.mono {g g' : Gh} (e : Le g g') : ∀ {vs : List V} {xs : List PV}, Reps K fa g vs xs → Reps K fa g' vs xs
  | _, _, .nil => .nil
  | _, _, .cons h t => .cons (Rep.mono e h) (Reps.mono e t)
end
theorem Reps.length : ∀ {vs : List V} {xs : List PV}, Reps K fa g vs xs → vs.length = xs.length
  | _, _, .nil => rfl
  | _, _, .cons _ t => congrArg Nat.succ (Reps.length t)
theorem Reps.append : ∀ {vs : List V} {xs : List PV} {ws : List V} {ys : List PV}, Reps K fa g vs xs → Reps K fa g ws ys → Reps K fa g (vs ++ ws) (xs ++ ys)
  | _, _, _, _, .nil, h => h
  | _, _, _, _, .cons h t, h' => .cons h (Reps.append t h')
theorem Reps.get : ∀ {vs : List V} {xs : List PV} {i : Nat} {x : PV}, Reps K fa g vs xs → xs[i]? = some x → ∃ v, vs[i]? = some v ∧ Rep K fa g v x
  | _, _, _, _, .nil, h => by simp at h
  | _, _, 0, _, .cons h t, e => by simp at e; subst e; exact ⟨_, rfl, h⟩
  | _, _, i + 1, x, .cons h t, e => by
    obtain ⟨v, q, r⟩ := Reps.get t (i := i) (x := x) (by simpa using e)
    exact ⟨v, by simpa using q, r⟩
theorem Reps.set {v : V} {x : PV} (r : Rep K fa g v x) : ∀ {vs : List V} {xs : List PV} (i : Nat), Reps K fa g vs xs → Reps K fa g (vs.set i v) (xs.set i x)
  | _, _, _, .nil => .nil
  | _, _, 0, .cons _ t => .cons r t
  | _, _, i + 1, .cons h t => .cons h (Reps.set r i t)
theorem Reps.take : ∀ {vs : List V} {xs : List PV} (n : Nat), Reps K fa g vs xs → Reps K fa g (vs.take n) (xs.take n)
  | _, _, 0, _ => by simp; exact .nil
  | _, _, _ + 1, .nil => by simp; exact .nil
  | _, _, n + 1, .cons h t => by simpa using .cons h (Reps.take n t)
theorem Reps.drop : ∀ {vs : List V} {xs : List PV} (n : Nat), Reps K fa g vs xs → Reps K fa g (vs.drop n) (xs.drop n)
  | _, _, 0, h => by simpa using h
  | _, _, _ + 1, .nil => by simp; exact .nil
  | _, _, n + 1, .cons h t => by simpa using Reps.drop n t
theorem Reps.reverse : ∀ {vs : List V} {xs : List PV}, Reps K fa g vs xs → Reps K fa g vs.reverse xs.reverse
  | _, _, .nil => .nil
  | _, _, .cons h t => by
    rw [List.reverse_cons, List.reverse_cons]
    exact (Reps.reverse t).append (.cons h .nil)
theorem Reps.ofAll : ∀ {vs : List V} {xs : List PV}, vs.length = xs.length → (∀ (i : Nat) (v : V) (x : PV), vs[i]? = some v → xs[i]? = some x → Rep K fa g v x) → Reps K fa g vs xs
  | [], [], _, _ => .nil
  | [], _ :: _, h, _ => by simp at h
  | _ :: _, [], h, _ => by simp at h
  | v :: vs, x :: xs, h, f => .cons (f 0 v x rfl rfl) (Reps.ofAll (by simpa using h) fun i v' x' a b => f (i + 1) v' x' (by simpa using a) (by simpa using b))
theorem Reps.ints : ∀ {vs : List V} {ns : List Int}, Reps K fa g vs (ns.map .int) → vs = ns.map V.int
  | _, [], .nil => rfl
  | _, n :: ns, .cons h t => by
    cases h
    rw [Reps.ints t]
    rfl
theorem Reps.bls : ∀ {vs : List V} {ns : List Bool}, Reps K fa g vs (ns.map .bl) → vs = ns.map V.bl
  | _, [], .nil => rfl
  | _, n :: ns, .cons h t => by
    cases h
    rw [Reps.bls t]
    rfl
theorem Reps.ofInts : ∀ (ns : List Int), Reps K fa g (ns.map V.int) (ns.map .int)
  | [] => .nil
  | n :: ns => .cons (.int n) (Reps.ofInts ns)

structure Sim (K : PySem.W.Frag) (fa : Nat → Option Addr) (g : Gh) (H : Hp) (S : Sto) : Prop where
  sub : ∀ a o, g.Hv a = some o → H a = some o
  len : g.al.length = S.length
  nd : g.al.Nodup
  pool : ∀ (n : Nat) (a : Addr) (xs : List PV), g.al[n]? = some a → S[n]? = some xs → ∃ vs, H a = some (.lst vs) ∧ vs.length ≤ sizeLine ∧ Reps K fa g vs xs
  hid : ∀ a o, g.Hv a = some o → a ∉ g.al
/-- a new object is laid, unseen -/
theorem Ext.new {p : Addr} {o : HO} (hp : H p = none) : Ext g H g (upd H p o) where
  hv := fun _ _ h => h
  al := ⟨[], by simp⟩
  keep := fun a u h _ => by rw [upd_ne (ne_of_none h hp)]; exact h
  old := fun a h => by
    by_cases e : a = p
    · rw [e]; exact hp
    · rw [upd_ne e] at h; exact h
  newV := fun _ _ h => .inl h
  newA := fun _ h => .inl h
theorem Sim.new {p : Addr} {o : HO} (s : Sim K fa g H S) (hp : H p = none) : Sim K fa g (upd H p o) S where
  sub := fun a u h => by
    have := s.sub a u h
    rw [upd_ne (ne_of_none this hp)]; exact this
  len := s.len
  nd := s.nd
  pool := fun n a xs h1 h2 => by
    obtain ⟨vs, e, l, r⟩ := s.pool n a xs h1 h2
    exact ⟨vs, by rw [upd_ne (ne_of_none e hp)]; exact e, l, r⟩
  hid := s.hid
/-- .. and published -/
def Gh.pub (g : Gh) (p : Addr) (o : HO) : Gh := ⟨upd g.Hv p o, g.al⟩
theorem Sim.hvNone {p : Addr} (s : Sim K fa g H S) (hp : H p = none) : g.Hv p = none := by
  cases e : g.Hv p with
  | none => rfl
  | some o =>
    have := s.sub p o e
    rw [hp] at this; cases this
theorem Sim.alNot {p : Addr} (s : Sim K fa g H S) (hp : H p = none) : p ∉ g.al := fun hm => by
  obtain ⟨n, hn, e⟩ := List.mem_iff_getElem.mp hm
  have e2 : g.al[n]? = some p := by rw [List.getElem?_eq_getElem hn, e]
  have e3 : S[n]? = some (S[n]'(by rw [← s.len]; exact hn)) := List.getElem?_eq_getElem _
  obtain ⟨vs, q, _⟩ := s.pool n p _ e2 e3
  rw [hp] at q; cases q
/-- something of ours, unseen so far, is published: p stands in H', it was not in H -/
theorem Ext.pub {p : Addr} {o : HO} (e : Ext g H g' H') (hp : H p = none) (hg : g.Hv p = none) : Ext g H (g'.pub p o) H' where
  hv := fun a u h => by
    show upd g'.Hv p o a = some u
    have ne : a ≠ p := fun q => by rw [q, hg] at h; cases h
    rw [upd_ne ne]; exact e.hv a u h
  al := e.al
  keep := e.keep
  old := e.old
  newV := fun a u h => by
    by_cases q : a = p
    · rw [q]; exact .inr hp
    · have : upd g'.Hv p o a = some u := h
      rw [upd_ne q] at this
      exact e.newV a u this
  newA := e.newA
theorem Gh.pub_le {p : Addr} {o : HO} (hg : g.Hv p = none) : Le g (g.pub p o) := ⟨fun a u h => by
  show upd g.Hv p o a = some u
  have ne : a ≠ p := fun q => by rw [q, hg] at h; cases h
  rw [upd_ne ne]; exact h, ⟨[], by simp [Gh.pub]⟩⟩
theorem Sim.pub {p : Addr} {o : HO} (s : Sim K fa g H S) (hp : H p = some o) (hg : g.Hv p = none) (ha : p ∉ g.al) : Sim K fa (g.pub p o) H S where
  sub := fun a u h => by
    by_cases q : a = p
    · subst q
      have : upd g.Hv a o a = some u := h
      rw [upd_same] at this
      rw [hp]; exact this
    · have : upd g.Hv p o a = some u := h
      rw [upd_ne q] at this
      exact s.sub a u this
  len := s.len
  nd := s.nd
  pool := fun n a xs h1 h2 => by
    obtain ⟨vs, e, l, r⟩ := s.pool n a xs h1 h2
    exact ⟨vs, e, l, Reps.mono (Gh.pub_le hg) r⟩
  hid := fun a u h hm => by
    by_cases q : a = p
    · subst q; exact ha hm
    · have : upd g.Hv p o a = some u := h
      rw [upd_ne q] at this
      exact s.hid a u this hm
theorem Gh.pub_at {p : Addr} {o : HO} : (g.pub p o).Hv p = some o := upd_same

/-! ### outcomes -/
/-- an exception as it flies: its class, its own dict -/
def RepX (K : PySem.W.Frag) (fa : Nat → Option Addr) (fc : Nat → Addr) (fld : Nat → Str) (g : Gh) (H : Hp) (c : Value) (d : Option Addr) (x : Exn) : Prop :=
  c = .ref (fc x.cls) ∧ match x.arg with
    | none => True
    | some y => ∃ dx v, d = some dx ∧ H dx = some (.xd [(fld x.cls, v)]) ∧ Rep K fa g v y
/-- the program's places -/
structure Pl where
  K : PySem.W.Frag
  fa : Nat → Option Addr
  fc : Nat → Addr
  fld : Nat → Str
def OutG {α β : Type} (L : Pl) (R : Gh → Hp → β → α → Prop) (E : XK) (g : Gh) (H : Hp) (o : Out α) (Q : β → Hp → Prop) : Prop := match o with
  | .ok r S' => ∀ v H' g', Ext g H g' H' → Sim L.K L.fa g' H' S' → R g' H' v r → Q v H'
  | .err x S' => ∀ c d H' g', Ext g H g' H' → Sim L.K L.fa g' H' S' → RepX L.K L.fa L.fc L.fld g' H' c d x → E c d H'
  | .bad => False
end
section
variable {α β γ δ : Type} {L : Pl} {R R1 R2 : Gh → Hp → β → α → Prop} {E : XK} {g g1 : Gh} {H H1 : Hp} {o : Out α} {Q Q1 : β → Hp → Prop} {S : Sto}
theorem OutG.from (h : OutG L R E g H o Q) (e : Ext g H g1 H1) : OutG L R E g1 H1 o Q := by
  cases o with
  | ok r S' => exact fun v H' g' e' s' r' => h v H' g' (e.trans e') s' r'
  | err x S' => exact fun c d H' g' e' s' r' => h c d H' g' (e.trans e') s' r'
  | bad => exact h
theorem OutG.imp (h : OutG L R E g H o Q) (hr : ∀ g' H' v r, Ext g H g' H' → R1 g' H' v r → R g' H' v r) (hq : ∀ v H', Q v H' → Q1 v H') : OutG L R1 E g H o Q1 := by
  cases o with
  | ok r S' => exact fun v H' g' e' s' r' => hq _ _ (h v H' g' e' s' (hr _ _ _ _ e' r'))
  | err x S' => exact h
  | bad => exact h
theorem OutG.bind {m : M α} {f : α → M γ} {R2 : Gh → Hp → δ → γ → Prop} {Q2 : δ → Hp → Prop} (h : OutG L R2 E g H ((m >>= f).go S) Q2)
    (k : ∀ r S1 v H1 g1, m.go S = .ok r S1 → Ext g H g1 H1 → Sim L.K L.fa g1 H1 S1 → R g1 H1 v r → OutG L R2 E g1 H1 ((f r).go S1) Q2 → Q v H1) : OutG L R E g H (m.go S) Q := by
  rw [bind_go] at h
  cases e : m.go S with
  | ok r S' =>
    rw [e] at h
    exact fun v H' g' e' s' r' => k r S' v H' g' e e' s' r' (h.from e')
  | err x S' =>
    rw [e] at h
    exact h
  | bad =>
    rw [e] at h
    exact h.elim
/-- what a lift gives -/
theorem OutG.lift {x : Option α} {f : α → M γ} {R2 : Gh → Hp → δ → γ → Prop} {Q2 : δ → Hp → Prop} (h : OutG L R2 E g H ((lift x >>= f).go S) Q2) : ∃ y, x = some y ∧ OutG L R2 E g H ((f y).go S) Q2 := by
  cases x with
  | none => exact (show False from h).elim
  | some y => exact ⟨y, rfl, h⟩
theorem OutG.lift1 {x : Option α} (h : OutG L R E g H ((Wt.lift x : M α).go S) Q) : ∃ y, x = some y ∧ OutG L R E g H (.ok y S) Q := by
  cases x with
  | none => exact (show False from h).elim
  | some y => exact ⟨y, rfl, h⟩
end

/-! ### a body's slots -/
section
variable {L : Pl} {g0 g g' : Gh} {H0 H H' : Hp} {σ : L2.St} {env : Env} {S S' : Sto}
structure FR (L : Pl) (g0 : Gh) (H0 : Hp) (g : Gh) (H : Hp) (σ : L2.St) (env : Env) (S : Sto) : Prop where
  ext : Ext g0 H0 g H
  sim : Sim L.K L.fa g H S
  len : σ.length = env.length
  val : ∀ (i : Nat) (x : PV), env[i]? = some (.val x) → ∃ v, σ[i]? = some (some v) ∧ Rep L.K L.fa g v x
  own : ∀ (i : Nat) (xs : List PV), env[i]? = some (.own xs) → ∃ p vs, σ[i]? = some (some (.ref p)) ∧ H p = some (.lst vs) ∧ vs.length ≤ sizeLine ∧ Reps L.K L.fa g vs xs ∧ g.Hv p = none ∧ p ∉ g.al ∧ H0 p = none
  inj : ∀ (i j : Nat) (p : Addr) (xs ys : List PV), env[i]? = some (.own xs) → env[j]? = some (.own ys) → σ[i]? = some (some (.ref p)) → σ[j]? = some (some (.ref p)) → i = j
theorem FR.step (f : FR L g0 H0 g H σ env S) (e : Ext g H g' H') (s : Sim L.K L.fa g' H' S') : FR L g0 H0 g' H' σ env S' where
  ext := f.ext.trans e
  sim := s
  len := f.len
  val := fun i x h => by
    obtain ⟨v, h1, h2⟩ := f.val i x h
    exact ⟨v, h1, h2.mono e.le⟩
  own := fun i xs h => by
    obtain ⟨p, vs, h1, h2, h3, h4, h5, h6, h7⟩ := f.own i xs h
    refine ⟨p, vs, h1, e.keep p _ h2 h6, h3, h4.mono e.le, ?_, ?_, h7⟩
    · cases q : g'.Hv p with
      | none => rfl
      | some o =>
        rcases e.newV p o q with z | z
        · rw [h5] at z; cases z
        · rw [z] at h2; cases h2
    · intro hm
      rcases e.newA p hm with z | z
      · exact h6 z
      · rw [z] at h2; cases h2
  inj := f.inj
/-- a slot takes a value -/
theorem FR.setVal {i : Nat} {v : V} {x : PV} (f : FR L g0 H0 g H σ env S) (r : Rep L.K L.fa g v x) : FR L g0 H0 g H (σ.set i (some v)) (env.set i (.val x)) S where
  ext := f.ext
  sim := f.sim
  len := by simpa using f.len
  val := fun j y h => by
    by_cases e : i = j
    · subst e
      by_cases hi : i < env.length
      · rw [List.getElem?_set_self hi] at h
        cases h
        exact ⟨v, List.getElem?_set_self (by rw [f.len]; exact hi), r⟩
      · rw [List.getElem?_eq_none (by simpa using hi)] at h; cases h
    · rw [List.getElem?_set_ne e] at h ⊢
      exact f.val j y h
  own := fun j xs h => by
    by_cases e : i = j
    · subst e
      by_cases hi : i < env.length
      · rw [List.getElem?_set_self hi] at h; cases h
      · rw [List.getElem?_eq_none (by simpa using hi)] at h; cases h
    · rw [List.getElem?_set_ne e] at h ⊢
      exact f.own j xs h
  inj := fun j l p xs ys h1 h2 h3 h4 => by
    by_cases e : i = j
    · subst e
      by_cases hi : i < env.length
      · rw [List.getElem?_set_self hi] at h1; cases h1
      · rw [List.getElem?_eq_none (by simpa using hi)] at h1; cases h1
    · by_cases e' : i = l
      · subst e'
        by_cases hi : i < env.length
        · rw [List.getElem?_set_self hi] at h2; cases h2
        · rw [List.getElem?_eq_none (by simpa using hi)] at h2; cases h2
      · rw [List.getElem?_set_ne e] at h1 h3
        rw [List.getElem?_set_ne e'] at h2 h4
        exact f.inj j l p xs ys h1 h2 h3 h4
/-- a slot takes a new list of its own -/
theorem FR.setOwn {i : Nat} {p : Addr} {vs : List V} {xs : List PV} (f : FR L g0 H0 g H σ env S) (h2 : H p = some (.lst vs)) (h3 : vs.length ≤ sizeLine) (h4 : Reps L.K L.fa g vs xs) (h5 : g.Hv p = none) (h6 : p ∉ g.al) (h7 : H0 p = none)
    (hd : ∀ (j : Nat) ys, env[j]? = some (.own ys) → σ[j]? = some (some (.ref p)) → j = i) : FR L g0 H0 g H (σ.set i (some (.ref p))) (env.set i (.own xs)) S where
  ext := f.ext
  sim := f.sim
  len := by simpa using f.len
  val := fun j y h => by
    by_cases e : i = j
    · subst e
      by_cases hi : i < env.length
      · rw [List.getElem?_set_self hi] at h; cases h
      · rw [List.getElem?_eq_none (by simpa using hi)] at h; cases h
    · rw [List.getElem?_set_ne e] at h ⊢
      exact f.val j y h
  own := fun j ys h => by
    by_cases e : i = j
    · subst e
      by_cases hi : i < env.length
      · rw [List.getElem?_set_self hi] at h
        cases h
        exact ⟨p, vs, List.getElem?_set_self (by rw [f.len]; exact hi), h2, h3, h4, h5, h6, h7⟩
      · rw [List.getElem?_eq_none (by simpa using hi)] at h; cases h
    · rw [List.getElem?_set_ne e] at h ⊢
      exact f.own j ys h
  inj := fun j l q xs' ys h1 h2' h3' h4' => by
    by_cases e : i = j
    · by_cases e' : i = l
      · rw [← e, ← e']
      · subst e
        rw [List.getElem?_set_ne e'] at h2' h4'
        have hi : i < σ.length := by
          rcases Nat.lt_or_ge i σ.length with z | z
          · exact z
          · rw [List.getElem?_eq_none (by simpa using z)] at h3'; cases h3'
        rw [List.getElem?_set_self hi] at h3'
        cases h3'
        exact (hd l ys h2' h4').symm
    · by_cases e' : i = l
      · subst e'
        rw [List.getElem?_set_ne e] at h1 h3'
        have hi : i < σ.length := by
          rcases Nat.lt_or_ge i σ.length with z | z
          · exact z
          · rw [List.getElem?_eq_none (by simpa using z)] at h4'; cases h4'
        rw [List.getElem?_set_self hi] at h4'
        cases h4'
        exact hd j xs' h1 h3'
      · rw [List.getElem?_set_ne e] at h1 h3'
        rw [List.getElem?_set_ne e'] at h2' h4'
        exact f.inj j l q xs' ys h1 h2' h3' h4'
/-- an own list is written -/
theorem FR.write {i : Nat} {p : Addr} {vs vs' : List V} {xs xs' : List PV} (f : FR L g0 H0 g H σ env S) (hi : env[i]? = some (.own xs)) (hp : σ[i]? = some (some (.ref p))) (hH : H p = some (.lst vs)) (h3 : vs'.length ≤ sizeLine) (h4 : Reps L.K L.fa g vs' xs')
    (h5 : g.Hv p = none) (h6 : p ∉ g.al) (h7 : H0 p = none) : FR L g0 H0 g (upd H p (.lst vs')) σ (env.set i (.own xs')) S := by
  have hlt : i < env.length := (List.getElem?_eq_some_iff.mp hi).1
  have sub : ∀ a u, g.Hv a = some u → upd H p (.lst vs') a = some u := fun a u h => by
    have ne : a ≠ p := fun q => by rw [q, h5] at h; cases h
    rw [upd_ne ne]; exact f.sim.sub a u h
  refine ⟨⟨f.ext.hv, f.ext.al, fun a u h hn => ?_, fun a h => ?_, f.ext.newV, f.ext.newA⟩, ⟨sub, f.sim.len, f.sim.nd, fun n a ys q1 q2 => ?_, f.sim.hid⟩, by simpa using f.len, fun j y h => ?_, fun j ys h => ?_, fun j l q us ys h1 h2 h3' h4' => ?_⟩
  · have ne : a ≠ p := fun q => by rw [q, h7] at h; cases h
    rw [upd_ne ne]; exact f.ext.keep a u h hn
  · by_cases q : a = p
    · rw [q]; exact h7
    · rw [upd_ne q] at h; exact f.ext.old a h
  · obtain ⟨ws, e, l, r⟩ := f.sim.pool n a ys q1 q2
    have ne : a ≠ p := fun q => h6 (q ▸ List.mem_of_getElem? q1)
    exact ⟨ws, by rw [upd_ne ne]; exact e, l, r⟩
  · by_cases e : i = j
    · subst e
      rw [List.getElem?_set_self hlt] at h; cases h
    · rw [List.getElem?_set_ne e] at h
      exact f.val j y h
  · by_cases e : i = j
    · subst e
      rw [List.getElem?_set_self hlt] at h
      cases h
      exact ⟨p, vs', hp, upd_same, h3, h4, h5, h6, h7⟩
    · rw [List.getElem?_set_ne e] at h
      obtain ⟨q, ws, k1, k2, k3, k4, k5, k6, k7⟩ := f.own j ys h
      have ne : q ≠ p := fun z => e (f.inj i j p xs ys hi h hp (z ▸ k1))
      exact ⟨q, ws, k1, by rw [upd_ne ne]; exact k2, k3, k4, k5, k6, k7⟩
  · have own' : ∀ (k : Nat) (zs : List PV), (env.set i (Slot.own xs'))[k]? = some (Slot.own zs) → ∃ ws, env[k]? = some (Slot.own ws) := fun k zs hk => by
      by_cases e : i = k
      · subst e; exact ⟨xs, hi⟩
      · rw [List.getElem?_set_ne e] at hk; exact ⟨zs, hk⟩
    obtain ⟨w1, k1⟩ := own' j _ h1
    obtain ⟨w2, k2⟩ := own' l _ h2
    exact f.inj j l q w1 w2 k1 k2 h3' h4'
/-- an own list is published -/
theorem FR.share {i : Nat} {xs : List PV} (f : FR L g0 H0 g H σ env S) (hi : env[i]? = some (.own xs)) : ∃ g', Le g g' ∧ FR L g0 H0 g' H σ (env.set i (.val (.lst xs))) S := by
  obtain ⟨p, vs, h1, h2, h3, h4, h5, h6, h7⟩ := f.own i xs hi
  have hlt : i < env.length := (List.getElem?_eq_some_iff.mp hi).1
  have le := Gh.pub_le (o := .lst vs) h5
  refine ⟨g.pub p (.lst vs), le, f.ext.pub h7 ?_, f.sim.pub h2 h5 h6, by simpa using f.len, fun j y h => ?_, fun j ys h => ?_, fun j l q xs' ys k1 k2 k3 k4 => ?_⟩
  · cases q : g0.Hv p with
    | none => rfl
    | some o =>
      have := f.ext.hv p o q
      rw [h5] at this; cases this
  · by_cases e : i = j
    · subst e
      rw [List.getElem?_set_self hlt] at h
      cases h
      exact ⟨_, h1, .lst Gh.pub_at h3 (h4.mono le)⟩
    · rw [List.getElem?_set_ne e] at h
      obtain ⟨v, k1, k2⟩ := f.val j y h
      exact ⟨v, k1, k2.mono le⟩
  · by_cases e : i = j
    · subst e
      rw [List.getElem?_set_self hlt] at h; cases h
    · rw [List.getElem?_set_ne e] at h
      obtain ⟨q, ws, k1, k2, k3, k4, k5, k6, k7⟩ := f.own j ys h
      have ne : q ≠ p := fun z => e (f.inj i j p xs ys hi h h1 (z ▸ k1))
      refine ⟨q, ws, k1, k2, k3, k4.mono le, ?_, k6, k7⟩
      show upd g.Hv p _ q = none
      rw [upd_ne ne]; exact k5
  · have ne : ∀ (k : Nat) (zs : List PV), (env.set i (Slot.val (.lst xs)))[k]? = some (Slot.own zs) → env[k]? = some (Slot.own zs) := fun k zs hk => by
      by_cases e : i = k
      · subst e
        rw [List.getElem?_set_self hlt] at hk; cases hk
      · rw [List.getElem?_set_ne e] at hk; exact hk
    exact f.inj j l q _ _ (ne _ _ k1) (ne _ _ k2) k3 k4
/-- slots forgotten -/
theorem FR.wipe1 {i : Nat} (f : FR L g0 H0 g H σ env S) : FR L g0 H0 g H (σ.set i none) (env.set i .emp) S := by
  have ne : ∀ k s, (env.set i .emp)[k]? = some s → s ≠ .emp → env[k]? = some s ∧ i ≠ k := fun k s hk hs => by
    by_cases e : i = k
    · subst e
      by_cases hi : i < env.length
      · rw [List.getElem?_set_self hi] at hk; cases hk; exact absurd rfl hs
      · rw [List.getElem?_eq_none (by simpa using hi)] at hk; cases hk
    · rw [List.getElem?_set_ne e] at hk; exact ⟨hk, e⟩
  refine ⟨f.ext, f.sim, by simpa using f.len, fun j y h => ?_, fun j ys h => ?_, fun j l q xs' ys k1 k2 k3 k4 => ?_⟩
  · obtain ⟨h, e⟩ := ne _ _ h (by simp)
    rw [List.getElem?_set_ne e]
    exact f.val j y h
  · obtain ⟨h, e⟩ := ne _ _ h (by simp)
    rw [List.getElem?_set_ne e]
    exact f.own j ys h
  · obtain ⟨h1, e1⟩ := ne _ _ k1 (by simp)
    obtain ⟨h2, e2⟩ := ne _ _ k2 (by simp)
    rw [List.getElem?_set_ne e1] at k3
    rw [List.getElem?_set_ne e2] at k4
    exact f.inj j l q _ _ h1 h2 k3 k4
theorem FR.wipe (f : FR L g0 H0 g H σ env S) : ∀ vs : List Nat, FR L g0 H0 g H (L2.wipe σ vs) (wipeE env vs) S
  | [] => f
  | v :: vs => (f.wipe vs).wipe1
end
end Wt
/-! Prim: the operators and built-in calls of the small language over the layer. -/
namespace Wt
open PySem PySem.Spec PyProof.Rows L2

/-- as Rep, or a list of the frame's own that is read -/
def RepR (L : Pl) (g : Gh) (H : Hp) (v : V) (x : PV) : Prop := Rep L.K L.fa g v x ∨ ∃ p vs xs, v = .ref p ∧ x = .lst xs ∧ H p = some (.lst vs) ∧ vs.length ≤ sizeLine ∧ Reps L.K L.fa g vs xs ∧ p ∉ g.al
section
variable {L : Pl} {g g' : Gh} {H H' : Hp} {v : V} {x : PV} {S : Sto}
theorem RepR.of (h : Rep L.K L.fa g v x) : RepR L g H v x := .inl h
theorem RepR.step (h : RepR L g H v x) (e : Ext g H g' H') : RepR L g' H' v x := by
  rcases h with h | ⟨p, vs, xs, h1, h2, h3, h4, h5, h6⟩
  · exact .inl (h.mono e.le)
  · refine .inr ⟨p, vs, xs, h1, h2, e.keep p _ h3 h6, h4, h5.mono e.le, fun hm => ?_⟩
    rcases e.newA p hm with z | z
    · exact h6 z
    · rw [z] at h3; cases h3
theorem RepR.lst {xs : List PV} (h : RepR L g H v (.lst xs)) (s : Sim L.K L.fa g H S) : ∃ p vs, v = .ref p ∧ H p = some (.lst vs) ∧ vs.length ≤ sizeLine ∧ Reps L.K L.fa g vs xs := by
  rcases h with h | ⟨p, vs, ys, h1, h2, h3, h4, h5, h6⟩
  · cases h with
    | lst h1 h2 h3 => exact ⟨_, _, rfl, s.sub _ _ h1, h2, h3⟩
  · cases h2
    exact ⟨p, vs, h1, h3, h4, h5⟩
theorem RepR.tup {xs : List PV} (h : RepR L g H v (.tup xs)) (s : Sim L.K L.fa g H S) : ∃ p vs, v = .ref p ∧ SqT L.K H p vs ∧ vs.length ≤ sizeLine ∧ Reps L.K L.fa g vs xs ∧ Rep L.K L.fa g v (.tup xs) := by
  rcases h with h | ⟨p, vs, ys, h1, h2, h3, h4, h5, h6⟩
  · have h' := h
    cases h with
    | tup h1 h2 h3 => exact ⟨_, _, rfl, sqTMono s.sub h1, h2, h3, h'⟩
  · cases h2
theorem RepR.frz {xs : List PV} (h : RepR L g H v (.frz xs)) (s : Sim L.K L.fa g H S) : ∃ p vs, v = .ref p ∧ SqL L.K H p vs ∧ vs.length ≤ sizeLine ∧ Reps L.K L.fa g vs xs := by
  rcases h with h | ⟨p, vs, ys, h1, h2, h3, h4, h5, h6⟩
  · cases h with
    | frz h1 h2 h3 => exact ⟨_, _, rfl, sqLMono s.sub h1, h2, h3⟩
  · cases h2
theorem RepR.int {i : Int} (h : RepR L g H v (.int i)) : v = .int i := by
  rcases h with h | ⟨p, vs, ys, h1, h2, h3, h4, h5, h6⟩
  · cases h; rfl
  · cases h2
theorem RepR.bl {i : Bool} (h : RepR L g H v (.bl i)) : v = .bl i := by
  rcases h with h | ⟨p, vs, ys, h1, h2, h3, h4, h5, h6⟩
  · cases h; rfl
  · cases h2
theorem RepR.str {i : Str} (h : RepR L g H v (.str i)) : v = .str i := by
  rcases h with h | ⟨p, vs, ys, h1, h2, h3, h4, h5, h6⟩
  · cases h; rfl
  · cases h2
theorem RepR.non (h : RepR L g H v .non) : v = .non := by
  rcases h with h | ⟨p, vs, ys, h1, h2, h3, h4, h5, h6⟩
  · cases h; rfl
  · cases h2
end

/-! ### data -/
mutual
def toD : PV → PyData
  | .non => .none
  | .bl b => .bool b
  | .int i => .int i
  | .str x => .str x
  | .tup xs => .tuple (toDs xs)
  | .lst xs => .list (toDs xs)
  | .frz _ => .none
  | .fn _ => .none
  | .ref _ => .none
def toDs : List PV → List PyData
  | [] => []
  | x :: xs => toD x :: toDs xs
end
mutual
theorem toD_eqv : ∀ (n m : Nat) (x y : PV), PV.dat n x = true → PV.dat m y = true → PyData.eqv (toD x) (toD y) = PV.eqv x y
  | n, m, x, y, hx, hy => by
    cases x <;> cases y <;> first
      | (simp only [toD, PyData.eqv, PV.eqv]; done)
      | (cases n <;> cases m <;> simp_all [PV.dat]; done)
      | (rename_i xs ys
         cases n with
         | zero => simp [PV.dat] at hx
         | succ n => cases m with
           | zero => simp [PV.dat] at hy
           | succ m =>
             simp only [toD, PyData.eqv, PV.eqv]
             exact toDs_eqv n m xs ys (by simpa [PV.dat] using hx) (by simpa [PV.dat] using hy))
theorem toDs_eqv : ∀ (n m : Nat) (xs ys : List PV), PV.dats n xs = true → PV.dats m ys = true → PyData.eqvAll (toDs xs) (toDs ys) = PV.eqvs xs ys
  | _, _, [], [], _, _ => by simp only [toDs, PyData.eqvAll, PV.eqvs]
  | _, _, [], _ :: _, _, _ => by simp only [toDs, PyData.eqvAll, PV.eqvs]
  | _, _, _ :: _, [], _, _ => by simp only [toDs, PyData.eqvAll, PV.eqvs]
  | n, m, x :: xs, y :: ys, hx, hy => by
    simp only [PV.dats, Bool.and_eq_true] at hx hy
    simp only [toDs, PyData.eqvAll, PV.eqvs]
    rw [toD_eqv n m x y hx.1 hy.1, toDs_eqv n m xs ys hx.2 hy.2]
end
mutual
theorem toD_lay : ∀ (n : Nat) (x : PV), PV.dat n x = true → (toD x).canLay0 = true ∧ (toD x).depth ≤ n
  | n, x, hx => by
    cases x <;> first
      | (simp only [toD, PyData.canLay0, PyData.depth]; exact ⟨trivial, Nat.zero_le _⟩)
      | (cases n <;> simp_all [toD, PyData.canLay0, PyData.depth, PV.dat]; done)
      | (rename_i xs
         cases n with
         | zero => simp [PV.dat] at hx
         | succ n =>
           have h := toDs_lay n xs (by simpa [PV.dat] using hx)
           simp only [toD, PyData.canLay0, PyData.depth]
           exact ⟨h.1, Nat.succ_le_succ h.2⟩)
theorem toDs_lay : ∀ (n : Nat) (xs : List PV), PV.dats n xs = true → PyData.canLayAll0 (toDs xs) = true ∧ PyData.depthAll (toDs xs) ≤ n
  | n, [], _ => by simp [toDs, PyData.canLayAll0, PyData.depthAll]
  | n, x :: xs, h => by
    simp only [PV.dats, Bool.and_eq_true] at h
    have h1 := toD_lay n x h.1
    have h2 := toDs_lay n xs h.2
    simp only [toDs, PyData.canLayAll0, PyData.depthAll, h1.1, h2.1]
    exact ⟨rfl, by have := h1.2; have := h2.2; omega⟩
end
theorem toD_shaped {x : PV} (h : datB x = true) : SeqAt.shaped (toD x) = true := by
  obtain ⟨h1, h2⟩ := toD_lay 60 x h
  show ((toD x).canLay0 && decide ((toD x).depth ≤ 64)) = true
  rw [h1, decide_eq_true (by omega)] <;> rfl
theorem toDs_shaped {xs : List PV} (h : PV.dats 60 xs = true) : SeqAt.shaped (.list (toDs xs)) = true := by
  obtain ⟨h1, h2⟩ := toDs_lay 60 xs h
  show (PyData.canLay0 (.list (toDs xs)) && decide (PyData.depth (.list (toDs xs)) ≤ 64)) = true
  have h3 : PyData.canLay0 (.list (toDs xs)) = true := by simpa only [PyData.canLay0] using h1
  have h4 : PyData.depth (.list (toDs xs)) ≤ 64 := by simp only [PyData.depth]; omega
  rw [h3, decide_eq_true h4] <;> rfl
section
variable {L : Pl} {g g' : Gh} {H H' : Hp} {v : V} {x : PV} {S : Sto}
mutual
theorem Rep.dp (s : ∀ a o, g.Hv a = some o → H a = some o) : ∀ {n : Nat} {v : V} {x : PV}, Rep L.K L.fa g v x → PV.dat n x = true → Dp L.K H v (toD x)
  | _, _, _, .non, _ => by simp only [toD]; exact .non
  | _, _, _, .bl b, _ => by simp only [toD]; exact .bl b
  | _, _, _, .int i, _ => by simp only [toD]; exact .int i
  | _, _, _, .str x, _ => by simp only [toD]; exact .str x
  | 0, _, _, .tup _ _ _, h => by simp [PV.dat] at h
  | 0, _, _, .lst _ _ _, h => by simp [PV.dat] at h
  | n + 1, _, _, .tup h1 h2 h3, h => by
    simp only [toD]
    exact .tup (sqTMono s h1) (Reps.dp s h3 (n := n) (by simpa [PV.dat] using h))
  | n + 1, _, _, .lst h1 h2 h3, h => by
    simp only [toD]
    exact .lst (.of (s _ _ h1)) (Reps.dp s h3 (n := n) (by simpa [PV.dat] using h))
  | n, _, _, .frz _ _ _, h => by cases n <;> simp [PV.dat] at h
  | n, _, _, .fn _, h => by cases n <;> simp [PV.dat] at h
  | n, _, _, .ref _, h => by cases n <;> simp [PV.dat] at h
theorem Reps.dp (s : ∀ a o, g.Hv a = some o → H a = some o) : ∀ {n : Nat} {vs : List V} {xs : List PV}, Reps L.K L.fa g vs xs → PV.dats n xs = true → DpAll L.K H vs (toDs xs)
  | _, _, _, .nil, _ => by simp only [toDs]; exact .nil
  | n, _, _, .cons h t, e => by
    simp only [PV.dats, Bool.and_eq_true] at e
    simp only [toDs]
    exact .cons (Rep.dp s h e.1) (Reps.dp s t e.2)
end
theorem RepR.dp (h : RepR L g H v x) (s : Sim L.K L.fa g H S) (d : datB x = true) : Dp L.K H v (toD x) := by
  rcases h with h | ⟨p, vs, xs, rfl, rfl, h3, h4, h5, h6⟩
  · exact h.dp s.sub d
  · simp only [toD]
    exact .lst (.of h3) (h5.dp s.sub (n := 59) (by simpa [datB, PV.dat] using d))
end
/-- flat values -/
theorem flat_rep {L : Pl} {g : Gh} {H : Hp} {v : V} {x : PV} (h : RepR L g H v x) (f : flatB x = true) : flatV v = true ∧ ∀ {w : V} {y : PV} {g' : Gh} {H' : Hp}, RepR L g' H' w y → flatB y = true → eqV w v = PV.eqv y x := by
  cases x with
  | non =>
    obtain rfl := h.non
    refine ⟨rfl, fun {w y _ _} h' f' => ?_⟩
    cases y with
    | non => obtain rfl := h'.non; rfl
    | bl b => obtain rfl := h'.bl; rfl
    | int b => obtain rfl := h'.int; rfl
    | str b => obtain rfl := h'.str; rfl
    | _ => cases f'
  | bl a =>
    obtain rfl := h.bl
    refine ⟨rfl, fun {w y _ _} h' f' => ?_⟩
    cases y with
    | non => obtain rfl := h'.non; rfl
    | bl b => obtain rfl := h'.bl; rfl
    | int b => obtain rfl := h'.int; rfl
    | str b => obtain rfl := h'.str; rfl
    | _ => cases f'
  | int a =>
    obtain rfl := h.int
    refine ⟨rfl, fun {w y _ _} h' f' => ?_⟩
    cases y with
    | non => obtain rfl := h'.non; rfl
    | bl b => obtain rfl := h'.bl; rfl
    | int b => obtain rfl := h'.int; rfl
    | str b => obtain rfl := h'.str; rfl
    | _ => cases f'
  | str a =>
    obtain rfl := h.str
    refine ⟨rfl, fun {w y _ _} h' f' => ?_⟩
    cases y with
    | non => obtain rfl := h'.non; rfl
    | bl b => obtain rfl := h'.bl; rfl
    | int b => obtain rfl := h'.int; rfl
    | str b => obtain rfl := h'.str; rfl
    | _ => cases f'
  | _ => cases f
theorem flat_in {L : Pl} {g : Gh} {H : Hp} {v : V} {x : PV} (h : RepR L g H v x) (f : flatB x = true) : ∀ {vs : List V} {xs : List PV}, Reps L.K L.fa g vs xs → xs.all flatB = true → vs.all flatV = true ∧ inV v vs = inE x xs
  | _, _, .nil, _ => ⟨rfl, rfl⟩
  | _, _, .cons r t, e => by
    rw [List.all_cons, Bool.and_eq_true] at e
    obtain ⟨h1, h2⟩ := flat_in h f t e.2
    have r' : RepR L g H _ _ := RepR.of r
    refine ⟨by rw [List.all_cons, (flat_rep r' e.1).1, h1] <;> rfl, ?_⟩
    unfold inV inE at h2 ⊢
    rw [List.any_cons, List.any_cons, h2, (flat_rep h f).2 r' e.1]

/-! ### what an operation asks and gives -/
/-- the value x in g, H, S is handed on -/
def Give (L : Pl) (g : Gh) (H : Hp) (S : Sto) (x : PV) (Q : VK) : Prop := ∀ v H' g', Ext g H g' H' → Sim L.K L.fa g' H' S → Rep L.K L.fa g' v x → Q v H'
section
variable {L : Pl} {g g' : Gh} {H H' : Hp} {v : V} {x : PV} {S : Sto} {Q : VK}
theorem Give.here (h : Give L g H S x Q) (s : Sim L.K L.fa g H S) (r : Rep L.K L.fa g v x) : Q v H := h v H g (.refl _ _) s r
theorem Give.tup {vs : List V} {xs : List PV} (h : Give L g H S (.tup xs) Q) (s : Sim L.K L.fa g H S) (r : Reps L.K L.fa g vs xs) (l : vs.length ≤ sizeLine) : ∀ p, H p = none → Q (.ref p) (upd H p (.tup vs)) := fun p hp => by
  have hg := s.hvNone hp
  exact h (.ref p) _ (g.pub p (.tup vs)) ((Ext.new hp).pub hp hg) ((s.new hp).pub upd_same hg (s.alNot hp)) (.tup (.of Gh.pub_at) l (r.mono (Gh.pub_le hg)))
theorem Give.lst {vs : List V} {xs : List PV} (h : Give L g H S (.lst xs) Q) (s : Sim L.K L.fa g H S) (r : Reps L.K L.fa g vs xs) (l : vs.length ≤ sizeLine) : ∀ p, H p = none → Q (.ref p) (upd H p (.lst vs)) := fun p hp => by
  have hg := s.hvNone hp
  exact h (.ref p) _ (g.pub p (.lst vs)) ((Ext.new hp).pub hp hg) ((s.new hp).pub upd_same hg (s.alNot hp)) (.lst Gh.pub_at l (r.mono (Gh.pub_le hg)))
end
def rBop (L : Pl) (o : BOp) : R2 := fun x y H Q => ∃ g S px py r, Sim L.K L.fa g H S ∧ RepR L g H x px ∧ RepR L g H y py ∧ bopE o px py = some r ∧ Give L g H S r Q
theorem limS : LIM ≤ sizeLine := by rw [sizeLine_eq]; decide
section
variable {X : Cx} {L : Pl}
theorem op_fdivG : OpR X (binaryOp .FloorDiv) (rI (fun _ j => j ≠ 0 ∧ j.natAbs.log2 < 9000) fun i j => .int (i.fdiv j)) := opI fun _ _ _ _ _ _ _ hc q => floordiv_int hc.1 q (.inl (PyProof.noPylong_of_log2 hc.2))
theorem bop_add (hK : X.K = L.K) : OpR X (binaryOp .Add) (rBop L .add) := by
  intro pins s σ H x y v u Q I rx ry h
  obtain ⟨g, S, px, py, r, sm, r1, r2, e, q⟩ := h
  cases px <;> cases py <;> simp only [bopE] at e <;> first
    | (cases e; done)
    | skip
  · cases e
    obtain rfl := r1.int
    obtain rfl := r2.int
    exact op_add pins s σ H _ _ v u Q I rx ry ⟨_, _, rfl, rfl, q.here sm (.int _)⟩
  · rename_i xs ys
    split at e
    · rename_i hl
      cases e
      obtain ⟨a, vs, rfl, h1, h2, h3, h4⟩ := r1.tup sm
      obtain ⟨b, ws, rfl, k1, k2, k3, k4⟩ := r2.tup sm
      have e1 := h3.length
      have e2 := k3.length
      have hz : vs.length + ws.length ≤ sizeLine := by have := limS; omega
      refine op_catA pins s σ H _ _ v u Q I rx ry ⟨a, b, vs, ws, rfl, rfl, hK ▸ h1, hK ▸ k1, hz, fun e0 => ?_, fun _ e0 => ?_, fun _ _ => ?_⟩
      · subst e0
        cases h3
        exact q.here sm k4
      · subst e0
        cases k3
        rw [List.append_nil] at q
        exact q.here sm h4
      · exact q.tup sm (h3.append k3) (by rw [List.length_append]; exact hz)
    · cases e
  · rename_i xs ys
    split at e
    · rename_i hl
      cases e
      obtain ⟨a, vs, rfl, h1, h2, h3⟩ := r1.lst sm
      obtain ⟨b, ws, rfl, k1, k2, k3⟩ := r2.lst sm
      have e1 := h3.length
      have e2 := k3.length
      have hz : vs.length + ws.length ≤ sizeLine := by have := limS; omega
      exact op_cat pins s σ H _ _ v u Q I rx ry ⟨a, b, vs, ws, rfl, rfl, h1, k1, hz, q.lst sm (h3.append k3) (by rw [List.length_append]; exact hz)⟩
    · cases e
theorem bop_sub : OpR X (binaryOp .Sub) (rBop L .sub) := by
  intro pins s σ H x y v u Q I rx ry h
  obtain ⟨g, S, px, py, r, sm, r1, r2, e, q⟩ := h
  cases px <;> cases py <;> simp only [bopE] at e <;> first
    | (cases e; done)
    | skip
  cases e
  obtain rfl := r1.int
  obtain rfl := r2.int
  exact op_sub pins s σ H _ _ v u Q I rx ry ⟨_, _, rfl, rfl, q.here sm (.int _)⟩

theorem tuple_mul1 (l : Addr) (items : Array Value) (n : Nat) (dd : Option Addr) (sl : Array (Option Value)) (u : Tok) :
    Meets (Builtin.«tuple.__mul__» ⟨[.ref l, .int 1 u], []⟩) (fun _ R s => s.heap.get? l = some { cls := .type "tuple", dict := dd, data := .seq items n, slots := sl } ∧
      R (.ok (.ret (Value.ref l))) s) :=
  .of_wp fun prog w A R s h => by
    obtain ⟨hp, g, d, tk, os⟩ := s
    obtain ⟨hl, h⟩ := h
    have f1 := AutoSeq1.idx_int
    have c0 : (decide ((1 : Int) < -(2 ^ 63)) || decide ((1 : Int) ≥ 2 ^ 63)) = false := by decide
    have c1 : (items.isEmpty || (1 : Int) == 1) = true := by simp
    wp_walk using wpAny_loadPart' hl
    repeat (first
      | (refine wpAny_ite_false (decide_eq_false (by rw [c0]; exact Bool.false_ne_true)) ?_; wp_walk using wpAny_loadPart' hl)
      | (refine wpAny_ite_true (decide_eq_true c1) ?_; wp_walk using wpAny_loadPart' hl)
      | (rw [if_pos c1]; wp_walk using wpAny_loadPart' hl))
    exact ⟨_, rfl, h⟩

theorem op_rep1 : OpR X (binaryOp .Mult) (fun x y H Q => ∃ l xs, x = .ref l ∧ y = .int 1 ∧ SqT X.K H l xs ∧ Q (.ref l) H) := by
  intro pins s σ H x y v u Q I rx ry h
  obtain ⟨l, xs, rfl, rfl, hT, q⟩ := h
  cases rx
  obtain ⟨t, rfl⟩ := ry
  obtain ⟨its, r, ⟨⟨cls, dd, data, sl⟩, ho, hc, n, hd⟩, hs⟩ := I.tuple hT
  simp only at hc hd
  subst hc hd
  exact wpAny_binaryOp_repeat_ref (T := "tuple") (U := "int") (by decide) ⟨_, ho, rfl⟩ (fun s' => typeIs_int s' 1 t) noFill_tuple_mul F.fills_int_mul F.slot_int_rmul repeat_tuple F.slot_int_index.lookup
    (call_meets F.slot_int_rmul (typeIs_int s 1 t) F.entry_int_rmul (F.args_int_rmul_2 _ _) (int_rmul_tuple 1 t l its.toArray n dd sl)
      ⟨ho, rfl, ⟨_, ho, rfl⟩, call_meets F.slot_tuple_mul ⟨_, ho, rfl⟩ F.entry_tuple_mul (F.args_tuple_mul_2 _ _) (tuple_mul1 l its.toArray n dd sl t) ⟨ho, ⟨.ref l, H, I, rfl, q⟩⟩⟩)
theorem Reps.rep {K : PySem.W.Frag} {fa : Nat → Option Addr} {g : Gh} {vs : List V} {xs : List PV} (r : Reps K fa g vs xs) : ∀ k : Nat, Reps K fa g (List.replicate k vs).flatten (List.replicate k xs).flatten
  | 0 => .nil
  | k + 1 => by
    rw [List.replicate_succ, List.replicate_succ, List.flatten_cons, List.flatten_cons]
    exact r.append (Reps.rep r k)
theorem bop_mul (hK : X.K = L.K) : OpR X (binaryOp .Mult) (rBop L .mul) := by
  intro pins s σ H x y v u Q I rx ry h
  obtain ⟨g, S, px, py, r, sm, r1, r2, e, q⟩ := h
  cases px <;> cases py <;> simp only [bopE] at e <;> first
    | (cases e; done)
    | skip
  · split at e
    · rename_i hm
      cases e
      obtain rfl := r1.int
      obtain rfl := r2.int
      exact op_mulW pins s σ H _ _ v u Q I rx ry ⟨_, _, rfl, rfl, by simpa [mulOk, CMulW] using hm, q.here sm (.int _)⟩
    · cases e
  · rename_i xs k
    split at e
    · rename_i hm
      obtain ⟨m1, m2, m3, m4⟩ := hm
      cases e
      obtain rfl := r2.int
      obtain ⟨a, vs, rfl, h1, h2, h3, h4⟩ := r1.tup sm
      have e1 := h3.length
      by_cases k1 : k = 1
      · subst k1
        have e2 : (List.replicate (Int.toNat 1) xs).flatten = xs := by simp
        rw [e2] at q
        exact op_rep1 pins s σ H _ _ v u Q I rx ry ⟨a, vs, rfl, rfl, hK ▸ h1, q.here sm h4⟩
      · refine op_repT pins s σ H _ _ v u Q I rx ry ⟨a, k, vs, rfl, rfl, hK ▸ h1, ?_, by omega, m2, by omega, q.tup sm (h3.rep _) ?_⟩
        · intro z
          rw [z] at e1
          simp at e1
          omega
        · rw [PyProof.Rows.lm_len_rep_flat, sizeLine_eq]
          have a1 : k.toNat * vs.length ≤ 1000 * 1000 := Nat.mul_le_mul (by omega) (by omega)
          omega
    · cases e
theorem bop_fdiv : OpR X (binaryOp .FloorDiv) (rBop L .fdiv) := by
  intro pins s σ H x y v u Q I rx ry h
  obtain ⟨g, S, px, py, r, sm, r1, r2, e, q⟩ := h
  cases px <;> cases py <;> simp only [bopE] at e <;> first
    | (cases e; done)
    | skip
  split at e
  · rename_i hm
    cases e
    obtain rfl := r1.int
    obtain rfl := r2.int
    simp only [divOk, Bool.and_eq_true, decide_eq_true_eq] at hm
    exact op_fdivG pins s σ H _ _ v u Q I rx ry ⟨_, _, rfl, rfl, hm, q.here sm (.int _)⟩
  · cases e
theorem bop_mod : OpR X (binaryOp .Mod) (rBop L .mod) := by
  intro pins s σ H x y v u Q I rx ry h
  obtain ⟨g, S, px, py, r, sm, r1, r2, e, q⟩ := h
  cases px <;> cases py <;> simp only [bopE] at e <;> first
    | (cases e; done)
    | skip
  split at e
  · rename_i hm
    cases e
    obtain rfl := r1.int
    obtain rfl := r2.int
    exact op_modN pins s σ H _ _ v u Q I rx ry ⟨_, _, rfl, rfl, hm, q.here sm (.int _)⟩
  · cases e
theorem bop_pow : OpR X (binaryOp .Pow) (rBop L .pow) := by
  intro pins s σ H x y v u Q I rx ry h
  obtain ⟨g, S, px, py, r, sm, r1, r2, e, q⟩ := h
  cases px <;> cases py <;> simp only [bopE] at e <;> first
    | (cases e; done)
    | skip
  split at e
  · rename_i hm
    obtain ⟨m1, m2, m3⟩ := hm
    cases e
    obtain rfl := r1.int
    obtain rfl := r2.int
    exact op_pow pins s σ H _ _ v u Q I rx ry ⟨_, _, rfl, rfl, ⟨m1, by omega, m3⟩, q.here sm (.int _)⟩
  · cases e
def opOf : BOp → Operator
  | .add => .Add
  | .sub => .Sub
  | .mul => .Mult
  | .fdiv => .FloorDiv
  | .mod => .Mod
  | .pow => .Pow
theorem bop_ok (hK : X.K = L.K) : ∀ o : BOp, OpR X (binaryOp (opOf o)) (rBop L o)
  | .add => bop_add hK
  | .sub => bop_sub
  | .mul => bop_mul hK
  | .fdiv => bop_fdiv
  | .mod => bop_mod
  | .pow => bop_pow
def rCop (L : Pl) (o : COp) : R2 := fun x y H Q => ∃ g S px py r, Sim L.K L.fa g H S ∧ RepR L g H x px ∧ RepR L g H y py ∧ copE o px py = some r ∧ Give L g H S (.bl r) Q
def copOf : COp → CmpOp
  | .eq => .Eq
  | .ne => .NotEq
  | .lt => .Lt
  | .le => .LtE
  | .gt => .Gt
  | .ge => .GtE
  | .is => .Is
  | .isnot => .IsNot
  | .in_ => .In
  | .notin => .NotIn
theorem cop_eq (hK : X.K = L.K) (hu : X.A.units + 64 < cLine) : OpR X (compareOp .Eq) (rCop L .eq) := by
  intro pins s σ H x y v u Q I rx ry h
  obtain ⟨g, S, px, py, r, sm, r1, r2, e, q⟩ := h
  simp only [copE] at e
  split at e
  · rename_i hd
    rw [Bool.and_eq_true] at hd
    cases e
    refine op_eqD hu pins s σ H _ _ v u Q I rx ry ⟨toD px, toD py, hK ▸ r1.dp sm hd.1, hK ▸ r2.dp sm hd.2, toD_shaped hd.1, toD_shaped hd.2, ?_⟩
    rw [toD_eqv 60 60 px py hd.1 hd.2]
    exact q.here sm (.bl _)
  · cases e
theorem cop_ne (hK : X.K = L.K) (hu : X.A.units + 64 < cLine) : OpR X (compareOp .NotEq) (rCop L .ne) := by
  intro pins s σ H x y v u Q I rx ry h
  obtain ⟨g, S, px, py, r, sm, r1, r2, e, q⟩ := h
  simp only [copE] at e
  split at e
  · rename_i hd
    rw [Bool.and_eq_true] at hd
    cases e
    refine op_neD hu pins s σ H _ _ v u Q I rx ry ⟨toD px, toD py, hK ▸ r1.dp sm hd.1, hK ▸ r2.dp sm hd.2, toD_shaped hd.1, toD_shaped hd.2, ?_⟩
    rw [toD_eqv 60 60 px py hd.1 hd.2]
    exact q.here sm (.bl _)
  · cases e
theorem cop_lt : OpR X (compareOp .Lt) (rCop L .lt) := by
  intro pins s σ H x y v u Q I rx ry h
  obtain ⟨g, S, px, py, r, sm, r1, r2, e, q⟩ := h
  cases px <;> cases py <;> simp only [copE] at e <;> first
    | (cases e; done)
    | skip
  cases e
  obtain rfl := r1.int
  obtain rfl := r2.int
  exact op_lt pins s σ H _ _ v u Q I rx ry ⟨_, _, rfl, rfl, q.here sm (.bl _)⟩
theorem cop_le : OpR X (compareOp .LtE) (rCop L .le) := by
  intro pins s σ H x y v u Q I rx ry h
  obtain ⟨g, S, px, py, r, sm, r1, r2, e, q⟩ := h
  cases px <;> cases py <;> simp only [copE] at e <;> first
    | (cases e; done)
    | skip
  cases e
  obtain rfl := r1.int
  obtain rfl := r2.int
  exact op_le pins s σ H _ _ v u Q I rx ry ⟨_, _, rfl, rfl, q.here sm (.bl _)⟩
theorem cop_gt : OpR X (compareOp .Gt) (rCop L .gt) := by
  intro pins s σ H x y v u Q I rx ry h
  obtain ⟨g, S, px, py, r, sm, r1, r2, e, q⟩ := h
  cases px <;> cases py <;> simp only [copE] at e <;> first
    | (cases e; done)
    | skip
  cases e
  obtain rfl := r1.int
  obtain rfl := r2.int
  exact op_gt pins s σ H _ _ v u Q I rx ry ⟨_, _, rfl, rfl, q.here sm (.bl _)⟩
theorem cop_ge : OpR X (compareOp .GtE) (rCop L .ge) := by
  intro pins s σ H x y v u Q I rx ry h
  obtain ⟨g, S, px, py, r, sm, r1, r2, e, q⟩ := h
  cases px <;> cases py <;> simp only [copE] at e <;> first
    | (cases e; done)
    | skip
  cases e
  obtain rfl := r1.int
  obtain rfl := r2.int
  exact op_ge pins s σ H _ _ v u Q I rx ry ⟨_, _, rfl, rfl, q.here sm (.bl _)⟩
/-- nothing but None is None -/
theorem isNon {g : Gh} {H : Hp} {x : V} {px : PV} (h : RepR L g H x px) : decide (x = V.non) = isNonE px := by
  rcases h with h | ⟨p, vs, xs, rfl, rfl, _⟩
  · cases h <;> simp [isNonE]
  · simp [isNonE]
theorem copE_is {px py : PV} {r : Bool} (e : copE .is px py = some r) : (py = .non ∧ r = isNonE px) ∨ ∃ a b, px = .bl a ∧ py = .bl b ∧ r = (a == b) := by
  cases py <;> simp only [copE] at e
  · cases e; exact .inl ⟨rfl, rfl⟩
  · cases px <;> simp only [copE] at e <;> first
      | (cases e; done)
      | (cases e; exact .inr ⟨_, _, rfl, rfl, rfl⟩)
  all_goals (cases px <;> simp [copE] at e)
theorem copE_isnot {px py : PV} {r : Bool} (e : copE .isnot px py = some r) : (py = .non ∧ r = !isNonE px) ∨ ∃ a b, px = .bl a ∧ py = .bl b ∧ r = !(a == b) := by
  cases py <;> simp only [copE] at e
  · cases e; exact .inl ⟨rfl, rfl⟩
  · cases px <;> simp only [copE] at e <;> first
      | (cases e; done)
      | (cases e; exact .inr ⟨_, _, rfl, rfl, rfl⟩)
  all_goals (cases px <;> simp [copE] at e)
theorem cop_is : OpR X (compareOp .Is) (rCop L .is) := by
  intro pins s σ H x y v u Q I rx ry h
  obtain ⟨g, S, px, py, r, sm, r1, r2, e, q⟩ := h
  rcases copE_is e with ⟨rfl, rfl⟩ | ⟨a, b, rfl, rfl, rfl⟩
  · obtain rfl := r2.non
    refine op_isN pins s σ H _ _ v u Q I rx ry ⟨rfl, ?_⟩
    rw [isNon r1]
    exact q.here sm (.bl _)
  · obtain rfl := r1.bl
    obtain rfl := r2.bl
    refine op_isBl pins s σ H _ _ v u Q I rx ry ⟨a, b, rfl, rfl, ?_⟩
    have h2 : decide (a = b) = (a == b) := by cases a <;> cases b <;> rfl
    rw [h2]
    exact q.here sm (.bl _)
theorem cop_isnot : OpR X (compareOp .IsNot) (rCop L .isnot) := by
  intro pins s σ H x y v u Q I rx ry h
  obtain ⟨g, S, px, py, r, sm, r1, r2, e, q⟩ := h
  rcases copE_isnot e with ⟨rfl, rfl⟩ | ⟨a, b, rfl, rfl, rfl⟩
  · obtain rfl := r2.non
    refine op_notN pins s σ H _ _ v u Q I rx ry ⟨rfl, ?_⟩
    rw [isNon r1]
    exact q.here sm (.bl _)
  · obtain rfl := r1.bl
    obtain rfl := r2.bl
    refine op_notBl pins s σ H _ _ v u Q I rx ry ⟨a, b, rfl, rfl, ?_⟩
    have h2 : decide (a = b) = (a == b) := by cases a <;> cases b <;> rfl
    rw [h2]
    exact q.here sm (.bl _)
theorem any_eqv {px : PV} (hx : datB px = true) : ∀ {ys : List PV}, PV.dats 60 ys = true → ((toDs ys).any fun z => PyData.eqv z (toD px)) = inE px ys
  | [], _ => by simp [toDs, inE]
  | y :: ys, h => by
    simp only [PV.dats, Bool.and_eq_true] at h
    have ih := any_eqv hx h.2
    unfold inE at ih ⊢
    simp only [toDs, List.any_cons]
    rw [ih, toD_eqv 60 60 y px h.1 hx]
theorem dp_lst {g : Gh} {H : Hp} {S : Sto} {y : V} {ys : List PV} (r2 : RepR L g H y (.lst ys)) (sm : Sim L.K L.fa g H S) (h : PV.dats 60 ys = true) : Dp L.K H y (.list (toDs ys)) := by
  obtain ⟨p, vs, rfl, h1, h2, h3⟩ := r2.lst sm
  exact .lst (.of h1) (h3.dp sm.sub h)
theorem cop_in (hK : X.K = L.K) (hu : X.A.units + 65 < cLine) : OpR X (compareOp .In) (rCop L .in_) := by
  intro pins s σ H x y v u Q I rx ry h
  obtain ⟨g, S, px, py, r, sm, r1, r2, e, q⟩ := h
  cases py <;> simp only [copE] at e <;> first
    | (cases e; done)
    | skip
  · rename_i ys
    split at e
    · rename_i hd
      rw [Bool.and_eq_true] at hd
      cases e
      obtain ⟨p, vs, rfl, h1, h2, h3, h4⟩ := r2.tup sm
      obtain ⟨f1, f2⟩ := flat_in r1 hd.1 h3 hd.2
      refine op_in_seq pins s σ H _ _ v u Q I rx ry ⟨p, vs, rfl, .inr (hK ▸ h1), (flat_rep r1 hd.1).1, f1, ?_⟩
      simp only [Bool.false_eq_true, if_false, f2]
      exact q.here sm (.bl _)
    · cases e
  · rename_i ys
    split at e
    · rename_i hd
      rw [Bool.and_eq_true] at hd
      cases e
      refine op_inD hu pins s σ H _ _ v u Q I rx ry ⟨toD px, toDs ys, hK ▸ r1.dp sm hd.1, hK ▸ dp_lst r2 sm hd.2, toD_shaped hd.1, toDs_shaped hd.2, ?_⟩
      rw [any_eqv hd.1 hd.2]
      exact q.here sm (.bl _)
    · cases e
theorem cop_notin (hK : X.K = L.K) (hu : X.A.units + 65 < cLine) : OpR X (compareOp .NotIn) (rCop L .notin) := by
  intro pins s σ H x y v u Q I rx ry h
  obtain ⟨g, S, px, py, r, sm, r1, r2, e, q⟩ := h
  cases py <;> simp only [copE] at e <;> first
    | (cases e; done)
    | skip
  · rename_i ys
    split at e
    · rename_i hd
      rw [Bool.and_eq_true] at hd
      cases e
      obtain ⟨p, vs, rfl, h1, h2, h3, h4⟩ := r2.tup sm
      obtain ⟨f1, f2⟩ := flat_in r1 hd.1 h3 hd.2
      refine op_notIn_seq pins s σ H _ _ v u Q I rx ry ⟨p, vs, rfl, .inr (hK ▸ h1), (flat_rep r1 hd.1).1, f1, ?_⟩
      simp only [if_true, f2]
      exact q.here sm (.bl _)
    · cases e
  · rename_i ys
    split at e
    · rename_i hd
      rw [Bool.and_eq_true] at hd
      cases e
      refine op_notInD hu pins s σ H _ _ v u Q I rx ry ⟨toD px, toDs ys, hK ▸ r1.dp sm hd.1, hK ▸ dp_lst r2 sm hd.2, toD_shaped hd.1, toDs_shaped hd.2, ?_⟩
      rw [any_eqv hd.1 hd.2]
      exact q.here sm (.bl _)
    · cases e
theorem cop_ok (hK : X.K = L.K) (hu : X.A.units + 65 < cLine) : ∀ o : COp, OpR X (compareOp (copOf o)) (rCop L o)
  | .eq => cop_eq hK (by omega)
  | .ne => cop_ne hK (by omega)
  | .lt => cop_lt
  | .le => cop_le
  | .gt => cop_gt
  | .ge => cop_ge
  | .is => cop_is
  | .isnot => cop_isnot
  | .in_ => cop_in hK hu
  | .notin => cop_notin hK hu
end
end Wt
/-! PrimB: built-in calls. -/
namespace Wt
open PySem PySem.Spec PyProof.Rows L2
inductive RepRs (L : Pl) (g : Gh) (H : Hp) : List V → List PV → Prop
  | nil : RepRs L g H [] []
  | cons {v : V} {vs : List V} {x : PV} {xs : List PV} : RepR L g H v x → RepRs L g H vs xs → RepRs L g H (v :: vs) (x :: xs)
theorem RepRs.step {L : Pl} {g g' : Gh} {H H' : Hp} (e : Ext g H g' H') : ∀ {vs : List V} {xs : List PV}, RepRs L g H vs xs → RepRs L g' H' vs xs
  | _, _, .nil => .nil
  | _, _, .cons h t => .cons (h.step e) (RepRs.step e t)
theorem RepRs.of {L : Pl} {g : Gh} {H : Hp} : ∀ {vs : List V} {xs : List PV}, Reps L.K L.fa g vs xs → RepRs L g H vs xs
  | _, _, .nil => .nil
  | _, _, .cons h t => .cons (.of h) (RepRs.of t)
def rBi (L : Pl) (b : BI) : List V → Hp → VK → Prop := fun vs H Q => ∃ g S xs r, Sim L.K L.fa g H S ∧ RepRs L g H vs xs ∧ biE b xs = some r ∧ Give L g H S r Q
theorem asBs_eq : ∀ {xs : List PV} {bs : List Bool}, asBs xs = some bs → xs = bs.map .bl
  | [], bs, h => by simp [asBs] at h; subst h; rfl
  | x :: xs, bs, h => by
    cases x <;> simp only [asBs] at h <;> first
      | (cases h; done)
      | skip
    cases e : asBs xs with
    | none => rw [e] at h; cases h
    | some cs =>
      rw [e] at h
      cases h
      rw [asBs_eq e]
      rfl
theorem asIs_eq : ∀ {xs : List PV} {bs : List Int}, asIs xs = some bs → xs = bs.map .int
  | [], bs, h => by simp [asIs] at h; subst h; rfl
  | x :: xs, bs, h => by
    cases x <;> simp only [asIs] at h <;> first
      | (cases h; done)
      | skip
    cases e : asIs xs with
    | none => rw [e] at h; cases h
    | some cs =>
      rw [e] at h
      cases h
      rw [asIs_eq e]
      rfl
/-! ### greatest, least, sorted -/
theorem foldMax : ∀ (r : List Int) (x : Int), (r.foldl (fun a b => if b > a then b else a) x) ∈ x :: r ∧ ∀ y ∈ x :: r, y ≤ r.foldl (fun a b => if b > a then b else a) x
  | [], x => by simp
  | b :: r, x => by
    have ih := foldMax r (if b > x then b else x)
    have e : (b :: r).foldl (fun a b => if b > a then b else a) x = r.foldl (fun a b => if b > a then b else a) (if b > x then b else x) := rfl
    rw [e]
    generalize hz : r.foldl (fun a b => if b > a then b else a) (if b > x then b else x) = z at ih ⊢
    constructor
    · rcases List.mem_cons.mp ih.1 with h | h
      · rw [h]; split <;> simp
      · simp [h]
    · intro y hy
      have h0 := ih.2 (if b > x then b else x) (by simp)
      rcases List.mem_cons.mp hy with h | h
      · subst h; split at h0 <;> omega
      · rcases List.mem_cons.mp h with h | h
        · subst h; split at h0 <;> omega
        · exact ih.2 y (by simp [h])
theorem foldMin : ∀ (r : List Int) (x : Int), (r.foldl (fun a b => if b < a then b else a) x) ∈ x :: r ∧ ∀ y ∈ x :: r, r.foldl (fun a b => if b < a then b else a) x ≤ y
  | [], x => by simp
  | b :: r, x => by
    have ih := foldMin r (if b < x then b else x)
    have e : (b :: r).foldl (fun a b => if b < a then b else a) x = r.foldl (fun a b => if b < a then b else a) (if b < x then b else x) := rfl
    rw [e]
    generalize hz : r.foldl (fun a b => if b < a then b else a) (if b < x then b else x) = z at ih ⊢
    constructor
    · rcases List.mem_cons.mp ih.1 with h | h
      · rw [h]; split <;> simp
      · simp [h]
    · intro y hy
      have h0 := ih.2 (if b < x then b else x) (by simp)
      rcases List.mem_cons.mp hy with h | h
      · subst h; split at h0 <;> omega
      · rcases List.mem_cons.mp h with h | h
        · subst h; split at h0 <;> omega
        · exact ih.2 y (by simp [h])
theorem insI_perm (x : Int) : ∀ l : List Int, (insI x l).Perm (x :: l)
  | [] => .refl _
  | y :: r => by
    unfold insI
    split
    · exact .refl _
    · exact ((insI_perm x r).cons y).trans (.swap x y r)
theorem insI_sorted (x : Int) : ∀ l : List Int, l.Pairwise (· ≤ ·) → (insI x l).Pairwise (· ≤ ·)
  | [], _ => by simp [insI]
  | y :: r, h => by
    unfold insI
    rw [List.pairwise_cons] at h
    split
    · rename_i hx
      refine List.pairwise_cons.mpr ⟨fun z hz => ?_, List.pairwise_cons.mpr h⟩
      rcases List.mem_cons.mp hz with e | e
      · omega
      · have := h.1 z e; omega
    · rename_i hx
      refine List.pairwise_cons.mpr ⟨fun z hz => ?_, insI_sorted x r h.2⟩
      rcases List.mem_cons.mp ((insI_perm x r).mem_iff.mp hz) with e | e
      · omega
      · exact h.1 z e
theorem sortI_go : ∀ (xs acc : List Int), acc.Pairwise (· ≤ ·) → (xs.foldl (fun a x => insI x a) acc).Pairwise (· ≤ ·) ∧ (xs.foldl (fun a x => insI x a) acc).Perm (acc ++ xs)
  | [], acc, h => ⟨h, by simp⟩
  | x :: xs, acc, h => by
    have ih := sortI_go xs (insI x acc) (insI_sorted x acc h)
    refine ⟨ih.1, ih.2.trans ?_⟩
    exact ((insI_perm x acc).append_right xs).trans (List.perm_middle.symm)
theorem sortI_sorted (xs : List Int) : (sortI xs).Pairwise (· ≤ ·) := (sortI_go xs [] .nil).1
theorem sortI_perm (xs : List Int) : (sortI xs).Perm xs := (sortI_go xs [] .nil).2
section
variable {X : Cx} {L : Pl}
theorem one {L : Pl} {g : Gh} {H : Hp} {vs : List V} {x : PV} (h : RepRs L g H vs [x]) : ∃ v, vs = [v] ∧ RepR L g H v x := by
  cases h with
  | cons h t => cases t; exact ⟨_, rfl, h⟩
theorem two {L : Pl} {g : Gh} {H : Hp} {vs : List V} {x y : PV} (h : RepRs L g H vs [x, y]) : ∃ v w, vs = [v, w] ∧ RepR L g H v x ∧ RepR L g H w y := by
  cases h with
  | cons h t => cases t with
    | cons h' t => cases t; exact ⟨_, _, rfl, h, h'⟩
theorem bi_len (hK : X.K = L.K) : CallR X (.builtin "len") (rBi L .len) := by
  intro pins s σ H vs us Q I r h
  obtain ⟨g, S, xs, r', sm, rs, e, q⟩ := h
  unfold biE at e
  split at e <;> first
    | (simp at *; done)
    | skip
  · cases e
    obtain ⟨v, rfl, hv⟩ := one rs
    obtain ⟨p, ws, rfl, h1, h2, h3, _⟩ := hv.tup sm
    exact call_len_seq pins s σ H _ us Q I r ⟨p, ws, rfl, .inr (hK ▸ h1), by rw [h3.length]; exact q.here sm (.int _)⟩
  · cases e
    obtain ⟨v, rfl, hv⟩ := one rs
    obtain ⟨p, ws, rfl, h1, h2, h3⟩ := hv.lst sm
    exact call_len_seq pins s σ H _ us Q I r ⟨p, ws, rfl, .inl (.of h1), by rw [h3.length]; exact q.here sm (.int _)⟩
  · cases e
    obtain ⟨v, rfl, hv⟩ := one rs
    obtain ⟨p, ws, rfl, h1, h2, h3⟩ := hv.frz sm
    exact call_len_seq pins s σ H _ us Q I r ⟨p, ws, rfl, .inl (hK ▸ h1), by rw [h3.length]; exact q.here sm (.int _)⟩
theorem bi_int : CallR X (.type "int") (rBi L .int) := by
  intro pins s σ H vs us Q I r h
  obtain ⟨g, S, xs, r', sm, rs, e, q⟩ := h
  unfold biE at e
  split at e <;> first
    | (simp at *; done)
    | skip
  · cases e
    obtain ⟨v, rfl, hv⟩ := one rs
    obtain rfl := hv.int
    exact call_int1 pins s σ H _ us Q I r (.inl ⟨_, rfl, q.here sm (.int _)⟩)
  · cases e
    obtain ⟨v, rfl, hv⟩ := one rs
    obtain rfl := hv.bl
    exact call_int1 pins s σ H _ us Q I r (.inr ⟨_, rfl, q.here sm (.int _)⟩)
theorem bi_abs : CallR X (.builtin "abs") (rBi L .abs) := by
  intro pins s σ H vs us Q I r h
  obtain ⟨g, S, xs, r', sm, rs, e, q⟩ := h
  unfold biE at e
  split at e <;> first
    | (simp at *; done)
    | skip
  cases e
  obtain ⟨v, rfl, hv⟩ := one rs
  obtain rfl := hv.int
  exact call_abs pins s σ H _ us Q I r ⟨_, rfl, q.here sm (.int _)⟩
theorem bi_tuple (hK : X.K = L.K) : CallR X (.type "tuple") (rBi L .tuple) := by
  intro pins s σ H vs us Q I r h
  obtain ⟨g, S, xs, r', sm, rs, e, q⟩ := h
  unfold biE at e
  split at e <;> first
    | (simp at *; done)
    | skip
  · cases e
    obtain ⟨v, rfl, hv⟩ := one rs
    obtain ⟨p, ws, rfl, h1, h2, h3, h4⟩ := hv.tup sm
    exact call_tuple_of pins s σ H _ us Q I r ⟨p, ws, rfl, .inr ⟨hK ▸ h1, q.here sm h4⟩⟩
  · cases e
    obtain ⟨v, rfl, hv⟩ := one rs
    obtain ⟨p, ws, rfl, h1, h2, h3⟩ := hv.lst sm
    exact call_tuple_of pins s σ H _ us Q I r ⟨p, ws, rfl, .inl ⟨.of h1, q.tup sm h3 h2⟩⟩
theorem bi_list (hK : X.K = L.K) : CallR X (.type "list") (rBi L .list) := by
  intro pins s σ H vs us Q I r h
  obtain ⟨g, S, xs, r', sm, rs, e, q⟩ := h
  unfold biE at e
  split at e <;> first
    | (simp at *; done)
    | skip
  · cases e
    obtain ⟨v, rfl, hv⟩ := one rs
    obtain ⟨p, ws, rfl, h1, h2, h3, h4⟩ := hv.tup sm
    exact call_list_of pins s σ H _ us Q I r ⟨p, ws, rfl, .inr (hK ▸ h1), q.lst sm h3 h2⟩
  · cases e
    obtain ⟨v, rfl, hv⟩ := one rs
    obtain ⟨p, ws, rfl, h1, h2, h3⟩ := hv.lst sm
    exact call_list_of pins s σ H _ us Q I r ⟨p, ws, rfl, .inl (.of h1), q.lst sm h3 h2⟩
theorem bi_all (hc : X.calm = true) : CallR X (.builtin "all") (rBi L .all) := by
  intro pins s σ H vs us Q I r h
  obtain ⟨g, S, xs, r', sm, rs, e, q⟩ := h
  unfold biE at e
  split at e <;> first
    | (simp at *; done)
    | skip
  rename_i ys hne
  cases e0 : asBs ys with
  | none => rw [e0] at e; cases e
  | some bs =>
    rw [e0] at e
    cases e
    obtain ⟨v, rfl, hv⟩ := one rs
    obtain ⟨p, ws, rfl, h1, h2, h3⟩ := hv.lst sm
    have h4 := asBs_eq e0
    subst h4
    obtain rfl := h3.bls
    exact cr_all hc pins s σ H _ us Q I r ⟨p, bs, rfl, .of h1, q.here sm (.bl _)⟩
theorem bi_any (hc : X.calm = true) : CallR X (.builtin "any") (rBi L .any) := by
  intro pins s σ H vs us Q I r h
  obtain ⟨g, S, xs, r', sm, rs, e, q⟩ := h
  unfold biE at e
  split at e <;> first
    | (simp at *; done)
    | skip
  rename_i ys hne
  cases e0 : asBs ys with
  | none => rw [e0] at e; cases e
  | some bs =>
    rw [e0] at e
    cases e
    obtain ⟨v, rfl, hv⟩ := one rs
    obtain ⟨p, ws, rfl, h1, h2, h3⟩ := hv.lst sm
    have h4 := asBs_eq e0
    subst h4
    obtain rfl := h3.bls
    exact cr_any hc pins s σ H _ us Q I r ⟨p, bs, rfl, .of h1, q.here sm (.bl _)⟩
theorem bi_max (hc : X.calm = true) : CallR X (.builtin "max") (rBi L .max) := by
  intro pins s σ H vs us Q I r h
  obtain ⟨g, S, xs, r', sm, rs, e, q⟩ := h
  unfold biE at e
  split at e <;> first
    | (simp at *; done)
    | skip
  · cases e
    obtain ⟨v, w, rfl, hv, hw⟩ := two rs
    obtain rfl := hv.int
    obtain rfl := hw.int
    exact call_max2 hc pins s σ H _ us Q I r ⟨_, _, rfl, q.here sm (.int _)⟩
  · split at e
    · rename_i ys n ns e0
      cases e
      obtain ⟨v, rfl, hv⟩ := one rs
      obtain ⟨p, ws, rfl, h1, h2, h3⟩ := hv.lst sm
      have h4 := asIs_eq e0
      subst h4
      obtain rfl := h3.ints
      refine cr_max hc pins s σ H _ us Q I r ⟨p, n :: ns, rfl, .of h1, by simp, fun m hm hy => ?_⟩
      have h5 := foldMax ns n
      have h6 : m = maxI (n :: ns) := Int.le_antisymm (h5.2 m hm) (hy _ h5.1)
      rw [h6]
      exact q.here sm (.int _)
    · cases e
theorem bi_min (hc : X.calm = true) : CallR X (.builtin "min") (rBi L .min) := by
  intro pins s σ H vs us Q I r h
  obtain ⟨g, S, xs, r', sm, rs, e, q⟩ := h
  unfold biE at e
  split at e <;> first
    | (simp at *; done)
    | skip
  · cases e
    obtain ⟨v, w, rfl, hv, hw⟩ := two rs
    obtain rfl := hv.int
    obtain rfl := hw.int
    exact call_min2 hc pins s σ H _ us Q I r ⟨_, _, rfl, q.here sm (.int _)⟩
  · split at e
    · rename_i ys n ns e0
      cases e
      obtain ⟨v, rfl, hv⟩ := one rs
      obtain ⟨p, ws, rfl, h1, h2, h3⟩ := hv.lst sm
      have h4 := asIs_eq e0
      subst h4
      obtain rfl := h3.ints
      refine cr_min hc pins s σ H _ us Q I r ⟨p, n :: ns, rfl, .of h1, by simp, fun m hm hy => ?_⟩
      have h5 := foldMin ns n
      have h6 : m = minI (n :: ns) := Int.le_antisymm (hy _ h5.1) (h5.2 m hm)
      rw [h6]
      exact q.here sm (.int _)
    · cases e
theorem bi_gcd : CallR X (.builtin "math.gcd") (rBi L .gcd) := by
  intro pins s σ H vs us Q I r h
  obtain ⟨g, S, xs, r', sm, rs, e, q⟩ := h
  unfold biE at e
  split at e <;> first
    | (simp at *; done)
    | skip
  cases e
  obtain ⟨v, w, rfl, hv, hw⟩ := two rs
  obtain rfl := hv.int
  obtain rfl := hw.int
  exact cr_gcd pins s σ H _ us Q I r ⟨_, _, rfl, q.here sm (.int _)⟩
theorem bi_sorted : CallR X (.builtin "sorted") (rBi L .sorted) := by
  intro pins s σ H vs us Q I r h
  obtain ⟨g, S, xs, r', sm, rs, e, q⟩ := h
  unfold biE at e
  split at e <;> first
    | (simp at *; done)
    | skip
  rename_i ys hne
  split at e
  · rename_i hl
    cases e0 : asIs ys with
    | none => rw [e0] at e; cases e
    | some ns =>
      rw [e0] at e
      cases e
      obtain ⟨v, rfl, hv⟩ := one rs
      obtain ⟨p, ws, rfl, h1, h2, h3⟩ := hv.lst sm
      have h4 := asIs_eq e0
      subst h4
      obtain rfl := h3.ints
      refine cr_sorted pins s σ H _ us Q I r ⟨p, ns, rfl, .of h1, by simpa using hl, fun ns' l hp hs hn => ?_⟩
      have h5 : ns' = sortI ns := PySem.W.ksm_same (hp.trans (sortI_perm ns).symm) hs (sortI_sorted ns)
      rw [h5]
      refine q.lst sm (Reps.ofInts _) ?_ l hn
      rw [List.length_map, (sortI_perm ns).length_eq, sizeLine_eq]
      simp at hl
      omega
  · cases e
end
end Wt
/-! Snd: expressions of the small language are what the layer's rules say. -/
namespace Wt
open PySem PySem.Spec PyProof.Rows L2

/-- what a checker knows of the program -/
structure Tb where
  nm : Nat → Str
  ok : Nat → Bool
  ps : Nat → List Str
  cst : Nat → Int
  con : List (Str × PV)
  gcd : Bool
  kw : List (Nat × List Str × List Nat)
/-- .. of the place -/
structure Cn where
  N : List Str
  sc : Scope
  fn : Str → Bool
def bltNames : List Str := ["len", "int", "abs", "tuple", "list", "all", "any", "max", "min", "sorted", "range", "zip", "enumerate", "isinstance", "bool", "str", "dict", "set"]
/-- a def's promise -/
def spF (L : Pl) (c : Cc) (f : Nat) : Sp := fun vs H Q Z => ∃ g S args, Sim L.K L.fa g H S ∧ Reps L.K L.fa g vs args ∧ OutG L (fun g' _ v r => Rep L.K L.fa g' v r) Z g H ((c.call f args).go S) Q
/-- what stands in a call of f by keywords -/
def kg {α : Type} (n : Nat) (perm : List Nat) (d : α) (us ws : List α) : List α := if us.length = 0 ∧ ws.length = n then perm.map fun j => ws.getD j d else List.replicate (perm.length + 1) d
structure KwOk (K : PySem.W.Frag) (fd : FuncData) (ps ks : List Str) (perm : List Nat) : Prop where
  kb : KBinds K fd ps ks (kg ks.length perm .none) (kg ks.length perm .non)
/-- a place where the small language runs -/
structure Good (X : Cx) (L : Pl) (T : Tb) (c : Cc) (C : Cn) (k : Nat) (Z : XK) : Prop where
  K : X.K = L.K
  N : X.N = C.N
  sc : X.env.scope = C.sc
  fn : X.fn = C.fn
  kd : C.sc.kind = .function
  nd : X.N.Nodup
  calm : X.calm = true
  room : Room k X.A
  pas : Passes (L2.CX X.prog X.w) X Z
  po : PassesOwn (model X.prog X.w) X.A X.env X.xe
  okf : ∀ f, T.ok f = true → ∃ a, L.fa f = some a
  defs : ∀ f a, L.fa f = some a → ∃ fd, X.mg (T.nm f) = some (.ref a) ∧ PySem.W.keepIn X.K (.ref a) = true ∧ Binds X.K fd (T.ps f) [] ∧ FnOk X.prog X.w X.K X.mg X.base (L2.CX X.prog X.w) k a fd (T.ps f) (spF L c f) ∧
    ∀ ks perm, (f, ks, perm) ∈ T.kw → KwOk X.K fd (T.ps f) ks perm
  con : ∀ x v, (x, v) ∈ T.con → ∃ u w, X.mg x = some u ∧ RelV w u ∧ ∀ g, Rep L.K L.fa g w v
  cst : c.cst = T.cst
  blt : ∀ x ∈ bltNames, X.mg x = none
  gcd : T.gcd = true → X.mg "gcd" = some (.builtin "math.gcd")

/-! ### readings -/
/-- what is run of the frame's slots -/
def denM {α β : Type} (L : Pl) (R : Hp → Gh → Hp → β → α → Prop) (Z : XK) (m : Env → M α) : L2.St → Hp → (β → Hp → Prop) → Prop := fun σ H Q =>
  ∃ g0 H0 g env S, FR L g0 H0 g H σ env S ∧ OutG L (R H) Z g H ((m env).go S) Q
abbrev Rp (L : Pl) : Hp → Gh → Hp → V → PV → Prop := fun _ g _ v x => Rep L.K L.fa g v x
abbrev RpR (L : Pl) : Hp → Gh → Hp → V → PV → Prop := fun _ g H v x => RepR L g H v x
abbrev RpB : Hp → Gh → Hp → Bool → Bool → Prop := fun _ _ _ a b => a = b
abbrev Rps (L : Pl) : Hp → Gh → Hp → List V → List PV → Prop := fun _ g _ v x => Reps L.K L.fa g v x
abbrev RpRs (L : Pl) : Hp → Gh → Hp → List V → List PV → Prop := fun _ g H v x => RepRs L g H v x
/-- a new list of nobody's -/
def RpF (L : Pl) : Hp → Gh → Hp → V → PV → Prop := fun H0 g H v x => ∃ p vs xs, v = .ref p ∧ x = .lst xs ∧ H p = some (.lst vs) ∧ vs.length ≤ sizeLine ∧ Reps L.K L.fa g vs xs ∧ g.Hv p = none ∧ p ∉ g.al ∧ H0 p = none
section
variable {X : Cx} {L : Pl} {Z : XK} {α β γ δ : Type}
theorem seqM {R1 : Hp → Gh → Hp → β → α → Prop} {R2 : Gh → Hp → δ → γ → Prop} {m : Env → M α} {f : α → M γ} {g0 g : Gh} {H0 H : Hp} {σ : L2.St} {env : Env} {S : Sto} {Q2 : δ → Hp → Prop} {Q : β → Hp → Prop}
    (fr : FR L g0 H0 g H σ env S) (o : OutG L R2 Z g H ((m env >>= f).go S) Q2)
    (k : ∀ r v S1 H1 g1, FR L g0 H0 g1 H1 σ env S1 → Ext g H g1 H1 → R1 H g1 H1 v r → OutG L R2 Z g1 H1 ((f r).go S1) Q2 → Q v H1) : denM L R1 Z m σ H Q :=
  ⟨g0, H0, g, env, S, fr, o.bind fun r S1 v H1 g1 _ e s r1 o1 => k r v S1 H1 g1 (fr.step e s) e r1 o1⟩
theorem endM {R1 : Hp → Gh → Hp → β → α → Prop} {m : Env → M α} {g0 g : Gh} {H0 H : Hp} {σ : L2.St} {env : Env} {S : Sto} {Q : β → Hp → Prop} (fr : FR L g0 H0 g H σ env S) (o : OutG L (R1 H) Z g H ((m env).go S) Q) : denM L R1 Z m σ H Q := ⟨g0, H0, g, env, S, fr, o⟩
/-- a value is handed on -/
theorem OutG.give {g : Gh} {H : Hp} {S : Sto} {x : PV} {Q : VK} (o : OutG L (fun g' _ v r => Rep L.K L.fa g' v r) Z g H (.ok x S) Q) : Give L g H S x Q := o
theorem denM.imp {R1 R2 : Hp → Gh → Hp → β → α → Prop} {m : Env → M α} {σ : L2.St} {H : Hp} {Q Q' : β → Hp → Prop} (h : denM L R2 Z m σ H Q) (hr : ∀ g H' v r, R1 H g H' v r → R2 H g H' v r) (hq : ∀ v H', Q v H' → Q' v H') : denM L R1 Z m σ H Q' := by
  obtain ⟨g0, H0, g, env, S, fr, o⟩ := h
  exact ⟨g0, H0, g, env, S, fr, o.imp (fun g' H' v r _ => hr g' H' v r) hq⟩
theorem _root_.L2.PE.imp {e : Expr} {t t' : TE} (h : PE X e t) (f : ∀ σ H Q, t' σ H Q → t σ H Q) : PE X e t' := ⟨fun pins s σ H Q I q => h.run pins s σ H Q I (f σ H Q q)⟩
theorem _root_.L2.PT.imp {e : Expr} {t t' : TT} (h : PT X e t) (f : ∀ σ H Q, t' σ H Q → t σ H Q) : PT X e t' := ⟨fun pins s σ H Q I q => h.run pins s σ H Q I (f σ H Q q)⟩
theorem _root_.L2.PA.imp {e : List Expr} {t t' : TA} (h : PA X e t) (f : ∀ σ H Q, t' σ H Q → t σ H Q) : PA X e t' := ⟨fun pos pins s σ H Q I q => h.run pos pins s σ H Q I (f σ H Q q)⟩
theorem _root_.L2.PI.imp {tg e : Expr} {t t' : TI} (h : PI X tg e t) (f : ∀ σ H Q, t' σ H Q → t σ H Q) : PI X tg e t' := ⟨fun pins s σ H Q I q => h.run pins s σ H Q I (f σ H Q q)⟩
theorem _root_.L2.PS.imp {e : Stmt} {t t' : TS} (h : PS X e t) (f : ∀ D σ H, t' D σ H → t D σ H) : PS X e t' := ⟨fun pins s σ H Q I q => h.run pins s σ H Q I (f Q σ H q)⟩
theorem _root_.L2.PSs.imp {e : List Stmt} {t t' : TS} (h : PSs X e t) (f : ∀ D σ H, t' D σ H → t D σ H) : PSs X e t' := ⟨fun pins s σ H Q I q => h.run pins s σ H Q I (f Q σ H q)⟩
theorem _root_.L2.PE.rr {e : Expr} {m : Env → M PV} (h : PE X e (denM L (Rp L) Z m)) : PE X e (denM L (RpR L) Z m) :=
  h.imp fun σ H Q q => q.imp (fun _ _ _ _ r => .of r) fun _ _ q => q
/-- a new list is published -/
theorem pubF {m : Env → M PV} {σ : L2.St} {H : Hp} {Q : VK} (h : denM L (Rp L) Z m σ H Q) : denM L (RpF L) Z m σ H Q := by
  obtain ⟨g0, H0, g, env, S, fr, o⟩ := h
  refine ⟨g0, H0, g, env, S, fr, ?_⟩
  cases e : (m env).go S with
  | ok r S' =>
    rw [e] at o
    intro v H' g' ex sm ⟨p, vs, xs, h1, h2, h3, h4, h5, h6, h7, h8⟩
    subst h1 h2
    exact o (.ref p) H' (g'.pub p (.lst vs)) (ex.pub h8 (fr.sim.hvNone h8)) (sm.pub h3 h6 h7) (.lst Gh.pub_at h4 (h5.mono (Gh.pub_le h6)))
  | err x S' => rw [e] at o; exact o
  | bad => rw [e] at o; exact o
theorem _root_.L2.PE.pubF {e : Expr} {m : Env → M PV} (h : PE X e (denM L (RpF L) Z m)) : PE X e (denM L (Rp L) Z m) := h.imp fun _ _ _ q => Wt.pubF q
/-- a value's truth -/
theorem pt_of {e : Expr} {m : Env → M PV} (h : PE X e (denM L (Rp L) Z m)) (he : ∀ whole, isTrue e X.env whole = (do let v ← whole; standAt e.pos; holding [v] (truthy v))) : PT X e (denM L RpB Z fun env => m env >>= asBM) :=
  (pt_truth h he).imp fun σ H Q ⟨g0, H0, g, env, S, fr, o⟩ => seqM fr o fun r v S1 H1 g1 fr ex rp o => by
    cases rp with
    | bl b => exact ⟨b, rfl, o b H1 g1 (.refl _ _) fr.sim rfl⟩
    | _ => exact (show False from o).elim

/-! ### names, constants -/
variable {T : Tb} {c : Cc} {C : Cn} {k : Nat}
def visB (sc : Scope) (x : Str) : Bool := match sc.names.lookup x with
  | some .local => true
  | some .cell => true
  | some .free => true
  | _ => false
def plainN (x : Str) : Bool := !(x == ("__debug__" : Str)) && !(x == ("__classdict__" : Str))
def slotB (C : Cn) (i : Nat) (x : Str) : Bool := decide (C.N[i]? = some x) && (visB C.sc x && plainN x)
def glB (C : Cn) (x : Str) : Bool := decide (C.sc.names.lookup x = some .globalImplicit) && plainN x
theorem plainN_ok {x : Str} (h : plainN x = true) : (x == ("__debug__" : Str)) = false ∧ (x == ("__classdict__" : Str)) = false := by
  simp only [plainN, Bool.and_eq_true, Bool.not_eq_true'] at h
  exact h
theorem visB_ok {sc : Scope} {x : Str} (h : visB sc x = true) : Vis sc x := by
  unfold visB at h
  split at h
  · exact .inl (by assumption)
  · exact .inr (.inl (by assumption))
  · exact .inr (.inr (by assumption))
  · cases h
theorem slotB_ok (G : Good X L T c C k Z) {i : Nat} {x : Str} (h : slotB C i x = true) : X.N[i]? = some x ∧ Vis X.env.scope x ∧ (x == ("__debug__" : Str)) = false ∧ (x == ("__classdict__" : Str)) = false := by
  simp only [slotB, Bool.and_eq_true, decide_eq_true_eq] at h
  obtain ⟨h1, h2, h3⟩ := h
  exact ⟨by rw [G.N]; exact h1, by rw [G.sc]; exact visB_ok h2, plainN_ok h3⟩
theorem glB_ok (G : Good X L T c C k Z) {x : Str} (h : glB C x = true) : Gl X x ∧ (x == ("__debug__" : Str)) = false := by
  simp only [glB, Bool.and_eq_true, decide_eq_true_eq] at h
  refine ⟨?_, (plainN_ok h.2).1⟩
  show X.env.scope.names.lookup x = _
  rw [G.sc]; exact h.1
theorem e_var (G : Good X L T c C k Z) {i : Nat} {x : Str} {pos : Pos} (h : slotB C i x = true) : PE X (.Name x pos) (denM L (Rp L) Z (ev c (.var i))) := by
  obtain ⟨h1, h2, h3, h4⟩ := slotB_ok G h
  refine (pe_var h1 h2 h3 h4).imp fun σ H Q ⟨g0, H0, g, env, S, fr, o⟩ => ?_
  have e : ev c (.var i) env = match env[i]? with
    | some (.val v) => Pure.pure v
    | _ => bad := by unfold ev; rfl
  rw [e] at o
  split at o
  · rename_i v hv
    obtain ⟨w, q1, q2⟩ := fr.val i v hv
    exact ⟨w, q1, o w H g (.refl _ _) fr.sim q2⟩
  · exact o.elim
theorem e_pk (G : Good X L T c C k Z) {i : Nat} {x : Str} {pos : Pos} (h : slotB C i x = true) : PE X (.Name x pos) (denM L (RpR L) Z (ev c (.pk i))) := by
  obtain ⟨h1, h2, h3, h4⟩ := slotB_ok G h
  refine (pe_var h1 h2 h3 h4).imp fun σ H Q ⟨g0, H0, g, env, S, fr, o⟩ => ?_
  have e : ev c (.pk i) env = match env[i]? with
    | some (.own v) => Pure.pure (.lst v)
    | _ => bad := by unfold ev; rfl
  rw [e] at o
  split at o
  · rename_i v hv
    obtain ⟨p, vs, q1, q2, q3, q4, q5, q6, q7⟩ := fr.own i v hv
    exact ⟨_, q1, o _ H g (.refl _ _) fr.sim (.inr ⟨p, vs, v, rfl, rfl, q2, q3, q4, q6⟩)⟩
  · exact o.elim
theorem e_const {ex : Expr} {v : V} {x : PV} {m : Env → M PV} (h : PE X ex (tC v)) (r : ∀ g, Rep L.K L.fa g v x) (hm : ∀ env, m env = Pure.pure x) : PE X ex (denM L (Rp L) Z m) :=
  h.imp fun σ H Q ⟨g0, H0, g, env, S, fr, o⟩ => by
    rw [hm] at o
    exact o v H g (.refl _ _) fr.sim (r g)
theorem e_con (G : Good X L T c C k Z) {x : Str} {v : PV} {pos : Pos} (h : glB C x = true) (hc : ∃ y, (x, y) ∈ T.con ∧ y = v) : PE X (.Name x pos) (denM L (Rp L) Z (ev c (.con x v))) := by
  obtain ⟨h1, h2⟩ := glB_ok G h
  obtain ⟨y, hy, rfl⟩ := hc
  obtain ⟨u, w, q1, q2, q3⟩ := G.con x y hy
  exact e_const (pe_glob h1 q1 q2 h2) q3 fun env => by unfold ev; rfl
theorem e_fnv (G : Good X L T c C k Z) {f : Nat} {x : Str} {pos : Pos} (h : glB C x = true) (ho : T.ok f = true) (hx : T.nm f = x) : PE X (.Name x pos) (denM L (Rp L) Z (ev c (.fnv f))) := by
  obtain ⟨h1, h2⟩ := glB_ok G h
  obtain ⟨a, ha⟩ := G.okf f ho
  obtain ⟨fd, q1, _⟩ := G.defs f a ha
  rw [hx] at q1
  exact e_const (v := .ref a) (pe_glob h1 q1 rfl h2) (fun g => .fn ha) fun env => by unfold ev; rfl

/-! ### operators -/
theorem e_op (G : Good X L T c C k Z) {o : BOp} {a b : E} {ea eb : Expr} {pos : Pos} (ha : PE X ea (denM L (RpR L) Z (ev c a))) (hb : PE X eb (denM L (RpR L) Z (ev c b))) : PE X (.BinOp ea (opOf o) eb pos) (denM L (Rp L) Z (ev c (.op o a b))) := by
  refine (pe_op (bop_ok G.K o) ha hb).imp fun σ H Q ⟨g0, H0, g, env, S, fr, o⟩ => ?_
  rw [ev] at o
  refine seqM fr o fun r v S1 H1 g1 fr1 ex rp o1 => ?_
  refine seqM fr1 o1 fun r2 v2 S2 H2 g2 fr2 ex2 rp2 o2 => ?_
  obtain ⟨z, e, o3⟩ := o2.lift1
  exact ⟨g2, S2, r, r2, z, fr2.sim, rp.step ex2, rp2, e, o3⟩
theorem e_neg (G : Good X L T c C k Z) {a : E} {ea : Expr} {pos : Pos} (ha : PE X ea (denM L (Rp L) Z (ev c a))) : PE X (.UnaryOp .USub ea pos) (denM L (Rp L) Z (ev c (.neg a))) := by
  refine (pe_un un_neg ha).imp fun σ H Q ⟨g0, H0, g, env, S, fr, o⟩ => ?_
  rw [ev] at o
  refine seqM fr o fun r v S1 H1 g1 fr1 ex rp o1 => ?_
  obtain ⟨z, e, o3⟩ := o1.lift1
  cases r <;> simp only [asI, Option.map_some, Option.map_none] at e <;> first
    | (cases e; done)
    | skip
  cases e
  cases rp
  exact ⟨_, rfl, OutG.give o3 |>.here fr1.sim (.int _)⟩
theorem e_cmp (G : Good X L T c C k Z) {o : COp} {a b : E} {ea eb : Expr} {pos : Pos} (hu : X.A.units + 65 < cLine) (hm : behindInMarks (copOf o) eb = false) (ha : PE X ea (denM L (RpR L) Z (ev c a))) (hb : PE X eb (denM L (RpR L) Z (ev c b))) :
    PE X (.Compare ea [copOf o] [eb] pos) (denM L (Rp L) Z (ev c (.cmp o a b))) ∧ PT X (.Compare ea [copOf o] [eb] pos) (denM L RpB Z fun env => ev c (.cmp o a b) env >>= asBM) := by
  have key : ∀ {σ : L2.St} {H : Hp} {Q : VK}, denM L (Rp L) Z (ev c (.cmp o a b)) σ H Q → tOp (rCop L o) (denM L (RpR L) Z (ev c a)) (denM L (RpR L) Z (ev c b)) σ H Q := by
    intro σ H Q ⟨g0, H0, g, env, S, fr, o⟩
    rw [ev] at o
    refine seqM fr o fun r v S1 H1 g1 fr1 ex rp o1 => ?_
    refine seqM fr1 o1 fun r2 v2 S2 H2 g2 fr2 ex2 rp2 o2 => ?_
    obtain ⟨z, e, o3⟩ := o2.lift1
    cases e2 : copE _ r r2 with
    | none => rw [e2] at e; cases e
    | some b =>
      rw [e2] at e
      cases e
      exact ⟨g2, S2, r, r2, b, fr2.sim, rp.step ex2, rp2, e2, o3⟩
  refine ⟨(pe_cmpR (cop_ok G.K hu o) ha hb hm).imp fun σ H Q h => key h, (pt_cmpR (cop_ok G.K hu o) ha hb hm).imp fun σ H Q ⟨g0, H0, g, env, S, fr, o⟩ => ?_⟩
  refine key (Q := fun x H' => ∃ k, x = .bl k ∧ Q k H') (seqM fr o fun r v S1 H1 g1 fr1 ex rp o1 => ?_)
  cases rp with
  | bl b => exact ⟨b, rfl, o1 b H1 g1 (.refl _ _) fr1.sim rfl⟩
  | _ => exact (show False from o1).elim
theorem lastMarks_ok {op op' : CmpOp} {b d : Expr} (h : behindInMarks op' d = false) : lastMarks [op, op'] [b, d] = false := by
  unfold lastMarks
  unfold lastMarks
  exact h
theorem e_chain (G : Good X L T c C k Z) {o o' : COp} {a b d : E} {ea eb ed : Expr} {pos : Pos} (hu : X.A.units + 65 < cLine) (hm : behindInMarks (copOf o') ed = false) (ha : PE X ea (denM L (RpR L) Z (ev c a))) (hb : PE X eb (denM L (RpR L) Z (ev c b))) (hd : PE X ed (denM L (RpR L) Z (ev c d))) :
    PE X (.Compare ea [copOf o, copOf o'] [eb, ed] pos) (denM L (Rp L) Z (ev c (.chain o o' a b d))) ∧ PT X (.Compare ea [copOf o, copOf o'] [eb, ed] pos) (denM L RpB Z fun env => ev c (.chain o o' a b d) env >>= asBM) := by
  have key : ∀ {σ : L2.St} {H : Hp} {Q : VK}, denM L (Rp L) Z (ev c (.chain o o' a b d)) σ H Q → tChain (rCop L o) (rCop L o') (denM L (RpR L) Z (ev c a)) (denM L (RpR L) Z (ev c b)) (denM L (RpR L) Z (ev c d)) σ H Q := by
    intro σ H Q ⟨g0, H0, g, env, S, fr, o⟩
    rw [ev] at o
    refine seqM fr o fun r v S1 H1 g1 fr1 ex rp o1 => ?_
    refine seqM fr1 o1 fun r2 v2 S2 H2 g2 fr2 ex2 rp2 o2 => ?_
    obtain ⟨t, e, o3⟩ := o2.lift
    refine ⟨g2, S2, r, r2, t, fr2.sim, rp.step ex2, rp2, e, fun v3 H3 g3 ex3 sm3 rp3 => ?_⟩
    have fr3 := fr2.step ex3 sm3
    have o4 := o3.from ex3
    cases rp3
    refine ⟨t, rfl, ?_⟩
    cases t with
    | false =>
      rw [if_neg Bool.false_ne_true] at o4 ⊢
      exact OutG.give o4 |>.here sm3 (.bl _)
    | true =>
      rw [if_pos rfl] at o4 ⊢
      refine seqM fr3 o4 fun r4 v4 S4 H4 g4 fr4 ex4 rp4 o5 => ?_
      obtain ⟨z, e5, o6⟩ := o5.lift1
      cases e6 : copE _ r2 r4 with
      | none => rw [e6] at e5; cases e5
      | some b =>
        rw [e6] at e5
        cases e5
        exact ⟨g4, S4, r2, r4, b, fr4.sim, (rp2.step ex3).step ex4, rp4, e6, o6⟩
  refine ⟨(pe_chain (cop_ok G.K hu o) (cop_ok G.K hu o') ha hb hd (lastMarks_ok hm)).imp fun σ H Q h => key h, (pt_chain (cop_ok G.K hu o) (cop_ok G.K hu o') ha hb hd (lastMarks_ok hm)).imp fun σ H Q ⟨g0, H0, g, env, S, fr, o⟩ => ?_⟩
  refine key (Q := fun x H' => ∃ k, x = .bl k ∧ Q k H') (seqM fr o fun r v S1 H1 g1 fr1 ex rp o1 => ?_)
  cases rp with
  | bl b => exact ⟨b, rfl, o1 b H1 g1 (.refl _ _) fr1.sim rfl⟩
  | _ => exact (show False from o1).elim
/-- a test of a value that is known to be a bool -/
theorem asB_step {r : PV} {v : V} {g g1 : Gh} {H : Hp} {S : Sto} {f : Bool → M γ} {R2 : Gh → Hp → δ → γ → Prop} {Q2 : δ → Hp → Prop} (rp : Rep L.K L.fa g1 v r) (o : OutG L R2 Z g H ((asBM r >>= f).go S) Q2) : ∃ b, v = .bl b ∧ r = .bl b ∧ OutG L R2 Z g H ((f b).go S) Q2 := by
  cases rp with
  | bl b => exact ⟨b, rfl, rfl, o⟩
  | _ => exact (show False from o).elim
theorem asB_stepE {r : PV} {g : Gh} {H : Hp} {S : Sto} {f : Bool → M γ} {R2 : Gh → Hp → δ → γ → Prop} {Q2 : δ → Hp → Prop} (o : OutG L R2 Z g H ((asBM r >>= f).go S) Q2) : ∃ b, r = .bl b ∧ OutG L R2 Z g H ((f b).go S) Q2 := by
  cases r with
  | bl b => exact ⟨b, rfl, o⟩
  | _ => exact (show False from o).elim
theorem e_not (G : Good X L T c C k Z) {a : E} {ea : Expr} {pos : Pos} (ha : PE X ea (denM L (Rp L) Z (ev c a))) (ta : PT X ea (denM L RpB Z fun env => ev c a env >>= asBM)) :
    PE X (.UnaryOp .Not ea pos) (denM L (Rp L) Z (ev c (.not_ a))) ∧ PT X (.UnaryOp .Not ea pos) (denM L RpB Z fun env => ev c (.not_ a) env >>= asBM) := by
  refine ⟨(pe_not ha).imp fun σ H Q ⟨g0, H0, g, env, S, fr, o⟩ => ?_, (pt_not ta).imp fun σ H Q ⟨g0, H0, g, env, S, fr, o⟩ => ?_⟩
  · rw [ev] at o
    refine seqM fr o fun r v S1 H1 g1 fr1 ex rp o1 => ?_
    obtain ⟨b, rfl, rfl, o2⟩ := asB_step rp o1
    exact ⟨b, rfl, OutG.give o2 |>.here fr1.sim (.bl _)⟩
  · have e : (ev c (.not_ a) env >>= asBM) = ((ev c a env >>= asBM) >>= fun b => Pure.pure (!b)) := by
      rw [ev, bind_assoc, bind_assoc]
      congr 1
      funext x
      rw [bind_assoc]
      rfl
    dsimp only at o
    rw [e] at o
    refine seqM (m := fun env => ev c a env >>= asBM) fr o fun r v S1 H1 g1 fr1 ex rp o1 => ?_
    cases rp
    exact o1 _ H1 g1 (.refl _ _) fr1.sim rfl
theorem pt_ifExpT {t a b : Expr} {tt ta tb : TT} {pos : Pos} (hc : PT X t tt) (ha : PT X a ta) (hb : PT X b tb) : PT X (.IfExp t a b pos) (fun σ H Q => tt σ H fun d H1 => if d = true then ta σ H1 Q else tb σ H1 Q) := by
  refine ⟨fun pins s σ H Q I h => ?_⟩
  refine isTrue_IfExp (thn (hc.run pins s σ H _ I h) fun d s1 ⟨H1, I1, q1⟩ => ?_)
  cases d with
  | true => exact ha.run pins s1 σ H1 Q I1 q1
  | false => exact hb.run pins s1 σ H1 Q I1 q1
theorem e_ite (G : Good X L T c C k Z) {t a b : E} {et ea eb : Expr} {pos : Pos} (tt : PT X et (denM L RpB Z fun env => ev c t env >>= asBM)) (ha : PE X ea (denM L (Rp L) Z (ev c a))) (hb : PE X eb (denM L (Rp L) Z (ev c b))) :
    PE X (.IfExp et ea eb pos) (denM L (Rp L) Z (ev c (.ite t a b))) := by
  refine (pe_ifExp tt ha hb).imp fun σ H Q ⟨g0, H0, g, env, S, fr, o⟩ => ?_
  rw [ev, ← bind_assoc] at o
  refine seqM (m := fun env => ev c t env >>= asBM) fr o fun r v S1 H1 g1 fr1 ex rp o1 => ?_
  cases rp
  cases r with
  | true => exact endM fr1 o1
  | false => exact endM fr1 o1
theorem e_iteT (G : Good X L T c C k Z) {t a b : E} {et ea eb : Expr} {pos : Pos} (tt : PT X et (denM L RpB Z fun env => ev c t env >>= asBM)) (ha : PT X ea (denM L RpB Z fun env => ev c a env >>= asBM)) (hb : PT X eb (denM L RpB Z fun env => ev c b env >>= asBM)) :
    PT X (.IfExp et ea eb pos) (denM L RpB Z fun env => ev c (.ite t a b) env >>= asBM) := by
  refine (pt_ifExpT tt ha hb).imp fun σ H Q ⟨g0, H0, g, env, S, fr, o⟩ => ?_
  have e : (ev c (.ite t a b) env >>= asBM) = ((ev c t env >>= asBM) >>= fun d => if d = true then (ev c a env >>= asBM) else (ev c b env >>= asBM)) := by
    rw [ev, bind_assoc, bind_assoc]
    congr 1
    funext x
    rw [bind_assoc]
    congr 1
    funext d
    cases d <;> rfl
  dsimp only at o
  rw [e] at o
  refine seqM (m := fun env => ev c t env >>= asBM) fr o fun r v S1 H1 g1 fr1 ex rp o1 => ?_
  cases rp
  cases r with
  | true => exact endM (m := fun env => ev c a env >>= asBM) fr1 o1
  | false => exact endM (m := fun env => ev c b env >>= asBM) fr1 o1

/-! ### lists of expressions -/
def starB : Expr → Bool
  | .Starred _ _ => true
  | _ => false
theorem star_no {ex : Expr} {es : List Expr} {env : PySem.Env} (h : starB ex = false) : starEach (ex :: es) env = (false, eval ex env) :: starEach es env := by
  cases ex <;> first
    | rfl
    | cases h
def RM (L : Pl) (m : Bool) : Hp → Gh → Hp → V → PV → Prop := match m with
  | true => RpR L
  | false => Rp L
def RMs (L : Pl) (m : Bool) : Hp → Gh → Hp → List V → List PV → Prop := match m with
  | true => RpRs L
  | false => Rps L
theorem RMs.nil {m : Bool} {H g H'} : RMs L m H g H' [] [] := by cases m; exact Reps.nil; exact RepRs.nil
theorem RMs.cons {m : Bool} {H H' H0 H1 H2 : Hp} {g1 g2 : Gh} {v : V} {x : PV} {vs : List V} {xs : List PV} (h : RM L m H0 g1 H1 v x) (e : Ext g1 H1 g2 H2) (t : RMs L m H' g2 H2 vs xs) : RMs L m H g2 H2 (v :: vs) (x :: xs) := by
  cases m with
  | false => exact Reps.cons (Rep.mono e.le h) t
  | true => exact RepRs.cons (RepR.step h e) t
theorem RMs.app {m : Bool} {H H' H2 : Hp} {g2 : Gh} : ∀ {ws : List V} {ys : List PV} {vs : List V} {xs : List PV}, Reps L.K L.fa g2 ws ys → RMs L m H' g2 H2 vs xs → RMs L m H g2 H2 (ws ++ vs) (ys ++ xs)
  | _, _, _, _, .nil, t => by cases m <;> exact t
  | _, _, _, _, .cons h r, t => by
    cases m with
    | false => exact Reps.cons h (RMs.app (m := false) (H := H) (H' := H') (H2 := H2) r t)
    | true => exact RepRs.cons (.of h) (RMs.app (m := true) (H := H) (H' := H') r t)
/-- each expression of a list is right -/
inductive AllP (X : Cx) (L : Pl) (c : Cc) (Z : XK) (m : Bool) : Es → List Expr → Prop
  | nil : AllP X L c Z m .nil []
  | cons {e : E} {es : Es} {ex : Expr} {exs : List Expr} : PE X ex (denM L (RM L m) Z (ev c e)) → PT X ex (denM L RpB Z fun env => ev c e env >>= asBM) → starB ex = false → AllP X L c Z m es exs → AllP X L c Z m (.cons e es) (ex :: exs)
  | star {e : E} {es : Es} {ex : Expr} {exs : List Expr} {p : Pos} : PE X ex (denM L (RpR L) Z (ev c e)) → AllP X L c Z m es exs → AllP X L c Z m (.star e es) (.Starred ex p :: exs)
theorem itemsRep {g : Gh} {H : Hp} {S : Sto} {v : V} {x : PV} {ys : List PV} (rp : RepR L g H v x) (sm : Sim L.K L.fa g H S) (e : items x = some ys) : ∃ p ws, v = .ref p ∧ (SqT L.K H p ws ∨ SqL L.K H p ws) ∧ ws.length ≤ sizeLine ∧ Reps L.K L.fa g ws ys := by
  cases x <;> simp only [items] at e <;> first
    | (cases e; done)
    | skip
  · cases e
    obtain ⟨p, ws, h1, h2, h3, h4, _⟩ := rp.tup sm
    exact ⟨p, ws, h1, .inl h2, h3, h4⟩
  · cases e
    obtain ⟨p, ws, h1, h2, h3, h4⟩ := rp.lst sm
    exact ⟨p, ws, h1, .inr (.of h2), h3, h4⟩
  · cases e
    obtain ⟨p, ws, h1, h2, h3, h4⟩ := rp.frz sm
    exact ⟨p, ws, h1, .inr h2, h3, h4⟩
theorem AllP.pa (hK : X.K = L.K) {m : Bool} {es : Es} {exs : List Expr} (h : AllP X L c Z m es exs) : PA X exs (denM L (RMs L m) Z (evs c es)) := by
  induction h with
  | nil =>
    refine pa_nil.imp fun σ H Q ⟨g0, H0, g, env, S, fr, o⟩ => ?_
    rw [evs] at o
    exact o [] H g (.refl _ _) fr.sim .nil
  | cons h1 _ hs _ ih =>
    refine (pa_cons h1 ih (star_no hs)).imp fun σ H Q ⟨g0, H0, g, env, S, fr, o⟩ => ?_
    rw [evs] at o
    refine seqM fr o fun r v S1 H1 g1 fr1 ex rp o1 => ?_
    refine seqM fr1 o1 fun rs vs S2 H2 g2 fr2 ex2 rps o2 => ?_
    exact o2 (v :: vs) H2 g2 (.refl _ _) fr2.sim (RMs.cons rp ex2 rps)
  | star h1 _ ih =>
    refine (StX.pa_star h1 ih).imp fun σ H Q ⟨g0, H0, g, env, S, fr, o⟩ => ?_
    rw [evs] at o
    refine seqM fr o fun r v S1 H1 g1 fr1 ex rp o1 => ?_
    obtain ⟨ys, e, o2⟩ := o1.lift
    obtain ⟨p, ws, h1, h2, h3, h4⟩ := itemsRep rp fr1.sim e
    refine ⟨p, ws, h1, hK ▸ h2, ?_⟩
    refine seqM fr1 o2 fun rs vs S2 H2 g2 fr2 ex2 rps o3 => ?_
    exact o3 (ws ++ vs) H2 g2 (.refl _ _) fr2.sim (RMs.app (h4.mono ex2.le) rps)
def noStar : Es → Bool
  | .nil => true
  | .cons _ es => noStar es
  | .star _ _ => false
/-- a and b and .. -/
theorem AllP.andE {es : Es} {exs : List Expr} (h : AllP X L c Z false es exs) (ns : noStar es = true) : ∀ {e : E} {ex : Expr} {pos : Pos}, PE X ex (denM L (Rp L) Z (ev c e)) → PT X ex (denM L RpB Z fun env => ev c e env >>= asBM) →
    PE X (.BoolOp .And (ex :: exs) pos) (denM L (Rp L) Z (evAnd c (.cons e es))) ∧ PW X (.BoolOp .And (ex :: exs) pos) (denM L RpB Z fun env => evAnd c (.cons e es) env >>= asBM) := by
  induction h with
  | nil =>
    intro e ex pos h1 h2
    have e1 : ∀ env, evAnd c (.cons e .nil) env = ev c e env := fun env => by rw [evAnd]
    have e2 : evAnd c (.cons e .nil) = ev c e := funext e1
    rw [e2]
    exact ⟨pe_one h1, pw_and1 h2⟩
  | @cons e' es ex' exs h1 h2 _ _ ih =>
    intro e ex pos p1 p2
    obtain ⟨ih1, ih2⟩ := ih ns (pos := pos) h1 h2
    have e1 : ∀ env, evAnd c (.cons e (.cons e' es)) env = ev c e env >>= fun x => asBM x >>= fun b => if b = true then evAnd c (.cons e' es) env else Pure.pure (.bl false) := fun env => by
      rw [evAnd]
      intro z
      cases z
    refine ⟨(pe_and p1 ih1).imp fun σ H Q ⟨g0, H0, g, env, S, fr, o⟩ => ?_, ?_⟩
    · rw [e1] at o
      refine seqM fr o fun r v S1 H1 g1 fr1 ex rp o1 => ?_
      obtain ⟨b, rfl, rfl, o2⟩ := asB_step rp o1
      refine ⟨b, rfl, ?_⟩
      cases b with
      | true => exact endM fr1 o2
      | false => exact OutG.give o2 |>.here fr1.sim (.bl _)
    · refine ⟨fun whole pins s σ H Q I h => (pw_and p2 ih2).run whole pins s σ H Q I ?_⟩
      obtain ⟨g0, H0, g, env, S, fr, o⟩ := h
      have e3 : (evAnd c (.cons e (.cons e' es)) env >>= asBM) = ((ev c e env >>= asBM) >>= fun b => if b = true then evAnd c (.cons e' es) env >>= asBM else Pure.pure false) := by
        rw [e1, bind_assoc, bind_assoc]
        congr 1
        funext x
        rw [bind_assoc]
        congr 1
        funext b
        cases b <;> rfl
      dsimp only at o
      rw [e3] at o
      refine seqM (m := fun env => ev c e env >>= asBM) fr o fun r v S1 H1 g1 fr1 ex rp o1 => ?_
      cases rp
      cases r with
      | true => exact endM (m := fun env => evAnd c (.cons e' es) env >>= asBM) fr1 o1
      | false => exact o1 false H1 g1 (.refl _ _) fr1.sim rfl
  | star _ _ _ => cases ns
/-- a or b or .. -/
theorem AllP.orE {es : Es} {exs : List Expr} (h : AllP X L c Z false es exs) (ns : noStar es = true) : ∀ {e : E} {ex : Expr} {pos : Pos}, PE X ex (denM L (Rp L) Z (ev c e)) → PT X ex (denM L RpB Z fun env => ev c e env >>= asBM) →
    PE X (.BoolOp .Or (ex :: exs) pos) (denM L (Rp L) Z (evOr c (.cons e es))) ∧ PW X (.BoolOp .Or (ex :: exs) pos) (denM L RpB Z fun env => evOr c (.cons e es) env >>= asBM) := by
  induction h with
  | nil =>
    intro e ex pos h1 h2
    have e1 : ∀ env, evOr c (.cons e .nil) env = ev c e env := fun env => by rw [evOr]
    have e2 : evOr c (.cons e .nil) = ev c e := funext e1
    rw [e2]
    exact ⟨pe_one h1, pw_or1 h2⟩
  | @cons e' es ex' exs h1 h2 _ _ ih =>
    intro e ex pos p1 p2
    obtain ⟨ih1, ih2⟩ := ih ns (pos := pos) h1 h2
    have e1 : ∀ env, evOr c (.cons e (.cons e' es)) env = ev c e env >>= fun x => asBM x >>= fun b => if b = true then Pure.pure (.bl true) else evOr c (.cons e' es) env := fun env => by
      rw [evOr]
      intro z
      cases z
    refine ⟨(pe_or p1 ih1).imp fun σ H Q ⟨g0, H0, g, env, S, fr, o⟩ => ?_, ?_⟩
    · rw [e1] at o
      refine seqM fr o fun r v S1 H1 g1 fr1 ex rp o1 => ?_
      obtain ⟨b, rfl, rfl, o2⟩ := asB_step rp o1
      refine ⟨b, rfl, ?_⟩
      cases b with
      | false => exact endM fr1 o2
      | true => exact OutG.give o2 |>.here fr1.sim (.bl _)
    · refine ⟨fun whole pins s σ H Q I h => (pw_or p2 ih2).run whole pins s σ H Q I ?_⟩
      obtain ⟨g0, H0, g, env, S, fr, o⟩ := h
      have e3 : (evOr c (.cons e (.cons e' es)) env >>= asBM) = ((ev c e env >>= asBM) >>= fun b => if b = true then Pure.pure true else evOr c (.cons e' es) env >>= asBM) := by
        rw [e1, bind_assoc, bind_assoc]
        congr 1
        funext x
        rw [bind_assoc]
        congr 1
        funext b
        cases b <;> rfl
      dsimp only at o
      rw [e3] at o
      refine seqM (m := fun env => ev c e env >>= asBM) fr o fun r v S1 H1 g1 fr1 ex rp o1 => ?_
      cases rp
      cases r with
      | false => exact endM (m := fun env => evOr c (.cons e' es) env >>= asBM) fr1 o1
      | true => exact o1 true H1 g1 (.refl _ _) fr1.sim rfl
  | star _ _ _ => cases ns

/-! ### displays -/
def esLen : Es → Nat
  | .nil => 0
  | .cons _ es => esLen es + 1
  | .star _ es => esLen es + 1
theorem evs_len : ∀ (n : Nat) {es : Es} {env : Env} {S S' : Sto} {vs : List PV}, esLen es ≤ n → noStar es = true → (evs c es env).go S = .ok vs S' → vs.length = esLen es
  | _, .nil, env, S, S', vs, _, _, h => by
    rw [evs] at h
    cases h
    rfl
  | 0, .cons e es, _, _, _, _, h0, _, _ => by simp [esLen] at h0
  | n + 1, .cons e es, env, S, S', vs, h0, hn, h => by
    rw [evs, bind_go] at h
    cases e1 : (ev c e env).go S with
    | ok r S1 =>
      rw [e1] at h
      simp only [bind_go] at h
      cases e2 : (evs c es env).go S1 with
      | ok rs S2 =>
        rw [e2] at h
        cases h
        have := evs_len n (es := es) (by simp [esLen] at h0; exact h0) hn e2
        rw [List.length_cons, this]
        rfl
      | err x S2 => rw [e2] at h; cases h
      | bad => rw [e2] at h; cases h
    | err x S1 => rw [e1] at h; cases h
    | bad => rw [e1] at h; cases h
  | _, .star e es, _, _, _, _, _, hn, _ => by cases hn
theorem e_tup (G : Good X L T c C k Z) {es : Es} {exs : List Expr} {n : Nat} {pos : Pos} (h : AllP X L c Z false es exs) (hs : noStar es = true) (hl : esLen es ≤ 1000) : PE X (.Tuple exs n pos) (denM L (Rp L) Z (ev c (.tup es))) := by
  refine (pe_tup (h.pa G.K)).imp fun σ H Q ⟨g0, H0, g, env, S, fr, o⟩ => ?_
  rw [ev] at o
  refine ⟨g0, H0, g, env, S, fr, o.bind fun rs S1 vs H1 g1 e ex sm r1 o1 => ?_⟩
  have hl2 := evs_len 1000 hl hs e
  have r2 : Reps L.K L.fa g1 vs rs := r1
  have hz : vs.length ≤ sizeLine := by rw [r2.length, hl2, sizeLine_eq]; omega
  exact ⟨hz, (OutG.give o1).tup sm r2 hz⟩
theorem e_tupS (G : Good X L T c C k Z) {es : Es} {exs : List Expr} {n : Nat} {pos : Pos} (h : AllP X L c Z false es exs) : PE X (.Tuple exs n pos) (denM L (Rp L) Z (ev c (.tupS es))) := by
  refine (pe_tup (h.pa G.K)).imp fun σ H Q ⟨g0, H0, g, env, S, fr, o⟩ => ?_
  rw [ev] at o
  refine seqM fr o fun rs vs S1 H1 g1 fr1 ex r1 o1 => ?_
  split at o1
  · rename_i hl
    have r2 : Reps L.K L.fa g1 vs rs := r1
    have hz : vs.length ≤ sizeLine := by rw [r2.length]; exact Nat.le_trans hl limS
    exact ⟨hz, (OutG.give o1).tup fr1.sim r2 hz⟩
  · exact o1.elim
theorem give_lst {g : Gh} {H H00 : Hp} {S : Sto} {xs : List PV} {vs : List V} {Q : VK} (o : OutG L (RpF L H00) Z g H (.ok (PV.lst xs) S) Q) (s : Sim L.K L.fa g H S) (r : Reps L.K L.fa g vs xs) (l : vs.length ≤ sizeLine) (hH : ∀ a, H a = none → H00 a = none) : ∀ p, H p = none → Q (.ref p) (upd H p (.lst vs)) := fun p hp => by
  exact o (.ref p) _ g (Ext.new hp) (s.new hp) ⟨p, vs, xs, rfl, rfl, upd_same, l, r, s.hvNone hp, s.alNot hp, hH p hp⟩
theorem e_lstF (G : Good X L T c C k Z) {es : Es} {exs : List Expr} {pos : Pos} (h : AllP X L c Z false es exs) (hs : noStar es = true) (hl : esLen es ≤ 1000) : PE X (.List exs pos) (denM L (RpF L) Z (ev c (.lst es))) := by
  refine (pe_lst (h.pa G.K)).imp fun σ H Q ⟨g0, H0, g, env, S, fr, o⟩ => ?_
  rw [ev] at o
  refine ⟨g0, H0, g, env, S, fr, o.bind fun rs S1 vs H1 g1 e ex sm r1 o1 => ?_⟩
  have hl2 := evs_len 1000 hl hs e
  have r2 : Reps L.K L.fa g1 vs rs := r1
  have hz : vs.length ≤ sizeLine := by rw [r2.length, hl2, sizeLine_eq]; omega
  exact ⟨hz, give_lst o1 sm r2 hz ex.old⟩
theorem e_lstSF (G : Good X L T c C k Z) {es : Es} {exs : List Expr} {pos : Pos} (h : AllP X L c Z false es exs) : PE X (.List exs pos) (denM L (RpF L) Z (ev c (.lstS es))) := by
  refine (pe_lst (h.pa G.K)).imp fun σ H Q ⟨g0, H0, g, env, S, fr, o⟩ => ?_
  rw [ev] at o
  refine seqM fr o fun rs vs S1 H1 g1 fr1 ex r1 o1 => ?_
  split at o1
  · rename_i hl
    have r2 : Reps L.K L.fa g1 vs rs := r1
    have hz : vs.length ≤ sizeLine := by rw [r2.length]; exact Nat.le_trans hl limS
    exact ⟨hz, give_lst o1 fr1.sim r2 hz ex.old⟩
  · exact o1.elim
/-- a new list by reference -/
theorem e_poolN (G : Good X L T c C k Z) {es : Es} {exs : List Expr} {pos : Pos} (h : AllP X L c Z false es exs) (hs : noStar es = true) (hl : esLen es ≤ 1000) : PE X (.List exs pos) (denM L (Rp L) Z (ev c (.poolN es))) := by
  refine (pe_lst (h.pa G.K)).imp fun σ H Q ⟨g0, H0, g, env, S, fr, o⟩ => ?_
  rw [ev] at o
  refine ⟨g0, H0, g, env, S, fr, o.bind fun rs S1 vs H1 g1 e ex sm r1 o1 => ?_⟩
  have hl2 := evs_len 1000 hl hs e
  have r2 : Reps L.K L.fa g1 vs rs := r1
  have hz : vs.length ≤ sizeLine := by rw [r2.length, hl2, sizeLine_eq]; omega
  refine ⟨hz, fun p hp => ?_⟩
  have hg := sm.hvNone hp
  have ha := sm.alNot hp
  have o2 : OutG L (fun g' _ v r => Rep L.K L.fa g' v r) Z g1 H1 (.ok (.ref S1.length) (S1 ++ [rs])) Q := o1
  have le : Le g1 ⟨g1.Hv, g1.al ++ [p]⟩ := ⟨fun _ _ h => h, ⟨[p], rfl⟩⟩
  refine o2 (.ref p) _ ⟨g1.Hv, g1.al ++ [p]⟩ ⟨fun _ _ h => h, ⟨[p], rfl⟩, fun a u h _ => ?_, fun a h => ?_, fun _ _ h => .inl h, fun a h => ?_⟩ ⟨fun a u h => ?_, ?_, ?_, fun n a xs q1 q2 => ?_, fun a u h hm => ?_⟩ (.ref ?_)
  · rw [upd_ne (ne_of_none h hp)]; exact h
  · by_cases q : a = p
    · rw [q]; exact hp
    · rw [upd_ne q] at h; exact h
  · rcases List.mem_append.mp h with h | h
    · exact .inl h
    · rw [List.mem_singleton.mp h]; exact .inr hp
  · have := sm.sub a u h
    rw [upd_ne (ne_of_none this hp)]; exact this
  · rw [List.length_append, List.length_append, sm.len] <;> rfl
  · refine List.nodup_append.mpr ⟨sm.nd, by simp, fun a hm b hb => ?_⟩
    rw [List.mem_singleton.mp hb]
    intro z
    rw [z] at hm
    exact ha hm
  · by_cases hn : n < g1.al.length
    · rw [List.getElem?_append_left hn] at q1
      rw [List.getElem?_append_left (by rw [← sm.len]; exact hn)] at q2
      obtain ⟨ws, k1, k2, k3⟩ := sm.pool n a xs q1 q2
      exact ⟨ws, by rw [upd_ne (ne_of_none k1 hp)]; exact k1, k2, k3.mono le⟩
    · have hn2 : n = g1.al.length := by
        have := (List.getElem?_eq_some_iff.mp q1).1
        rw [List.length_append] at this
        simp at this
        omega
      subst hn2
      rw [List.getElem?_append_right (Nat.le_refl _), Nat.sub_self] at q1
      rw [sm.len, List.getElem?_append_right (Nat.le_refl _), Nat.sub_self] at q2
      cases q1
      cases q2
      exact ⟨vs, upd_same, hz, r2.mono le⟩
  · rcases List.mem_append.mp hm with h2 | h2
    · exact sm.hid a u h h2
    · rw [List.mem_singleton.mp h2, hg] at h; cases h
  · show (g1.al ++ [p])[S1.length]? = some p
    rw [← sm.len, List.getElem?_append_right (Nat.le_refl _), Nat.sub_self]
    rfl

/-! ### calls -/
theorem backTo_plain {X : Cx} {L : Pl} {c : Cc} {Z : XK} {m : Bool} {pos : Pos} {es : Es} {exs : List Expr} (h : AllP X L c Z m es exs) : noStar es = true → (backTo pos (starEach exs X.env)).any (·.1) = false := by
  induction h with
  | nil => intro _; rfl
  | cons _ _ hs _ ih =>
    intro hn
    rw [star_no hs]
    show (false || (backTo pos (starEach _ X.env)).any (·.1)) = false
    rw [ih hn] <;> rfl
  | star _ _ _ => intro hn; cases hn
theorem rm_reps {H g H' vs xs} (h : RMs L false H g H' vs xs) : Reps L.K L.fa g vs xs := h
theorem e_call (G : Good X L T c C k Z) {f : Nat} {es : Es} {exs : List Expr} {x : Str} {p pos : Pos} (h : AllP X L c Z false es exs) (hs : noStar es = true) (hg : glB C x = true) (ho : T.ok f = true) (hx : T.nm f = x) : PE X (.Call (.Name x p) exs [] pos) (denM L (Rp L) Z (ev c (.call f es))) := by
  obtain ⟨h1, h2⟩ := glB_ok G hg
  obtain ⟨a, hfa⟩ := G.okf f ho
  obtain ⟨fd, q1, q2, q3, q4, _⟩ := G.defs f a hfa
  rw [hx] at q1
  have e0 : ∀ {σ H Q}, denM L (Rp L) Z (ev c (.call f es)) σ H Q → denM L (RMs L false) Z (evs c es) σ H (fun vs H1 => spF L c f (vs ++ []) H1 Q Z) := by
    intro σ H Q ⟨g0, H0, g, env, S, fr, o⟩
    rw [ev] at o
    refine seqM fr o fun rs vs S1 H1 g1 fr1 ex r1 o1 => ?_
    rw [List.append_nil]
    exact ⟨g1, S1, rs, fr1.sim, rm_reps r1, o1⟩
  have hb := backTo_plain (pos := pos) h hs
  have ha := h.pa G.K
  cases h with
  | nil =>
    refine (pe_call0 q4 G.room h1 q1 q2 q3 .nil G.pas h2).imp fun σ H Q h => ?_
    obtain ⟨g0, H0, g, env, S, fr, o⟩ := h
    rw [ev, evs] at o
    exact ⟨g, S, [], fr.sim, .nil, o⟩
  | cons p1 p2 p3 p4 =>
    have hb2 : (backTo pos (starEach _ X.env)).any (·.1) = false := backTo_plain (pos := pos) p4 hs
    exact (pe_call q4 G.room h1 q1 q2 q3 .nil G.pas ha h2 (star_no p3) hb2).imp fun σ H Q h => e0 h
  | star _ _ => cases hs
theorem e_callv (G : Good X L T c C k Z) {i : Nat} {es : Es} {exs : List Expr} {x : Str} {p pos : Pos} (h : AllP X L c Z false es exs) (hs : noStar es = true) (hn : esLen es ≠ 0) (hv : slotB C i x = true) :
    PE X (.Call (.Name x p) exs [] pos) (denM L (Rp L) Z (ev c (.callv i es))) := by
  obtain ⟨h1, h2, h3, h4⟩ := slotB_ok G hv
  have ha := h.pa G.K
  cases h with
  | nil => exact absurd rfl hn
  | @cons e0 es0 ex0 exs0 p1 p2 p3 p4 =>
    have hb2 : (backTo pos (starEach _ X.env)).any (·.1) = false := backTo_plain (pos := pos) p4 hs
    refine ⟨fun pins s σ H Q I h => ?_⟩
    obtain ⟨g0, H0, g, env, S, fr, o⟩ := h
    rw [ev] at o
    split at o
    · rename_i f hf
      obtain ⟨v, w1, w2⟩ := fr.val i _ hf
      cases w2 with
      | @fn _ a hfa =>
      have key : denM L (RMs L false) Z (evs c (.cons e0 es0)) σ H (fun vs H1 => spF L c f (vs ++ []) H1 Q Z) := by
        refine seqM fr o fun rs vs S1 H1 g1 fr1 ex r1 o1 => ?_
        rw [List.append_nil]
        exact ⟨g1, S1, rs, fr1.sim, rm_reps r1, o1⟩
      obtain ⟨fd, q1, q2, q3, q4, _⟩ := G.defs f a hfa
      exact (pe_callL (i := i) q4 G.room h1 h2 q2 q3 .nil G.pas ha h3 h4 (star_no p3) hb2).run pins s σ H Q I ⟨w1, key⟩
    · exact o.elim
  | star _ _ => cases hs

/-! ### keywords -/
def kwVal : Keyword → Expr
  | ⟨_, v, _⟩ => v
def kwArg : Keyword → Option Str
  | ⟨a, _, _⟩ => a
theorem AllP.pk {es : Es} : ∀ {kws : List Keyword} {exs : List Expr}, AllP X L c Z false es exs → noStar es = true → kws.map kwVal = exs → PK X kws (denM L (RMs L false) Z (evs c es)) := by
  intro kws exs h
  induction h generalizing kws with
  | nil =>
    intro _ e
    cases kws with
    | cons _ _ => cases e
    | nil =>
      refine ⟨fun pos pins s σ H Q I ⟨g0, H0, g, env, S, fr, o⟩ => pk_nil.run pos pins s σ H Q I ?_⟩
      rw [evs] at o
      exact o [] H g (.refl _ _) fr.sim .nil
  | @cons e0 es0 ex0 exs0 h1 _ hs _ ih =>
    intro hn e
    cases kws with
    | nil => cases e
    | cons kw kws =>
      obtain ⟨nm, v, kp⟩ := kw
      cases e
      have p2 := ih (kws := kws) hn rfl
      refine ⟨fun pos pins s σ H Q I ⟨g0, H0, g, env, S, fr, o⟩ => (pk_cons h1 p2).run pos pins s σ H Q I ?_⟩
      rw [evs] at o
      refine seqM fr o fun r v S1 H1 g1 fr1 ex rp o1 => ?_
      refine seqM fr1 o1 fun rs vs S2 H2 g2 fr2 ex2 rps o2 => ?_
      exact o2 (v :: vs) H2 g2 (.refl _ _) fr2.sim (RMs.cons (m := false) (H := H) (H' := H1) (H0 := H) rp ex2 rps)
  | star _ _ _ => intro hn; cases hn
theorem kw_names {env : PySem.Env} {pos : Pos} : ∀ {kws : List Keyword} {ks : List Str}, kws.map kwArg = ks.map some → (backToKw pos (keywordEach kws env)).all (·.1.isSome) = true ∧ (backToKw pos (keywordEach kws env)).filterMap (·.1) = ks ∧ (backToKw pos (keywordEach kws env)).any (·.1.isNone) = false
  | [], [], _ => ⟨rfl, rfl, rfl⟩
  | [], _ :: _, h => by cases h
  | _ :: _, [], h => by cases h
  | ⟨nm, v, kp⟩ :: kws, k :: ks, h => by
    have h0 : (nm :: kws.map kwArg) = some k :: ks.map some := h
    injection h0 with h1 h2
    subst h1
    obtain ⟨i1, i2, i3⟩ := kw_names (env := env) (pos := pos) (kws := kws) (ks := ks) h2
    refine ⟨?_, ?_, ?_⟩
    · show (true && (backToKw pos (keywordEach kws env)).all (·.1.isSome)) = true
      rw [i1] <;> rfl
    · show k :: (backToKw pos (keywordEach kws env)).filterMap (·.1) = k :: ks
      rw [i2]
    · show (false || (backToKw pos (keywordEach kws env)).any (·.1.isNone)) = false
      rw [i3] <;> rfl
theorem pe_callK0 {X : Cx} {CX : CXT} {k : Nat} {f : Addr} {fd : FuncData} {ps ks : List Str} {sp : Sp} {E : XK} {x : Str} {p pos : Pos} {kws : List Keyword} {tk : TA} {g : List Value → List Value → List Value} {gV : List V → List V → List V} (F : FnOk X.prog X.w X.K X.mg X.base CX k f fd ps sp) (hr : Room k X.A) (hg : Gl X x) (hm : X.mg x = some (.ref f)) (hk : PySem.W.keepIn X.K (.ref f) = true)
    (hb : KBinds X.K fd ps ks g gV) (hx : Passes CX X E) (hkw : PK X kws tk) (hall : (backToKw pos (keywordEach kws X.env)).all (·.1.isSome) = true) (hks : (backToKw pos (keywordEach kws X.env)).filterMap (·.1) = ks) (hno : (backToKw pos (keywordEach kws X.env)).any (·.1.isNone) = false)
    (hdb : (x == ("__debug__" : Str)) = false) : PE X (.Call (.Name x p) [] kws pos) (fun σ H Q => tk σ H fun zs H2 => sp (gV [] zs) H2 Q E) := by
  refine ⟨fun pins s σ H Q I h => ?_⟩
  refine wpAny_Call_Name_kw (ld_glob I hg hm ?_ hdb)
  refine PySem.W.callWith_KW0 (h₀ := X.base) I.ok.mod.kin hk hall (thn (hkw.run pos pins s σ H _ I h) fun ws s2 ⟨zs, H2, I2, rz, q2⟩ => ⟨I2.kIn, ?_⟩) (by rw [hno] <;> rfl)
  rw [hks]
  exact run_fnk F hr hb hx I2 .nil rz q2
theorem Reps.perm {g : Gh} {vs : List V} {xs : List PV} (r : Reps L.K L.fa g vs xs) : ∀ {perm : List Nat}, (∀ j ∈ perm, j < xs.length) → Reps L.K L.fa g (perm.map fun j => vs.getD j .non) (perm.map fun j => xs.getD j .non)
  | [], _ => .nil
  | j :: js, h => by
    have hj := h j (by simp)
    have e : xs[j]? = some xs[j] := List.getElem?_eq_getElem hj
    obtain ⟨v, e2, rp⟩ := r.get e
    refine .cons ?_ (Reps.perm r fun i hi => h i (by simp [hi]))
    show Rep L.K L.fa g (vs.getD j .non) (xs.getD j .non)
    rw [List.getD_eq_getElem?_getD, List.getD_eq_getElem?_getD, e, e2]
    exact rp
theorem AllP.len {es : Es} {exs : List Expr} {m : Bool} (h : AllP X L c Z m es exs) : noStar es = true → exs.length = esLen es := by
  induction h with
  | nil => intro _; rfl
  | cons _ _ _ _ ih => intro hn; rw [List.length_cons, ih hn]; rfl
  | star _ _ _ => intro hn; cases hn
theorem e_callk (G : Good X L T c C k Z) {f : Nat} {perm : List Nat} {ks : List Str} {es : Es} {kws : List Keyword} {x : Str} {p pos : Pos} (h : AllP X L c Z false es (kws.map kwVal)) (hs : noStar es = true) (hl : esLen es ≤ 1000) (hkn : kws.map kwArg = ks.map some) (hp : ∀ j ∈ perm, j < esLen es) (hg : glB C x = true) (ho : T.ok f = true) (hx : T.nm f = x)
    (hk : (f, ks, perm) ∈ T.kw) : PE X (.Call (.Name x p) [] kws pos) (denM L (Rp L) Z (ev c (.callk f perm ks es))) := by
  obtain ⟨h1, h2⟩ := glB_ok G hg
  obtain ⟨a, hfa⟩ := G.okf f ho
  obtain ⟨fd, q1, q2, q3, q4, q5⟩ := G.defs f a hfa
  rw [hx] at q1
  obtain ⟨n1, n2, n3⟩ := kw_names (env := X.env) (pos := pos) hkn
  refine (pe_callK0 q4 G.room h1 q1 q2 (q5 ks perm hk).kb G.pas (h.pk hs rfl) n1 n2 n3 h2).imp fun σ H Q ⟨g0, H0, g, env, S, fr, o⟩ => ?_
  rw [ev] at o
  refine ⟨g0, H0, g, env, S, fr, o.bind fun rs S1 vs H1 g1 e ex sm r1 o1 => ?_⟩
  have hl2 := evs_len 1000 hl hs e
  have r2 : Reps L.K L.fa g1 vs rs := r1
  have hlen : vs.length = ks.length := by
    have k1 : (kws.map kwVal).length = esLen es := h.len hs
    have k2 := congrArg List.length hkn
    rw [List.length_map] at k1
    rw [List.length_map, List.length_map] at k2
    rw [r2.length, hl2, ← k1, k2]
  have e2 : kg ks.length perm V.non [] vs = perm.map fun j => vs.getD j .non := if_pos ⟨rfl, hlen⟩
  rw [e2]
  exact ⟨g1, S1, _, sm, Reps.perm r2 (by rw [hl2]; exact hp), o1⟩

/-! ### built-in calls -/
def biName : BI → Str
  | .len => "len"
  | .int => "int"
  | .abs => "abs"
  | .tuple => "tuple"
  | .list => "list"
  | .all => "all"
  | .any => "any"
  | .max => "max"
  | .min => "min"
  | .gcd => "gcd"
  | .sorted => "sorted"
  | .sortedSet => "sorted"
theorem rm_reprs {H g H' vs xs} (h : RMs L true H g H' vs xs) : RepRs L g H' vs xs := h
theorem e_biArgs {b : BI} {es : Es} : ∀ {σ H Q}, denM L (Rp L) Z (ev c (.bi b es)) σ H Q → denM L (RMs L true) Z (evs c es) σ H (fun vs H1 => rBi L b vs H1 Q) := by
  intro σ H Q ⟨g0, H0, g, env, S, fr, o⟩
  rw [ev] at o
  refine seqM fr o fun rs vs S1 H1 g1 fr1 ex r1 o1 => ?_
  obtain ⟨z, e, o2⟩ := o1.lift1
  exact ⟨g1, S1, rs, z, fr1.sim, rm_reprs r1, e, o2⟩
theorem e_biB (G : Good X L T c C k Z) {b : BI} {id : String} {es : Es} {exs : List Expr} {p pos : Pos} (hc : CallR X (.builtin id) (rBi L b)) (hv : bootBuiltins (biName b) = some (.builtin id)) (hn : biName b ≠ "__name__") (hx : biName b ∈ bltNames) (h : AllP X L c Z true es exs) (hs : noStar es = true) (hl : esLen es ≠ 0) (hg : glB C (biName b) = true) :
    PE X (.Call (.Name (biName b) p) exs [] pos) (denM L (Rp L) Z (ev c (.bi b es))) := by
  obtain ⟨h1, h2⟩ := glB_ok G hg
  have ha := h.pa G.K
  cases h with
  | nil => exact absurd rfl hl
  | cons p1 p2 p3 p4 =>
    have hb2 : (backTo pos (starEach _ X.env)).any (·.1) = false := backTo_plain (pos := pos) p4 hs
    exact (pe_callB hc h1 (G.blt _ hx) hv ha hn h2 (star_no p3) hb2).imp fun σ H Q h => e_biArgs h
  | star _ _ => cases hs
theorem e_biT (G : Good X L T c C k Z) {b : BI} {id : String} {es : Es} {exs : List Expr} {p pos : Pos} (hc : CallR X (.type id) (rBi L b)) (hv : bootBuiltins (biName b) = some (.type id)) (hn : biName b ≠ "__name__") (hx : biName b ∈ bltNames) (h : AllP X L c Z true es exs) (hs : noStar es = true) (hl : esLen es ≠ 0) (hg : glB C (biName b) = true) :
    PE X (.Call (.Name (biName b) p) exs [] pos) (denM L (Rp L) Z (ev c (.bi b es))) := by
  obtain ⟨h1, h2⟩ := glB_ok G hg
  have ha := h.pa G.K
  cases h with
  | nil => exact absurd rfl hl
  | cons p1 p2 p3 p4 =>
    have hb2 : (backTo pos (starEach _ X.env)).any (·.1) = false := backTo_plain (pos := pos) p4 hs
    exact (pe_callTy hc h1 (G.blt _ hx) hv ha hn h2 (star_no p3) hb2).imp fun σ H Q h => e_biArgs h
  | star _ _ => cases hs
theorem e_gcd (G : Good X L T c C k Z) (hgc : T.gcd = true) {es : Es} {exs : List Expr} {p pos : Pos} (h : AllP X L c Z true es exs) (hs : noStar es = true) (hl : esLen es ≠ 0) (hg : glB C "gcd" = true) :
    PE X (.Call (.Name "gcd" p) exs [] pos) (denM L (Rp L) Z (ev c (.bi .gcd es))) := by
  obtain ⟨h1, h2⟩ := glB_ok G hg
  have ha := h.pa G.K
  cases h with
  | nil => exact absurd rfl hl
  | cons p1 p2 p3 p4 =>
    have hb2 : (backTo pos (starEach _ X.env)).any (·.1) = false := backTo_plain (pos := pos) p4 hs
    exact (pe_callBfun bi_gcd h1 (G.gcd hgc) ha h2 (star_no p3) hb2).imp fun σ H Q h => e_biArgs h
  | star _ _ => cases hs
def biOk : BI → Bool
  | .sortedSet => false
  | _ => true
theorem e_bi (G : Good X L T c C k Z) {b : BI} {es : Es} {exs : List Expr} {p pos : Pos} (hb : biOk b = true) (hgc : b = .gcd → T.gcd = true) (h : AllP X L c Z true es exs) (hs : noStar es = true) (hl : esLen es ≠ 0) (hg : glB C (biName b) = true) :
    PE X (.Call (.Name (biName b) p) exs [] pos) (denM L (Rp L) Z (ev c (.bi b es))) := by
  cases b with
  | len => exact e_biB G (bi_len G.K) (by decide +kernel) (by decide) (by decide) h hs hl hg
  | int => exact e_biT G bi_int (by decide +kernel) (by decide) (by decide) h hs hl hg
  | abs => exact e_biB G bi_abs (by decide +kernel) (by decide) (by decide) h hs hl hg
  | tuple => exact e_biT G (bi_tuple G.K) (by decide +kernel) (by decide) (by decide) h hs hl hg
  | list => exact e_biT G (bi_list G.K) (by decide +kernel) (by decide) (by decide) h hs hl hg
  | all => exact e_biB G (bi_all G.calm) (by decide +kernel) (by decide) (by decide) h hs hl hg
  | any => exact e_biB G (bi_any G.calm) (by decide +kernel) (by decide) (by decide) h hs hl hg
  | max => exact e_biB G (bi_max G.calm) (by decide +kernel) (by decide) (by decide) h hs hl hg
  | min => exact e_biB G (bi_min G.calm) (by decide +kernel) (by decide) (by decide) h hs hl hg
  | gcd => exact e_gcd G (hgc rfl) h hs hl hg
  | sorted => exact e_biB G bi_sorted (by decide +kernel) (by decide) (by decide) h hs hl hg
  | sortedSet => cases hb
theorem tyB_rep {g : Gh} {H : Hp} {S : Sto} {v : V} {x : PV} {t : String} (rp : RepR L g H v x) (sm : Sim L.K L.fa g H S) (e : tyB x = some t) : TyX L.K H v (.type t) := by
  cases x <;> simp only [tyB] at e <;> first
    | (cases e; done)
    | skip
  · cases e; obtain rfl := rp.non; exact .base .non
  · cases e; obtain rfl := rp.bl; exact .base (.bl _)
  · cases e; obtain rfl := rp.int; exact .base (.int _)
  · cases e; obtain rfl := rp.str; exact .base (.str _)
  · cases e
    obtain ⟨p, ws, rfl, h2, _⟩ := rp.tup sm
    rcases h2 with (h | ⟨o, h⟩) | ⟨o, its, n, h, hc, _⟩
    · exact .base (.tup h)
    · exact .fTuple h
    · exact .kTuple h hc
  · cases e
    obtain ⟨p, ws, rfl, h2, _⟩ := rp.lst sm
    exact .base (.lst h2)
  · cases e
    obtain ⟨p, ws, rfl, h2, _⟩ := rp.frz sm
    rcases h2 with (h | ⟨o, h⟩) | ⟨o, its, n, h, hc, _⟩
    · exact .base (.lst h)
    · exact .base (.frz h)
    · exact .kList h hc
def tyNames : List String := ["NoneType", "bool", "int", "str", "tuple", "list"]
def clNames : List String := ["int", "bool", "str", "tuple", "list", "dict"]
theorem tyB_names {x : PV} {t : String} (e : tyB x = some t) : t ∈ tyNames := by
  cases x <;> simp [tyB] at e <;> subst e <;> decide
theorem isiE_kit {x : PV} {t u : String} {b : Bool} (e : tyB x = some t) (h : isiE x u = some b) : u ∈ clNames ∧ kitB t u = some b := by
  unfold isiE at h
  rw [e] at h
  dsimp only at h
  have key : ∀ s ∈ tyNames, ∀ w ∈ clNames, kitB s w = some (if w = "int" then (s = "int" || s = "bool") else s = w) := by decide +kernel
  have ht := tyB_names e
  split at h
  · rename_i hu
    subst hu
    cases h
    exact ⟨by decide, by rw [key t ht _ (by decide)]; rfl⟩
  · rename_i hu
    split at h
    · rename_i hw
      cases h
      have hm : u ∈ clNames := by
        simp only [clNames, List.mem_cons]
        rcases hw with h | h | h | h | h <;> simp [h]
      exact ⟨hm, by rw [key t ht u hm, if_neg hu]⟩
    · cases h
theorem e_isi (G : Good X L T c C k Z) {a : E} {ea : Expr} {t : String} {p p2 pos : Pos} (ha : PE X ea (denM L (RpR L) Z (ev c a))) (hs : starB ea = false) (hg : glB C "isinstance" = true) (hg2 : glB C (Str.ofString t) = true) (ht : t ∈ clNames) : PE X (.Call (.Name "isinstance" p) [ea, .Name (Str.ofString t) p2] [] pos) (denM L (Rp L) Z (ev c (.isi a t))) := by
  obtain ⟨h1, h2⟩ := glB_ok G hg
  obtain ⟨k1, k2⟩ := glB_ok G hg2
  have hb : ∀ w ∈ clNames, bootBuiltins (Str.ofString w) = some (.type w) ∧ Str.ofString w ≠ "__name__" ∧ Str.ofString w ∈ bltNames := by decide +kernel
  obtain ⟨b1, b2, b3⟩ := hb t ht
  have p2' : PE X (.Name (Str.ofString t) p2) (tC (.ty t)) := pe_bltn k1 (G.blt _ b3) b1 rfl b2 k2
  refine (pe_callB call_isi h1 (G.blt _ (by decide)) (by decide +kernel) (pa_cons ha (pa_cons p2' pa_nil) (star_no hs)) (by decide) h2 (star_no hs) rfl).imp fun σ H Q ⟨g0, H0, g, env, S, fr, o⟩ => ?_
  rw [ev] at o
  refine seqM fr o fun r v S1 H1 g1 fr1 ex r1 o1 => ?_
  obtain ⟨z, e, o2⟩ := o1.lift1
  cases e2 : isiE r t with
  | none => rw [e2] at e; cases e
  | some b =>
    rw [e2] at e
    cases e
    cases e3 : tyB r with
    | none => unfold isiE at e2; rw [e3] at e2; cases e2
    | some s =>
      obtain ⟨_, hk⟩ := isiE_kit e3 e2
      exact ⟨v, .ty t, .type s, .type t, b, rfl, .ty t, G.K ▸ tyB_rep r1 fr1.sim e3, kit_ty hk, (OutG.give o2).here fr1.sim (.bl b)⟩

/-! ### subscripts -/
def sliceB : Expr → Bool
  | .Slice _ _ _ _ => true
  | _ => false
theorem plainIx_ok {b : Expr} (h : sliceB b = false) : PlainIx b := by
  intro o i
  cases b <;> first
    | rfl
    | cases h
theorem ixN_eq (n : Nat) (i : Int) : L2.ixN n i = Wt.ixN n i := rfl
theorem atE_at {g : Gh} {vs : List V} {xs : List PV} {i : Int} {x : PV} (r : Reps L.K L.fa g vs xs) (h : atE xs i = some x) : ∃ v, atI vs i = some v ∧ Rep L.K L.fa g v x := by
  unfold atE at h
  unfold atI
  cases e : Wt.ixN xs.length i with
  | none => rw [e] at h; cases h
  | some j =>
    rw [e] at h
    have h2 : xs[j]? = some x := h
    obtain ⟨v, hv, rp⟩ := r.get h2
    have hl : vs.length = xs.length := r.length
    refine ⟨v, ?_, rp⟩
    rw [hl, ixN_eq, e]
    exact hv
theorem e_ix (G : Good X L T c C k Z) {a b : E} {ea eb : Expr} {pos : Pos} (hn : sliceB eb = false) (ha : PE X ea (denM L (RpR L) Z (ev c a))) (hb : PE X eb (denM L (Rp L) Z (ev c b))) : PE X (.Subscript ea eb pos) (denM L (Rp L) Z (ev c (.ix a b))) := by
  refine (pe_ix (ix_list.or ix_tup) ha hb (plainIx_ok hn)).imp fun σ H Q ⟨g0, H0, g, env, S, fr, o⟩ => ?_
  rw [ev] at o
  refine seqM fr o fun r v S1 H1 g1 fr1 ex rp o1 => ?_
  refine seqM fr1 o1 fun r2 v2 S2 H2 g2 fr2 ex2 rp2 o2 => ?_
  have rp' := rp.step ex2
  cases r2 with
  | int i =>
    cases rp2
    cases r with
    | tup xs =>
      obtain ⟨z, e, o3⟩ := OutG.lift1 (x := ixE (.tup xs) (.int i)) o2
      obtain ⟨p, vs, rfl, h1, h2, h3, _⟩ := rp'.tup fr2.sim
      obtain ⟨w, hw, rw'⟩ := atE_at h3 e
      exact .inr ⟨p, vs, i, w, rfl, rfl, G.K ▸ h1, hw, (OutG.give o3).here fr2.sim rw'⟩
    | lst xs =>
      obtain ⟨z, e, o3⟩ := OutG.lift1 (x := ixE (.lst xs) (.int i)) o2
      obtain ⟨p, vs, rfl, h1, h2, h3⟩ := rp'.lst fr2.sim
      obtain ⟨w, hw, rw'⟩ := atE_at h3 e
      exact .inl ⟨p, vs, i, w, rfl, rfl, .of h1, hw, (OutG.give o3).here fr2.sim rw'⟩
    | frz xs =>
      obtain ⟨z, e, o3⟩ := OutG.lift1 (x := ixE (.frz xs) (.int i)) o2
      obtain ⟨p, vs, rfl, h1, h2, h3⟩ := rp'.frz fr2.sim
      obtain ⟨w, hw, rw'⟩ := atE_at h3 e
      exact .inl ⟨p, vs, i, w, rfl, rfl, G.K ▸ h1, hw, (OutG.give o3).here fr2.sim rw'⟩
    | ref n =>
      have o3 : OutG L (Rp L H) Z g2 H2 ((getRef n >>= fun xs => lift (atE xs i)).go S2) Q := o2
      rw [bind_go] at o3
      unfold getRef at o3
      dsimp only at o3
      rcases rp' with h | ⟨_, _, _, _, h, _⟩
      · cases h with
        | @ref _ q hq =>
          cases e4 : S2[n]? with
          | none => rw [e4] at o3; exact o3.elim
          | some xs =>
            rw [e4] at o3
            obtain ⟨vs, h1, h2, h3⟩ := fr2.sim.pool n q xs hq e4
            obtain ⟨z, e, o5⟩ := OutG.lift1 (x := atE xs i) o3
            obtain ⟨w, hw, rw'⟩ := atE_at h3 e
            exact .inl ⟨q, vs, i, w, rfl, rfl, .of h1, hw, (OutG.give o5).here fr2.sim rw'⟩
      · cases h
    | _ => exact (show False from o2).elim
  | _ => cases r <;> exact (show False from o2).elim
theorem sIx_eq (n d : Nat) (o : Option Int) : HT.sIx n d o = Wt.sIx n d o := by
  cases o <;> rfl
def slR (L : Pl) : V → Option Int → Option Int → Hp → VK → Prop := fun v lo hi H Q => ∃ g S x z, Sim L.K L.fa g H S ∧ RepR L g H v x ∧ slE x lo hi = some z ∧ Give L g H S z Q
theorem cut_rep {g : Gh} {vs : List V} {xs : List PV} (r : Reps L.K L.fa g vs xs) (lo hi : Option Int) : Reps L.K L.fa g (cutV vs lo hi) (cutE xs lo hi) := by
  unfold cutV cutE
  rw [sIx_eq, sIx_eq, r.length]
  exact (r.drop _).take _
theorem cut_whole (xs : List PV) (lo hi : Option Int) (h : Wt.sIx xs.length 0 lo = 0 ∧ Wt.sIx xs.length xs.length hi = xs.length) : cutE xs lo hi = xs := by
  unfold cutE
  rw [h.1, h.2]
  simp
theorem sl_ok (hK : X.K = L.K) : SlR X (slR L) := by
  intro pins s σ H x v vl vu lo hi sl Q I rx hs pl pu h
  obtain ⟨g, S, px, z, sm, rp, e, q⟩ := h
  cases px <;> simp only [slE] at e <;> first
    | (cases e; done)
    | skip
  · rename_i xs
    cases e
    obtain ⟨p, vs, rfl, h1, h2, h3, h4⟩ := rp.tup sm
    refine sl_tupA pins s σ H _ v vl vu lo hi sl Q I rx hs pl pu ⟨p, vs, rfl, hK ▸ h1, fun hw => ?_, fun _ => ?_⟩
    · rw [sIx_eq, sIx_eq, h3.length] at hw
      rw [cut_whole xs lo hi hw] at q
      exact q.here sm h4
    · exact q.tup sm (cut_rep h3 lo hi) (Nat.le_trans (cutV_length _ _ _) h2)
  · rename_i xs
    cases e
    obtain ⟨p, vs, rfl, h1, h2, h3⟩ := rp.lst sm
    exact sl_list pins s σ H _ v vl vu lo hi sl Q I rx hs pl pu ⟨p, vs, rfl, .of h1, q.lst sm (cut_rep h3 lo hi) (Nat.le_trans (cutV_length _ _ _) h2)⟩
  · rename_i xs
    cases e
    obtain ⟨p, vs, rfl, h1, h2, h3⟩ := rp.frz sm
    exact sl_list pins s σ H _ v vl vu lo hi sl Q I rx hs pl pu ⟨p, vs, rfl, hK ▸ h1, q.lst sm (cut_rep h3 lo hi) (Nat.le_trans (cutV_length _ _ _) h2)⟩
/-- a part of a slice -/
inductive OeP (X : Cx) (L : Pl) (c : Cc) (Z : XK) : Oe → Option Expr → Prop
  | no : OeP X L c Z .no none
  | yes {e : E} {ex : Expr} : PE X ex (denM L (Rp L) Z (ev c e)) → OeP X L c Z (.yes e) (some ex)
theorem OeP.po {e : Oe} {ex : Option Expr} (h : OeP X L c Z e ex) : PO X ex (denM L (fun _ _ _ a b => a = b) Z (evO c e)) := by
  cases h with
  | no =>
    refine ⟨fun pins s σ H Q I ⟨g0, H0, g, env, S, fr, o⟩ => po_none.run pins s σ H Q I ?_⟩
    rw [evO] at o
    exact o none H g (.refl _ _) fr.sim rfl
  | yes h1 =>
    refine ⟨fun pins s σ H Q I ⟨g0, H0, g, env, S, fr, o⟩ => (po_some h1).run pins s σ H Q I ?_⟩
    rw [evO] at o
    refine seqM fr o fun r v S1 H1 g1 fr1 ex rp o1 => ?_
    obtain ⟨z, e, o3⟩ := o1.lift1
    cases r <;> simp only [asI, Option.map_some, Option.map_none] at e <;> first
      | (cases e; done)
      | skip
    cases e
    cases rp
    exact ⟨_, rfl, o3 _ H1 g1 (.refl _ _) fr1.sim rfl⟩
theorem e_sl (G : Good X L T c C k Z) {a : E} {lo hi : Oe} {ea : Expr} {elo ehi : Option Expr} {p2 pos : Pos} (ha : PE X ea (denM L (RpR L) Z (ev c a))) (hl : OeP X L c Z lo elo) (hh : OeP X L c Z hi ehi) : PE X (.Subscript ea (.Slice elo ehi none p2) pos) (denM L (Rp L) Z (ev c (.sl a lo hi))) := by
  refine (pe_slice (sl_ok G.K) ha hl.po hh.po).imp fun σ H Q ⟨g0, H0, g, env, S, fr, o⟩ => ?_
  rw [ev] at o
  refine seqM fr o fun r v S1 H1 g1 fr1 ex rp o1 => ?_
  refine seqM fr1 o1 fun r2 v2 S2 H2 g2 fr2 ex2 rp2 o2 => ?_
  refine seqM fr2 o2 fun r3 v3 S3 H3 g3 fr3 ex3 rp3 o3 => ?_
  obtain ⟨z, e, o4⟩ := o3.lift1
  cases rp2
  cases rp3
  exact ⟨g3, S3, r, z, fr3.sim, (rp.step ex2).step ex3, e, o4⟩
theorem e_rev (G : Good X L T c C k Z) {a : E} {ea : Expr} {kk : Nat} {p1 p2 p3 pos : Pos} (ha : PE X ea (denM L (RpR L) Z (ev c a))) : PE X (.Subscript ea (.Slice none none (some (.UnaryOp .USub (.Constant (.int 1) kk p1) p2)) p3) pos) (denM L (Rp L) Z (ev c (.rev a))) := by
  refine (pe_revL ha).imp fun σ H Q ⟨g0, H0, g, env, S, fr, o⟩ => ?_
  rw [ev] at o
  refine seqM fr o fun r v S1 H1 g1 fr1 ex rp o1 => ?_
  obtain ⟨z, e, o2⟩ := o1.lift1
  cases r <;> simp only [revE] at e <;> first
    | (cases e; done)
    | skip
  cases e
  obtain ⟨p, vs, rfl, h1, h2, h3⟩ := rp.lst fr1.sim
  exact ⟨p, vs, rfl, .of h1, (OutG.give o2).lst fr1.sim h3.reverse (by rw [List.length_reverse]; exact h2)⟩
end
end Wt
/-! Itr: what a for or a comprehension walks: enumerate and zip over lists and tuples in any mix. -/
namespace Wt
open PySem PySem.Spec PyProof.Rows L2

/-! ### sources -/
inductive Sk where | l | t
def Sk.iter : Sk → Heap → Addr → Addr → Nat → Prop
  | .l, h, it, a, i => h.IsListIter it a i
  | .t, h, it, a, i => h.IsTupleIter it a i
def Sk.sq (K : PySem.W.Frag) : Sk → Hp → Addr → List V → Prop
  | .l, H, a, vs => SqL K H a vs
  | .t, H, a, vs => SqT K H a vs
def Sk.is : Sk → Heap → Addr → Array Value → Prop
  | .l, h, a, its => h.IsList a its
  | .t, h, a, its => h.IsTuple a its
def Sk.obj : Sk → Addr → Obj
  | .l, a => { cls := .type "list_iterator", data := .fields #[.ref a, .int 0 0] }
  | .t, a => { cls := .type "tuple_iterator", data := .fields #[.ref a, .int 0 0] }
theorem Sk.begins (k : Sk) (a : Addr) (its : Array Value) : Begins (.ref a) (k.obj a) fun h => k.is h a its := by
  cases k
  · exact begins_list a its
  · exact begins_tuple a its
theorem Sk.draws {prog : Program} {w : World} {A : Around} (k : Sk) (hh : A.handled = none) (it a : Addr) (hne : a ≠ it) (its : Array Value) : Draws prog w A it [it, a] its.size (fun i v => its[i]? = some v) (fun i h => k.iter h it a i ∧ k.is h a its) := by
  cases k
  · exact Draws.list hh it a hne its
  · exact Draws.tuple hh it a hne its
theorem Sk.have {X : Cx} {pins : List (Addr × Obj)} {σ : L2.St} {H : Hp} {s : Shared} {k : Sk} {a : Addr} {vs : List V} (I : Inv X pins σ H s) (h : k.sq X.K H a vs) : ∃ its : List Value, Vals vs its ∧ k.is s.heap a its.toArray ∧ vs.length ≤ sizeLine ∧ a < s.heap.objs.size := by
  cases k
  · obtain ⟨its, r, p, z⟩ := I.list h
    exact ⟨its, r, p.isList, z, p.lt⟩
  · obtain ⟨its, r, p, z⟩ := I.tuple h
    obtain ⟨o, ho, _⟩ := id p
    exact ⟨its, r, p, z, Heap.lt_size ho⟩
theorem Sk.notcell {k : Sk} {h : Heap} {it a : Addr} {i : Nat} (x : k.iter h it a i) : ∃ o, h.get? it = some o ∧ ∀ v, o.data ≠ .cell v := by
  cases k
  · obtain ⟨o, e, c, d⟩ := x
    exact ⟨o, e, fun v z => by rw [d] at z; cases z⟩
  · obtain ⟨o, e, c, d⟩ := x
    exact ⟨o, e, fun v z => by rw [d] at z; cases z⟩
theorem Sk.at {k : Sk} {h h' : Heap} {it a : Addr} {i : Nat} (x : k.iter h it a i) (f : ∀ o, h.get? it = some o → h'.get? it = some o) : k.iter h' it a i := by
  cases k
  · exact Heap.IsListIter.at (h := h) x f
  · exact Heap.IsTupleIter.at (h := h) x f
theorem Sk.start {k : Sk} {h : Heap} {it a : Addr} (e : h.get? it = some (k.obj a)) : k.iter h it a 0 := by
  cases k
  · exact ⟨_, e, rfl, rfl⟩
  · exact ⟨_, e, rfl, rfl⟩

/-! ### an iterator of new tuples -/
/-- n turns, has holds through it, the i-th gives a new tuple of f i -/
def JT (n : Nat) (has : Hp → Prop) (f : Nat → Option (List V)) : L2.It :=
  ⟨fun i H => i < n ∧ has H, fun i H v H' => ∃ T xs, v = .ref T ∧ H T = none ∧ H' = upd H T (.tup xs) ∧ f i = some xs, fun i H => i = n ∧ has H⟩
theorem turn_ofN {P : Program} {w : World} {K : PySem.W.Frag} {tg : Expr} {n : Nat} {has : Hp → Prop} {f : Nat → Option (List V)} {it : Addr} {fp wr : List Addr} {tn : Nat → Heap → Prop}
    (mem : it ∈ fp) (obj : ∀ i h, tn i h → ∀ b ∈ fp, ∃ o, h.get? b = some o ∧ ∀ v, o.data ≠ .cell v) (keep : ∀ i h h', tn i h → (∀ b ∈ fp, ∀ o, h.get? b = some o → h'.get? b = some o) → tn i h') (sub : ∀ b ∈ wr, b ∈ fp)
    (self : ∀ (A : Around) (i : Nat) (s : Shared) (Q : Value → Shared → Prop) (E : Value → Shared → Prop), tn i s.heap → Q (.ref it) s → wpAny (model P w) A (pyIter (.ref it)) Q E s)
    (W : ∀ (X : Cx), X.prog = P → X.w = w → X.K = K → X.calm = true → ∀ (pins : List (Addr × Obj)) (s : Shared) (σ : L2.St) (H : Hp), Inv X pins σ H s → has H → ∃ (fp' : List Addr) (Pt : Nat → Array Value → Prop) (St : Nat → Heap → Prop),
      GoesN P w X.A tg it fp' wr n (fun i h₀ v h => ∃ T vals, v = .ref T ∧ h₀.objs.size ≤ T ∧ Pt i vals ∧ h.IsTuple T vals) St ∧ (∀ i, tn i s.heap → St i s.heap) ∧ (∀ i h, St i h → tn i h) ∧ ∀ i vals, i < n → Pt i vals → ∃ xs, f i = some xs ∧ Vals xs vals.toList ∧ xs.length ≤ 1000) :
    Turn P w K tg (JT n has f) fp it tn where
  mem := mem
  obj := obj
  keep := keep
  item := by
    intro X hP hw hK hc i pins s σ H E I hf st hg
    subst hP hw hK
    obtain ⟨hi, hh⟩ := hg
    obtain ⟨fp', Pt, St, G, s1, s2, s3⟩ := W X rfl rfl rfl hc pins s σ H I hh
    refine G.goes i s _ E hi (s1 i st) fun v h' tk hY st' hk htk => ?_
    obtain ⟨T, vals, rfl, hT, hp, ht⟩ := hY
    obtain ⟨xs, e1, e2, e3⟩ := s3 i vals hi hp
    have hz : xs.length ≤ sizeLine := by rw [sizeLine_eq]; omega
    have new : ObjOk X.prog X.w (upd H T (.tup xs)) h' T (.tup xs) := ⟨hz, vals.toList, e2, by rw [Array.toArray_toList]; exact ht⟩
    have I1 : Inv X pins σ (upd H T (.tup xs)) { s with heap := h', toks := tk } := I.turnedNew (ch := wr) (fun b o hb q => hk b o hb q) (fun b hb => hf b (sub b hb)) hT new
    refine ⟨.ref T, _, I1, rfl, ⟨T, xs, rfl, I.hok.fresh hT, rfl, e1⟩, s2 _ _ st', fun b hb => ?_⟩
    obtain ⟨o, ho, _⟩ := obj i s.heap st b hb
    rw [upd_ne (Nat.ne_of_lt (Nat.lt_of_lt_of_le (Heap.lt_size ho) hT))]
    exact (hf b hb).1
  done := by
    intro X hP hw hK hc i pins s σ H E I hf st hg
    subst hP hw hK
    obtain ⟨rfl, hh⟩ := hg
    obtain ⟨fp', Pt, St, G, s1, s2, s3⟩ := W X rfl rfl rfl hc pins s σ H I hh
    refine thn (G.stops s (fun s' => Inv X pins σ H s') E (s1 _ st) fun h' tk hk _ => I.turnedL (ch := wr) (fun b o hb q => hk b o hb q) fun b hb => hf b (sub b hb)) fun r s' h => h
  self := self

/-! ### enumerate -/
theorem meets_enumerate_newB1 {v : Value} {o : Obj} {H : Heap → Prop} (B : Begins v o H) :
    Meets (Builtin.«enumerate.__new__» ⟨[.type "enumerate", v], []⟩) (fun _ R s => H s.heap ∧
      R (.ok (.ret (.ref (s.heap.push o).objs.size))) { s with heap := (s.heap.push o).push { cls := .type "enumerate", data := .fields #[.none, .bool false, .ref s.heap.objs.size, rawInt 0, .none, .none] } }) :=
  .of_wp fun prog w A R s h => by
    obtain ⟨hp, g, d, tk, os⟩ := s; obtain ⟨h1, h⟩ := h
    have hsub := sub_enumerate
    have q1 : ∀ {A' : Around} {E : Value → Shared → Prop} {Q : Value → Shared → Prop}, Q (.ref hp.objs.size) ⟨hp.push o, g, d, tk, os⟩ → wpAny (model prog w) A' (pyIter v) Q E ⟨hp, g, d, tk, os⟩ :=
      fun q => B.iter prog w _ _ ⟨hp, g, d, tk, os⟩ _ h1 q
    wp_walk using q1
    refine wpAny_stack_any fun st => wpAny_pure ?_
    split
    · rename_i c _ _ _ _ _
      cases (c == Value.type "enumerate")
      · wp_walk using q1
        exact ⟨_, rfl, h⟩
      · wp_walk using q1
        exact ⟨_, rfl, h⟩
    · wp_walk using q1
      exact ⟨_, rfl, h⟩
theorem enum_begins1 {prog : Program} {w : World} {A : Around} {E : Value → Shared → Prop} {s : Shared} {v : Value} {o : Obj} {H : Heap → Prop} {Q : Value → Shared → Prop} (B : Begins v o H) (h1 : H s.heap)
    (h : ∀ h', IsEnum h' (s.heap.objs.size + 1) s.heap.objs.size 0 .none → h'.get? s.heap.objs.size = some o → h'.objs.size = s.heap.objs.size + 2 →
      (∀ b o, s.heap.get? b = some o → h'.get? b = some o) → Q (.ref (s.heap.objs.size + 1)) { s with heap := h' }) :
    wpAny (model prog w) A (call (.type "enumerate") [v]) Q E s := by
  refine callType_new F.called_enumerate (by decide) (F.typeCall_enumerate_1 _) (F.newCall_enumerate_1 _) (fun obj => F.args_object_init_2 obj _) F.entry_enumerate_new
    (meets_enumerate_newB1 B) ⟨h1, ?_⟩
  have hz : (s.heap.push o).objs.size = s.heap.objs.size + 1 := Heap.size_push ..
  show _ ∧ _
  rw [hz]
  have he : IsEnum ((s.heap.push o).push { cls := .type "enumerate", data := .fields #[.none, .bool false, .ref s.heap.objs.size, rawInt 0, .none, .none] }) (s.heap.objs.size + 1) s.heap.objs.size 0 .none := by
    have := Heap.get?_push_size (s.heap.push o) (o := { cls := .type "enumerate", data := .fields #[.none, .bool false, .ref s.heap.objs.size, rawInt 0, .none, .none] }) rfl
    rw [hz] at this; exact this
  exact ⟨⟨_, he, rfl⟩, h _ he (Heap.get?_push_of_some _ (Heap.get?_push_size _ B.free)) (by rw [Heap.size_push, hz]) fun b o x => Heap.get?_push_of_some _ (Heap.get?_push_of_some _ x)⟩
def JEnum (K : PySem.W.Frag) (k : Sk) (a : Addr) (vs : List V) : L2.It := JT vs.length (fun H => k.sq K H a vs) (fun i => (vs[i]?).map fun x => [.int (i : Int), x])
theorem turn_enumA {P : Program} {w : World} {K : PySem.W.Frag} {elts : List Expr} {kk : Nat} {tpos : Pos} (k : Sk) (a e it : Addr) (vs : List V) (h1 : e ≠ it) (h2 : a ≠ it) (h3 : a ≠ e) :
    Turn P w K (.Tuple elts kk tpos) (JEnum K k a vs) [e, it] e (fun i h => (∃ old, IsEnum h e it (0 + ((i : Nat) : Int)) old) ∧ k.iter h it a i) := by
  refine turn_ofN (wr := [e, it]) (by simp) (fun i h st b hb => ?_) (fun i h h' st kp => ?_) (fun b hb => hb) (fun A i s Q E st q => ?_) fun X hP hw hK hc pins s σ H I hh => ?_
  · obtain ⟨⟨old, he⟩, hi⟩ := st
    have e' : b = e ∨ b = it := by simpa using hb
    rcases e' with z | z
    · rw [z]; exact ⟨_, he, fun v q => nomatch q⟩
    · rw [z]; exact Sk.notcell (k := k) hi
  · obtain ⟨⟨old, he⟩, hi⟩ := st
    exact ⟨⟨old, kp e (by simp) _ he⟩, Sk.at (k := k) hi fun o q => kp it (by simp) o q⟩
  · obtain ⟨⟨old, he⟩, _⟩ := st
    exact wpAny_pyIter_enum he q
  · subst hP hw hK
    obtain ⟨its, rv, hs, hz, _⟩ := Sk.have I hh
    have D : Draws X.prog X.w X.A.in1 it [it, a] its.toArray.size (fun i v => its.toArray[i]? = some v) (fun i h => k.iter h it a i ∧ k.is h a its.toArray) := k.draws (A := X.A.in1) (show X.A.in1.handled = none from I.ok.hd hc) it a h2 its.toArray
    have hl : its.toArray.size = vs.length := by rw [List.size_toArray, rv.length]
    have G := GoesN.ofWalksT (elts := elts) (k := kk) (pos := tpos) (WalksT.enumFrom 0 D e h1 (by simp [h1, Ne.symm h3]) (by simp))
    rw [hl] at G
    refine ⟨_, _, _, G, fun i st => ⟨st.1, st.2, hs⟩, fun i h st => ⟨st.1, st.2.1⟩, fun i vals hi hp => ?_⟩
    obtain ⟨t, x, hx, rfl⟩ := hp
    have hx2 : its[i]? = some x := by simpa using hx
    have hv : vs[i]? = some vs[i] := List.getElem?_eq_getElem hi
    obtain ⟨u, hu, ru⟩ := rv.get hv
    rw [hu] at hx2
    cases hx2
    refine ⟨[.int (i : Int), vs[i]], by rw [hv]; rfl, ?_, by simp⟩
    have e0 : (0 + (i : Int)) = (i : Int) := by omega
    rw [e0]
    exact .cons ⟨t, rfl⟩ (.cons ru .nil)
def iEnumA (K : PySem.W.Frag) (ta : TA) : TI := fun σ H R => ta σ H fun vs H1 => ∃ (k : Sk) (a : Addr) (us : List V), vs = [.ref a] ∧ k.sq K H1 a us ∧ R (JEnum K k a us) H1
theorem pi_enumA {X : Cx} {e : Expr} {ta : TA} {p pos tpos : Pos} {elts : List Expr} {kk : Nat} (hg : Gl X "enumerate") (hm : X.mg "enumerate" = none) (ha : PA X [e] ta) (hst : starB e = false) :
    PI X (.Tuple elts kk tpos) (.Call (.Name "enumerate" p) [e] [] pos) (iEnumA X.K ta) := by
  refine ⟨fun pins s σ H R I h => ?_⟩
  refine Call_ (ld_blt I hg hm boot_enumerate (PyProof.Rows.callWith_type1 (thn (ha.run pos pins s σ H _ I h) fun us s1 ⟨vs, H1, I1, r1, q1⟩ => ?_) (star_no hst) rfl))
  · obtain ⟨k, a, ws, ex, hq, q⟩ := q1
    subst ex
    cases r1 with
    | cons r rr =>
      cases rr
      cases r
      obtain ⟨its, rv, hs, hz, hlt⟩ := Sk.have I1 hq
      refine enum_begins1 (k.begins a its.toArray) hs fun h' he hit hsz hk => wpAny_pyIter_enum he ?_
      have I2 : Inv X pins σ H1 { s1 with heap := h' } := I1.kept (t' := s1.toks) hk
      refine ⟨s1.heap.objs.size + 1, [s1.heap.objs.size + 1, s1.heap.objs.size], _, _, H1, rfl, I2, turn_enumA k a (s1.heap.objs.size + 1) s1.heap.objs.size ws (Nat.succ_ne_self _) (Nat.ne_of_lt hlt) (Nat.ne_of_lt (Nat.lt_succ_of_lt hlt)), ⟨⟨.none, ?_⟩, Sk.start hit⟩, fun b hb => ?_, q⟩
      · have e0 : (0 + ((0 : Nat) : Int)) = 0 := by omega
        rw [e0]
        exact he
      · have e' : b = s1.heap.objs.size + 1 ∨ b = s1.heap.objs.size := by simpa using hb
        have hle : s1.heap.objs.size ≤ b := by
          rcases e' with z | z
          · rw [z]; exact Nat.le_add_right _ _
          · rw [z]; exact Nat.le_refl _
        exact I1.fpOk hle (I1.hok.fresh hle)

/-! ### zip -/
def JZip (K : PySem.W.Frag) (k1 k2 : Sk) (a b : Addr) (vs ws : List V) : L2.It := JT (min vs.length ws.length) (fun H => k1.sq K H a vs ∧ k2.sq K H b ws) (fun i => match vs[i]?, ws[i]? with
  | some x, some y => some [x, y]
  | _, _ => none)
theorem turn_zipA {P : Program} {w : World} {K : PySem.W.Frag} {elts : List Expr} {kk : Nat} {tpos : Pos} (k1 k2 : Sk) {a b z TI TO i1 i2 : Addr} (vs ws : List V) (S : ZipSep2 z TI TO i1 i2 [i1, a] [i2, b]) (ha : a ≠ i1) (hb : b ≠ i2) :
    Turn P w K (.Tuple elts kk tpos) (JZip K k1 k2 a b vs ws) [z, TI, TO, i1, i2] z (fun i h => IsZip h z TI TO .none ∧ IsTupOf2 h TI (.ref i1) (.ref i2) ∧ (∃ a1 a2, IsTupOf2 h TO a1 a2) ∧ k1.iter h i1 a i ∧ k2.iter h i2 b i) := by
  refine turn_ofN (wr := [z, TO, i1, i2]) (by simp) (fun i h st c hc => ?_) (fun i h h' st kp => ?_) (fun c hc => ?_) (fun A i s Q E st q => ?_) fun X hP hw hK hc pins s σ H I hh => ?_
  · obtain ⟨hz, hTI, ⟨x, y, hTO⟩, h1, h2⟩ := st
    have e' : c = z ∨ c = TI ∨ c = TO ∨ c = i1 ∨ c = i2 := by simpa using hc
    rcases e' with q | q | q | q | q
    · rw [q]; exact ⟨_, hz, fun v q => nomatch q⟩
    · rw [q]; exact ⟨_, hTI, fun v q => nomatch q⟩
    · rw [q]; exact ⟨_, hTO, fun v q => nomatch q⟩
    · rw [q]; exact Sk.notcell (k := k1) h1
    · rw [q]; exact Sk.notcell (k := k2) h2
  · obtain ⟨hz, hTI, ⟨x, y, hTO⟩, h1, h2⟩ := st
    exact ⟨kp z (by simp) _ hz, kp TI (by simp) _ hTI, ⟨x, y, kp TO (by simp) _ hTO⟩, Sk.at (k := k1) h1 fun o q => kp i1 (by simp) o q, Sk.at (k := k2) h2 fun o q => kp i2 (by simp) o q⟩
  · have e' : c = z ∨ c = TO ∨ c = i1 ∨ c = i2 := by simpa using hc
    rcases e' with q | q | q | q <;> simp [q]
  · exact wpAny_pyIter_zip st.1 q
  · subst hP hw hK
    obtain ⟨hva, hwb⟩ := hh
    obtain ⟨its, rv, hs, hz, _⟩ := Sk.have I hva
    obtain ⟨its2, rv2, hs2, hz2, _⟩ := Sk.have I hwb
    have hn : X.A.in1.handled = none := I.ok.hd hc
    have D1 : Draws X.prog X.w X.A.in1 i1 [i1, a] its.toArray.size (fun i v => its.toArray[i]? = some v) (fun i h => k1.iter h i1 a i ∧ k1.is h a its.toArray) := k1.draws (A := X.A.in1) hn i1 a ha its.toArray
    have D2 : Draws X.prog X.w X.A.in1 i2 [i2, b] its2.toArray.size (fun i v => its2.toArray[i]? = some v) (fun i h => k2.iter h i2 b i ∧ k2.is h b its2.toArray) := k2.draws (A := X.A.in1) hn i2 b hb its2.toArray
    have hl : its.toArray.size = vs.length := by rw [List.size_toArray, rv.length]
    have hl2 : its2.toArray.size = ws.length := by rw [List.size_toArray, rv2.length]
    have G := GoesN.ofWalksT (elts := elts) (k := kk) (pos := tpos) (WalksT.zipD2 S D1 D2)
    rw [hl, hl2] at G
    refine ⟨_, _, _, G, fun i st => ⟨st.1, st.2.1, st.2.2.1, ⟨st.2.2.2.1, hs⟩, ⟨st.2.2.2.2, hs2⟩⟩, fun i h st => ⟨st.1, st.2.1, st.2.2.1, st.2.2.2.1.1, st.2.2.2.2.1⟩, fun i vals hi hp => ?_⟩
    obtain ⟨x, y, hx, hy, rfl⟩ := hp
    have i1' : i < vs.length := by omega
    have i2' : i < ws.length := by omega
    have hv : vs[i]? = some vs[i] := List.getElem?_eq_getElem i1'
    have hw : ws[i]? = some ws[i] := List.getElem?_eq_getElem i2'
    obtain ⟨u, hu, ru⟩ := rv.get hv
    obtain ⟨u2, hu2, ru2⟩ := rv2.get hw
    have hx2 : its[i]? = some x := by simpa using hx
    have hy2 : its2[i]? = some y := by simpa using hy
    rw [hu] at hx2
    rw [hu2] at hy2
    cases hx2
    cases hy2
    exact ⟨[vs[i], ws[i]], by rw [hv, hw], .cons ru (.cons ru2 .nil), by simp⟩
def iZipB (K : PySem.W.Frag) (ta : TA) : TI := fun σ H R => ta σ H fun us H1 => ∃ (k1 k2 : Sk) (a b : Addr) (vs ws : List V), us = [.ref a, .ref b] ∧ k1.sq K H1 a vs ∧ k2.sq K H1 b ws ∧ R (JZip K k1 k2 a b vs ws) H1
theorem pi_zipB {X : Cx} {e e2 : Expr} {ta : TA} {p pos tpos : Pos} {elts : List Expr} {kk : Nat} (hg : Gl X "zip") (hm : X.mg "zip" = none) (ha : PA X [e, e2] ta) (hst : starB e = false) (hst2 : starB e2 = false) :
    PI X (.Tuple elts kk tpos) (.Call (.Name "zip" p) [e, e2] [] pos) (iZipB X.K ta) := by
  refine ⟨fun pins s σ H R I h => ?_⟩
  refine Call_ (ld_blt I hg hm PyProof.Rows.boot_zip (PyProof.Rows.callWith_type1 (thn (ha.run pos pins s σ H _ I h) fun us s1 ⟨vs, H1, I1, r1, q1⟩ => ?_) (star_no hst) (by rw [star_no hst2]; rfl)))
  obtain ⟨k1, k2, a, b, xs, ys, ex, hqx, hqy, q⟩ := q1
  subst ex
  cases r1 with
  | cons r rr =>
    cases rr with
    | cons r' rr =>
      cases rr
      cases r
      cases r'
      obtain ⟨its, rv, hs, hz, hlt⟩ := Sk.have I1 hqx
      obtain ⟨its2, rv2, hs2, hz2, hlt2⟩ := Sk.have I1 hqy
      refine zip_begins2 (k1.begins a its.toArray) (k2.begins b its2.toArray) hs hs2 fun h' hz hTI hTO h1 h2 hsz hk => wpAny_pyIter_zip hz ?_
      have I2 : Inv X pins σ H1 { s1 with heap := h' } := I1.kept (t' := s1.toks) hk
      have S : ZipSep2 (s1.heap.objs.size + 4) (s1.heap.objs.size + 2) (s1.heap.objs.size + 3) s1.heap.objs.size (s1.heap.objs.size + 1) [s1.heap.objs.size, a] [s1.heap.objs.size + 1, b] := zip_sep2 (by simpa using hlt) (by simpa using hlt2)
      refine ⟨s1.heap.objs.size + 4, [s1.heap.objs.size + 4, s1.heap.objs.size + 2, s1.heap.objs.size + 3, s1.heap.objs.size, s1.heap.objs.size + 1], _, _, H1, rfl, I2, turn_zipA k1 k2 xs ys S (Nat.ne_of_lt hlt) (Nat.ne_of_lt (Nat.lt_succ_of_lt hlt2)), ⟨hz, hTI, ⟨_, _, hTO⟩, Sk.start h1, Sk.start h2⟩, fun c hcm => ?_, q⟩
      have e' : c = s1.heap.objs.size + 4 ∨ c = s1.heap.objs.size + 2 ∨ c = s1.heap.objs.size + 3 ∨ c = s1.heap.objs.size ∨ c = s1.heap.objs.size + 1 := by simpa using hcm
      have hle : s1.heap.objs.size ≤ c := by
        rcases e' with z | z | z | z | z
        · rw [z]; exact Nat.le_add_right _ _
        · rw [z]; exact Nat.le_add_right _ _
        · rw [z]; exact Nat.le_add_right _ _
        · rw [z]; exact Nat.le_refl _
        · rw [z]; exact Nat.le_add_right _ _
      exact I1.fpOk hle (I1.hok.fresh hle)
def JZip3 (K : PySem.W.Frag) (k1 k2 k3 : Sk) (a b d : Addr) (vs ws us : List V) : L2.It := JT (min (min vs.length ws.length) us.length) (fun H => k1.sq K H a vs ∧ k2.sq K H b ws ∧ k3.sq K H d us) (fun i => match vs[i]?, ws[i]?, us[i]? with
  | some x, some y, some u => some [x, y, u]
  | _, _, _ => none)
theorem turn_zip3A {P : Program} {w : World} {K : PySem.W.Frag} {elts : List Expr} {kk : Nat} {tpos : Pos} (k1 k2 k3 : Sk) {a b d z TI TO i1 i2 i3 : Addr} (vs ws us : List V) (S : ZipSep3 z TI TO i1 i2 i3 [i1, a] [i2, b] [i3, d]) (ha : a ≠ i1) (hb : b ≠ i2) (hd : d ≠ i3) :
    Turn P w K (.Tuple elts kk tpos) (JZip3 K k1 k2 k3 a b d vs ws us) [z, TI, TO, i1, i2, i3] z (fun i h => IsZip h z TI TO .none ∧ IsTupOf3 h TI (.ref i1) (.ref i2) (.ref i3) ∧ (∃ a1 a2 a3, IsTupOf3 h TO a1 a2 a3) ∧ k1.iter h i1 a i ∧ k2.iter h i2 b i ∧ k3.iter h i3 d i) := by
  refine turn_ofN (wr := [z, TO, i1, i2, i3]) (by simp) (fun i h st c hc => ?_) (fun i h h' st kp => ?_) (fun c hc => ?_) (fun A i s Q E st q => ?_) fun X hP hw hK hc pins s σ H I hh => ?_
  · obtain ⟨hz, hTI, ⟨x, y, u, hTO⟩, h1, h2, h3⟩ := st
    have e' : c = z ∨ c = TI ∨ c = TO ∨ c = i1 ∨ c = i2 ∨ c = i3 := by simpa using hc
    rcases e' with q | q | q | q | q | q
    · rw [q]; exact ⟨_, hz, fun v q => nomatch q⟩
    · rw [q]; exact ⟨_, hTI, fun v q => nomatch q⟩
    · rw [q]; exact ⟨_, hTO, fun v q => nomatch q⟩
    · rw [q]; exact Sk.notcell (k := k1) h1
    · rw [q]; exact Sk.notcell (k := k2) h2
    · rw [q]; exact Sk.notcell (k := k3) h3
  · obtain ⟨hz, hTI, ⟨x, y, u, hTO⟩, h1, h2, h3⟩ := st
    exact ⟨kp z (by simp) _ hz, kp TI (by simp) _ hTI, ⟨x, y, u, kp TO (by simp) _ hTO⟩, Sk.at (k := k1) h1 fun o q => kp i1 (by simp) o q, Sk.at (k := k2) h2 fun o q => kp i2 (by simp) o q, Sk.at (k := k3) h3 fun o q => kp i3 (by simp) o q⟩
  · have e' : c = z ∨ c = TO ∨ c = i1 ∨ c = i2 ∨ c = i3 := by simpa using hc
    rcases e' with q | q | q | q | q <;> simp [q]
  · exact wpAny_pyIter_zip st.1 q
  · subst hP hw hK
    obtain ⟨hva, hwb, hud⟩ := hh
    obtain ⟨its, rv, hs, hz, _⟩ := Sk.have I hva
    obtain ⟨its2, rv2, hs2, hz2, _⟩ := Sk.have I hwb
    obtain ⟨its3, rv3, hs3, hz3, _⟩ := Sk.have I hud
    have hn : X.A.in1.handled = none := I.ok.hd hc
    have D1 : Draws X.prog X.w X.A.in1 i1 [i1, a] its.toArray.size (fun i v => its.toArray[i]? = some v) (fun i h => k1.iter h i1 a i ∧ k1.is h a its.toArray) := k1.draws (A := X.A.in1) hn i1 a ha its.toArray
    have D2 : Draws X.prog X.w X.A.in1 i2 [i2, b] its2.toArray.size (fun i v => its2.toArray[i]? = some v) (fun i h => k2.iter h i2 b i ∧ k2.is h b its2.toArray) := k2.draws (A := X.A.in1) hn i2 b hb its2.toArray
    have D3 : Draws X.prog X.w X.A.in1 i3 [i3, d] its3.toArray.size (fun i v => its3.toArray[i]? = some v) (fun i h => k3.iter h i3 d i ∧ k3.is h d its3.toArray) := k3.draws (A := X.A.in1) hn i3 d hd its3.toArray
    have hl : its.toArray.size = vs.length := by rw [List.size_toArray, rv.length]
    have hl2 : its2.toArray.size = ws.length := by rw [List.size_toArray, rv2.length]
    have hl3 : its3.toArray.size = us.length := by rw [List.size_toArray, rv3.length]
    have G := GoesN.ofWalksT (elts := elts) (k := kk) (pos := tpos) (WalksT.zipD3 S D1 D2 D3)
    rw [hl, hl2, hl3] at G
    refine ⟨_, _, _, G, fun i st => ⟨st.1, st.2.1, st.2.2.1, ⟨st.2.2.2.1, hs⟩, ⟨st.2.2.2.2.1, hs2⟩, ⟨st.2.2.2.2.2, hs3⟩⟩, fun i h st => ⟨st.1, st.2.1, st.2.2.1, st.2.2.2.1.1, st.2.2.2.2.1.1, st.2.2.2.2.2.1⟩, fun i vals hi hp => ?_⟩
    obtain ⟨x, y, u, hx, hy, hu, rfl⟩ := hp
    have i1' : i < vs.length := by omega
    have i2' : i < ws.length := by omega
    have i3' : i < us.length := by omega
    have hv : vs[i]? = some vs[i] := List.getElem?_eq_getElem i1'
    have hw : ws[i]? = some ws[i] := List.getElem?_eq_getElem i2'
    have hu' : us[i]? = some us[i] := List.getElem?_eq_getElem i3'
    obtain ⟨u1, hu1, ru⟩ := rv.get hv
    obtain ⟨u2, hu2, ru2⟩ := rv2.get hw
    obtain ⟨u3, hu3, ru3⟩ := rv3.get hu'
    have hx2 : its[i]? = some x := by simpa using hx
    have hy2 : its2[i]? = some y := by simpa using hy
    have hu2' : its3[i]? = some u := by simpa using hu
    rw [hu1] at hx2
    rw [hu2] at hy2
    rw [hu3] at hu2'
    cases hx2
    cases hy2
    cases hu2'
    exact ⟨[vs[i], ws[i], us[i]], by rw [hv, hw, hu'], .cons ru (.cons ru2 (.cons ru3 .nil)), by simp⟩
def iZip3B (K : PySem.W.Frag) (ta : TA) : TI := fun σ H R => ta σ H fun rs H1 => ∃ (k1 k2 k3 : Sk) (a b d : Addr) (vs ws us : List V), rs = [.ref a, .ref b, .ref d] ∧ k1.sq K H1 a vs ∧ k2.sq K H1 b ws ∧ k3.sq K H1 d us ∧ R (JZip3 K k1 k2 k3 a b d vs ws us) H1
theorem pi_zip3B {X : Cx} {e e2 e3 : Expr} {ta : TA} {p pos tpos : Pos} {elts : List Expr} {kk : Nat} (hg : Gl X "zip") (hm : X.mg "zip" = none) (ha : PA X [e, e2, e3] ta) (hst : starB e = false) (hst2 : starB e2 = false) (hst3 : starB e3 = false) :
    PI X (.Tuple elts kk tpos) (.Call (.Name "zip" p) [e, e2, e3] [] pos) (iZip3B X.K ta) := by
  refine ⟨fun pins s σ H R I h => ?_⟩
  refine Call_ (ld_blt I hg hm PyProof.Rows.boot_zip (PyProof.Rows.callWith_type1 (thn (ha.run pos pins s σ H _ I h) fun us s1 ⟨vs, H1, I1, r1, q1⟩ => ?_) (star_no hst) (by rw [star_no hst2, star_no hst3]; rfl)))
  obtain ⟨k1, k2, k3, a, b, d, xs, ys, zs, ex, hqx, hqy, hqz, q⟩ := q1
  subst ex
  cases r1 with
  | cons r rr =>
    cases rr with
    | cons r' rr =>
      cases rr with
      | cons r3 rr =>
      cases rr
      cases r
      cases r'
      cases r3
      obtain ⟨its, rv, hs, hz, hlt⟩ := Sk.have I1 hqx
      obtain ⟨its2, rv2, hs2, hz2, hlt2⟩ := Sk.have I1 hqy
      obtain ⟨its3, rv3, hs3, hz3, hlt3⟩ := Sk.have I1 hqz
      refine zip_begins3 (k1.begins a its.toArray) (k2.begins b its2.toArray) (k3.begins d its3.toArray) hs hs2 hs3 fun h' hz hTI hTO h1 h2 h3 hsz hk => wpAny_pyIter_zip hz ?_
      have I2 : Inv X pins σ H1 { s1 with heap := h' } := I1.kept (t' := s1.toks) hk
      have S : ZipSep3 (s1.heap.objs.size + 5) (s1.heap.objs.size + 3) (s1.heap.objs.size + 4) s1.heap.objs.size (s1.heap.objs.size + 1) (s1.heap.objs.size + 2) [s1.heap.objs.size, a] [s1.heap.objs.size + 1, b] [s1.heap.objs.size + 2, d] := zip_sep3 (by simpa using hlt) (by simpa using hlt2) (by simpa using hlt3)
      refine ⟨s1.heap.objs.size + 5, [s1.heap.objs.size + 5, s1.heap.objs.size + 3, s1.heap.objs.size + 4, s1.heap.objs.size, s1.heap.objs.size + 1, s1.heap.objs.size + 2], _, _, H1, rfl, I2, turn_zip3A k1 k2 k3 xs ys zs S (Nat.ne_of_lt hlt) (Nat.ne_of_lt (Nat.lt_succ_of_lt hlt2)) (Nat.ne_of_lt (Nat.lt_succ_of_lt (Nat.lt_succ_of_lt hlt3))), ⟨hz, hTI, ⟨_, _, _, hTO⟩, Sk.start h1, Sk.start h2, Sk.start h3⟩, fun c hcm => ?_, q⟩
      have e' : c = s1.heap.objs.size + 5 ∨ c = s1.heap.objs.size + 3 ∨ c = s1.heap.objs.size + 4 ∨ c = s1.heap.objs.size ∨ c = s1.heap.objs.size + 1 ∨ c = s1.heap.objs.size + 2 := by simpa using hcm
      have hle : s1.heap.objs.size ≤ c := by
        rcases e' with z | z | z | z | z | z
        · rw [z]; exact Nat.le_add_right _ _
        · rw [z]; exact Nat.le_add_right _ _
        · rw [z]; exact Nat.le_add_right _ _
        · rw [z]; exact Nat.le_refl _
        · rw [z]; exact Nat.le_add_right _ _
        · rw [z]; exact Nat.le_add_right _ _
      exact I1.fpOk hle (I1.hok.fresh hle)
end Wt
/-! Itx: the small language's iterables and list comprehensions. -/
namespace Wt
open PySem PySem.Spec PyProof.Rows L2

/-- what an iterator leans on stands in g2, H2 as in g1 -/
structure Stb (g1 g2 : Gh) (H2 : Hp) (pk : List (Addr × List V)) : Prop where
  le : Le g1 g2
  sub : ∀ a o, g2.Hv a = some o → H2 a = some o
  pk : ∀ q ∈ pk, H2 q.1 = some (.lst q.2)
/-- J yields the values xs -/
structure ItOk (L : Pl) (g1 : Gh) (pk : List (Addr × List V)) (J : L2.It) (xs : List PV) : Prop where
  go : ∀ i g2 H2, i < xs.length → Stb g1 g2 H2 pk → J.go i H2
  stop : ∀ g2 H2, Stb g1 g2 H2 pk → J.stop xs.length H2
  yld : ∀ i g2 H2 v H3 x S, Stb g1 g2 H2 pk → Sim L.K L.fa g2 H2 S → xs[i]? = some x → J.yld i H2 v H3 → ∃ g3, Ext g2 H2 g3 H3 ∧ Sim L.K L.fa g3 H3 S ∧ Rep L.K L.fa g3 v x
def RIt (L : Pl) (m : Bool) : Hp → Gh → Hp → L2.It → List PV → Prop := fun _ g1 H1 J xs => ∃ pk, (m = false → pk = []) ∧ (∀ q ∈ pk, H1 q.1 = some (.lst q.2) ∧ q.1 ∉ g1.al) ∧ ItOk L g1 pk J xs ∧ xs.length ≤ sizeLine
section
variable {X : Cx} {L : Pl} {Z : XK} {α β γ δ : Type} {T : Tb} {c : Cc} {C : Cn} {k : Nat}
/-- a list or a tuple as a source -/
structure Src (L : Pl) (m : Bool) (g1 : Gh) (H1 : Hp) (k : Sk) (p : Addr) (vs : List V) (xs : List PV) (pk : List (Addr × List V)) : Prop where
  rep : Reps L.K L.fa g1 vs xs
  len : vs.length ≤ sizeLine
  pkm : m = false → pk = []
  pks : ∀ q ∈ pk, H1 q.1 = some (.lst q.2) ∧ q.1 ∉ g1.al
  st : ∀ g2 H2 pk', (∀ q ∈ pk, q ∈ pk') → Stb g1 g2 H2 pk' → k.sq L.K H2 p vs
theorem src_of {m : Bool} {H0 : Hp} {g1 : Gh} {H1 : Hp} {S : Sto} {v : V} {x : PV} {xs : List PV} (rp : RM L m H0 g1 H1 v x) (sm : Sim L.K L.fa g1 H1 S) (e : items x = some xs) : ∃ k p vs pk, v = .ref p ∧ Src L m g1 H1 k p vs xs pk := by
  have key : Rep L.K L.fa g1 v x → ∃ k p vs pk, v = .ref p ∧ Src L m g1 H1 k p vs xs pk := by
    intro h
    cases h with
    | tup h1 h2 h3 =>
      cases e
      exact ⟨.t, _, _, [], rfl, h3, h2, fun _ => rfl, by simp, fun g2 H2 pk' _ s => sqTMono s.sub (sqTMono s.le.hv h1)⟩
    | lst h1 h2 h3 =>
      cases e
      exact ⟨.l, _, _, [], rfl, h3, h2, fun _ => rfl, by simp, fun g2 H2 pk' _ s => .of (s.sub _ _ (s.le.hv _ _ h1))⟩
    | frz h1 h2 h3 =>
      cases e
      exact ⟨.l, _, _, [], rfl, h3, h2, fun _ => rfl, by simp, fun g2 H2 pk' _ s => sqLMono s.sub (sqLMono s.le.hv h1)⟩
    | _ => cases e
  cases m with
  | false => exact key rp
  | true =>
    rcases (show RepR L g1 H1 v x from rp) with h | ⟨p, vs, ys, rfl, rfl, h3, h4, h5, h6⟩
    · exact key h
    · cases e
      exact ⟨.l, p, vs, [(p, vs)], rfl, h5, h4, (by simp), by simpa using ⟨h3, h6⟩, fun g2 H2 pk' hs s => .of (s.pk (p, vs) (hs _ (by simp)))⟩
theorem Src.now {m : Bool} {g1 : Gh} {H1 : Hp} {S : Sto} {k : Sk} {p : Addr} {vs : List V} {xs : List PV} {pk : List (Addr × List V)} (s : Src L m g1 H1 k p vs xs pk) (sm : Sim L.K L.fa g1 H1 S) : k.sq L.K H1 p vs :=
  s.st g1 H1 pk (fun _ h => h) ⟨⟨fun _ _ h => h, ⟨[], by simp⟩⟩, sm.sub, fun q hq => (s.pks q hq).1⟩
theorem Src.step {m : Bool} {g1 g2 : Gh} {H1 H2 : Hp} {k : Sk} {p : Addr} {vs : List V} {xs : List PV} {pk : List (Addr × List V)} (s : Src L m g1 H1 k p vs xs pk) (e : Ext g1 H1 g2 H2) : Src L m g2 H2 k p vs xs pk where
  rep := s.rep.mono e.le
  len := s.len
  pkm := s.pkm
  pks := fun q hq => by
    obtain ⟨h1, h2⟩ := s.pks q hq
    refine ⟨e.keep _ _ h1 h2, fun hm => ?_⟩
    rcases e.newA _ hm with z | z
    · exact h2 z
    · rw [z] at h1; cases h1
  st := fun g3 H3 pk' hs st => s.st g3 H3 pk' hs ⟨⟨fun a o h => st.le.hv a o (e.hv a o h), by
    obtain ⟨m1, e1⟩ := e.al
    obtain ⟨m2, e2⟩ := st.le.al
    exact ⟨m1 ++ m2, by rw [e2, e1, List.append_assoc]⟩⟩, st.sub, st.pk⟩
/-- an iterator of new tuples -/
theorem itOk_JT {g1 : Gh} {pk : List (Addr × List V)} {n : Nat} {has : Hp → Prop} {f : Nat → Option (List V)} {xs : List PV} (hn : xs.length = n) (hh : ∀ g2 H2, Stb g1 g2 H2 pk → has H2)
    (hf : ∀ i ys, i < n → f i = some ys → ∃ zs, xs[i]? = some (.tup zs) ∧ Reps L.K L.fa g1 ys zs ∧ ys.length ≤ 1000) : ItOk L g1 pk (JT n has f) xs where
  go := fun i g2 H2 hi s => ⟨hn ▸ hi, hh g2 H2 s⟩
  stop := fun g2 H2 s => ⟨hn, hh g2 H2 s⟩
  yld := fun i g2 H2 v H3 x S s sm hx y => by
    obtain ⟨T, ys, rfl, hT, rfl, hy⟩ := y
    have hi : i < n := by
      have := (List.getElem?_eq_some_iff.mp hx).1
      omega
    obtain ⟨zs, e1, r, l⟩ := hf i ys hi hy
    rw [hx] at e1
    cases e1
    have hg := sm.hvNone hT
    refine ⟨g2.pub T (.tup ys), (Ext.new hT).pub hT hg, (sm.new hT).pub upd_same hg (sm.alNot hT), .tup (.of Gh.pub_at) (by rw [sizeLine_eq]; omega) ?_⟩
    exact (r.mono s.le).mono (Gh.pub_le hg)
theorem itOk_list {g1 : Gh} {H1 : Hp} {m : Bool} {p : Addr} {vs : List V} {xs : List PV} {pk : List (Addr × List V)} (s : Src L m g1 H1 .l p vs xs pk) : ItOk L g1 pk (Itl L.K p) xs where
  go := fun i g2 H2 hi st => by
    have h := s.st g2 H2 pk (fun _ h => h) st
    have hi2 : i < vs.length := by rw [s.rep.length]; exact hi
    exact ⟨vs, vs[i], h, List.getElem?_eq_getElem hi2⟩
  stop := fun g2 H2 st => ⟨vs, s.st g2 H2 pk (fun _ h => h) st, by rw [s.rep.length]; exact Nat.le_refl _⟩
  yld := fun i g2 H2 v H3 x S st sm hx y => by
    obtain ⟨rfl, hy⟩ := y
    have hv := hy vs (s.st g2 H3 pk (fun _ h => h) st)
    obtain ⟨w, hw, r⟩ := s.rep.get hx
    rw [hv] at hw
    cases hw
    exact ⟨g2, .refl _ _, sm, r.mono st.le⟩
theorem itOk_tuple {g1 : Gh} {H1 : Hp} {m : Bool} {p : Addr} {vs : List V} {xs : List PV} {pk : List (Addr × List V)} (s : Src L m g1 H1 .t p vs xs pk) : ItOk L g1 pk (Itt L.K p) xs where
  go := fun i g2 H2 hi st => by
    have h := s.st g2 H2 pk (fun _ h => h) st
    have hi2 : i < vs.length := by rw [s.rep.length]; exact hi
    exact ⟨vs, vs[i], h, List.getElem?_eq_getElem hi2⟩
  stop := fun g2 H2 st => ⟨vs, s.st g2 H2 pk (fun _ h => h) st, by rw [s.rep.length]; exact Nat.le_refl _⟩
  yld := fun i g2 H2 v H3 x S st sm hx y => by
    obtain ⟨rfl, hy⟩ := y
    have hv := hy vs (s.st g2 H3 pk (fun _ h => h) st)
    obtain ⟨w, hw, r⟩ := s.rep.get hx
    rw [hv] at hw
    cases hw
    exact ⟨g2, .refl _ _, sm, r.mono st.le⟩
def iSeq (K : PySem.W.Frag) (te : TE) : TI := fun σ H R => te σ H fun x H1 => ∃ a, x = .ref a ∧ ((∃ xs, SqL K H1 a xs ∧ R (Itl K a) H1) ∨ ∃ xs, SqT K H1 a xs ∧ R (Itt K a) H1)
theorem pi_seq {tg e : Expr} {te : TE} (h : PE X e te) : PI X tg e (iSeq X.K te) := by
  refine ⟨fun pins s σ H R I hw => ?_⟩
  refine thn (h.run pins s σ H _ I hw) fun v s1 ⟨x, H1, I1, r1, a, ex, q⟩ => ?_
  subst ex
  obtain rfl : v = Value.ref a := r1
  have fresh : ∀ (b : Addr), b ∈ [s1.heap.objs.size] → FpOk X pins H1 b := fun b hb => by
    obtain rfl : b = s1.heap.objs.size := by simpa using hb
    exact I1.fpOk (Nat.le_refl _) (I1.hok.fresh (Nat.le_refl _))
  rcases q with ⟨xs, hq, q⟩ | ⟨xs, hq, q⟩
  · obtain ⟨its, rv, p, hz⟩ := I1.list hq
    refine wpAny_pyIter_list p.isList ?_
    exact ⟨s1.heap.objs.size, [s1.heap.objs.size], _, _, H1, rfl, I1.kept (t' := s1.toks) fun b o e => Heap.get?_push_of_some _ e, turn_list a _, ⟨_, Heap.get?_push_size _ rfl, rfl, rfl⟩, fresh, q⟩
  · obtain ⟨its, rv, p, hz⟩ := I1.tuple hq
    refine wpAny_pyIter_tuple (show s1.heap.IsTuple a its.toArray from p) ?_
    exact ⟨s1.heap.objs.size, [s1.heap.objs.size], _, _, H1, rfl, I1.kept (t' := s1.toks) fun b o e => Heap.get?_push_of_some _ e, turn_tuple a _, ⟨_, Heap.get?_push_size _ rfl, rfl, rfl⟩, fresh, q⟩
theorem i_seq (G : Good X L T c C k Z) {m : Bool} {e : E} {tg ex : Expr} (h : PE X ex (denM L (RM L m) Z (ev c e))) : PI X tg ex (denM L (RIt L m) Z (evI c (.seq e))) := by
  refine (pi_seq h).imp fun σ H R ⟨g0, H0, g, env, S, fr, o⟩ => ?_
  rw [evI] at o
  refine seqM fr o fun r v S1 H1 g1 fr1 ex rp o1 => ?_
  obtain ⟨xs, e1, o2⟩ := o1.lift1
  obtain ⟨kd, p, vs, pk, rfl, s⟩ := src_of rp fr1.sim e1
  have hn := s.now fr1.sim
  have hl : xs.length ≤ sizeLine := by rw [← s.rep.length]; exact s.len
  refine ⟨p, rfl, ?_⟩
  rw [G.K]
  cases kd with
  | l => exact .inl ⟨vs, hn, o2 _ H1 g1 (.refl _ _) fr1.sim ⟨pk, s.pkm, s.pks, itOk_list s, hl⟩⟩
  | t => exact .inr ⟨vs, hn, o2 _ H1 g1 (.refl _ _) fr1.sim ⟨pk, s.pkm, s.pks, itOk_tuple s, hl⟩⟩
theorem itOk_rng {g1 : Gh} {lo : Int} {n : Nat} : ItOk L g1 [] (Itr lo n) (rngE lo n) where
  go := fun i g2 H2 hi s => by
    show i < n
    simpa [rngE] using hi
  stop := fun g2 H2 s => by
    show n ≤ (rngE lo n).length
    simp [rngE]
  yld := fun i g2 H2 v H3 x S s sm hx y => by
    obtain ⟨rfl, rfl⟩ := y
    have e : x = .int (lo + (i : Int)) := by
      unfold rngE at hx
      rw [List.getElem?_map] at hx
      cases h : (List.range n)[i]? with
      | none => rw [h] at hx; cases hx
      | some j =>
        rw [h] at hx
        have := (List.getElem?_eq_some_iff.mp h)
        obtain ⟨h1, h2⟩ := this
        rw [List.getElem_range] at h2
        subst h2
        cases hx
        rfl
    subst e
    exact ⟨g2, .refl _ _, sm, .int _⟩
theorem itOk_rng3 {g1 : Gh} {lo hi : Int} : ItOk L g1 [] (Itc lo (-1) (lo - hi).toNat) (rng3E lo hi) where
  go := fun i g2 H2 h s => by
    show i < (lo - hi).toNat
    simpa [rng3E] using h
  stop := fun g2 H2 s => by
    show (lo - hi).toNat ≤ (rng3E lo hi).length
    simp [rng3E]
  yld := fun i g2 H2 v H3 x S s sm hx y => by
    obtain ⟨rfl, rfl⟩ := y
    have e : x = .int (lo + (i : Int) * (-1)) := by
      unfold rng3E at hx
      rw [List.getElem?_map] at hx
      cases h : (List.range (lo - hi).toNat)[i]? with
      | none => rw [h] at hx; cases hx
      | some j =>
        rw [h] at hx
        obtain ⟨h1, h2⟩ := List.getElem?_eq_some_iff.mp h
        rw [List.getElem_range] at h2
        subst h2
        cases hx
        rfl
    subst e
    exact ⟨g2, .refl _ _, sm, .int _⟩
theorem rngM_ok {g : Gh} {H : Hp} {S : Sto} {lo hi : Int} {R : Gh → Hp → β → List PV → Prop} {Q : β → Hp → Prop} (o : OutG L R Z g H ((rngM lo hi).go S) Q) : (-1000000 ≤ lo ∧ lo ≤ 1000000 ∧ -1000000 ≤ hi ∧ hi ≤ 1000000) ∧ OutG L R Z g H (.ok (rngE lo (hi - lo).toNat) S) Q := by
  unfold rngM at o
  split at o
  · exact ⟨by assumption, o⟩
  · exact o.elim
theorem asI_ok {r : PV} {g : Gh} {H : Hp} {S : Sto} {f : Int → M γ} {R2 : Gh → Hp → δ → γ → Prop} {Q2 : δ → Hp → Prop} (o : OutG L R2 Z g H ((lift (asI r) >>= f).go S) Q2) : ∃ i, r = .int i ∧ OutG L R2 Z g H ((f i).go S) Q2 := by
  obtain ⟨y, e, o2⟩ := o.lift
  cases r <;> simp only [asI] at e <;> first
    | (cases e; done)
    | skip
  cases e
  exact ⟨_, rfl, o2⟩
theorem pa1 {m : Bool} {e : E} {ex : Expr} (h : PE X ex (denM L (RM L m) Z (ev c e))) (hs : starB ex = false) : PA X [ex] (denM L (fun H0 g H vs x => ∃ v, vs = [v] ∧ RM L m H0 g H v x) Z (ev c e)) :=
  (pa_cons h pa_nil (star_no hs)).imp fun σ H Q ⟨g0, H0, g, env, S, fr, o⟩ => by
    refine ⟨g0, H0, g, env, S, fr, ?_⟩
    cases e1 : (ev c e env).go S with
    | ok r S' =>
      rw [e1] at o
      exact fun v H' g' ex1 sm rp => o [v] H' g' ex1 sm ⟨v, rfl, rp⟩
    | err x S' => rw [e1] at o; exact o
    | bad => rw [e1] at o; exact o
theorem i_rng1 (G : Good X L T c C k Z) {m : Bool} {a : E} {tg ea : Expr} {p pos : Pos} (hg : glB C "range" = true) (h : PE X ea (denM L (RM L false) Z (ev c a))) (hs : starB ea = false) : PI X tg (.Call (.Name "range" p) [ea] [] pos) (denM L (RIt L m) Z (evI c (.rng1 a))) := by
  obtain ⟨h1, h2⟩ := glB_ok G hg
  refine (pi_range1 h1 (G.blt _ (by decide)) (pa1 h hs) (by rw [star_no hs] <;> rfl)).imp fun σ H R ⟨g0, H0, g, env, S, fr, o⟩ => ?_
  rw [evI] at o
  refine seqM fr o fun r vs S1 H1 g1 fr1 ex rp o1 => ?_
  obtain ⟨v, rfl, rp⟩ := rp
  obtain ⟨n, rfl, o2⟩ := asI_ok o1
  obtain ⟨hb, o3⟩ := rngM_ok o2
  cases (show Rep L.K L.fa g1 v (.int n) from rp)
  refine ⟨n, rfl, by omega, by omega, ?_⟩
  have e : (n - 0).toNat = n.toNat := by omega
  rw [e] at o3
  refine o3 _ H1 g1 (.refl _ _) fr1.sim ⟨[], fun _ => rfl, by simp, itOk_rng, ?_⟩
  simp only [rngE, List.length_map, List.length_range]
  rw [sizeLine_eq]
  omega
theorem pa2 {m : Bool} {a b : E} {ea eb : Expr} (h : PE X ea (denM L (RM L m) Z (ev c a))) (h' : PE X eb (denM L (RM L m) Z (ev c b))) (hs : starB ea = false) (hs' : starB eb = false) :
    PA X [ea, eb] (denM L (fun H0 g H vs x => ∃ v w, vs = [v, w] ∧ (∃ H1, RM L m H1 g H v x.1) ∧ ∃ H1, RM L m H1 g H w x.2) Z (fun env => ev c a env >>= fun x => ev c b env >>= fun y => Pure.pure (x, y))) :=
  (pa_cons h (pa_cons h' pa_nil (star_no hs')) (star_no hs)).imp fun σ H Q ⟨g0, H0, g, env, S, fr, o⟩ => by
    refine seqM fr o fun r v S1 H1 g1 fr1 ex rp o1 => ?_
    refine seqM fr1 o1 fun r2 v2 S2 H2 g2 fr2 ex2 rp2 o2 => ?_
    refine o2 [v, v2] H2 g2 (.refl _ _) fr2.sim ⟨v, v2, rfl, ⟨H, ?_⟩, ⟨H1, rp2⟩⟩
    cases m with
    | true => exact RepR.step (show RepR L g1 H1 v r from rp) ex2
    | false => exact Rep.mono ex2.le (show Rep L.K L.fa g1 v r from rp)
theorem i_rng2 (G : Good X L T c C k Z) {m : Bool} {a b : E} {tg ea eb : Expr} {p pos : Pos} (hg : glB C "range" = true) (h : PE X ea (denM L (RM L false) Z (ev c a))) (h' : PE X eb (denM L (RM L false) Z (ev c b))) (hs : starB ea = false) (hs' : starB eb = false) :
    PI X tg (.Call (.Name "range" p) [ea, eb] [] pos) (denM L (RIt L m) Z (evI c (.rng2 a b))) := by
  obtain ⟨h1, h2⟩ := glB_ok G hg
  refine (pi_range2 h1 (G.blt _ (by decide)) (pa2 h h' hs hs') (by rw [star_no hs, star_no hs'] <;> rfl) (by rw [star_no hs'] <;> rfl)).imp fun σ H R ⟨g0, H0, g, env, S, fr, o⟩ => ?_
  have e0 : evI c (.rng2 a b) env = (ev c a env >>= fun x => ev c b env >>= fun y => Pure.pure (x, y)) >>= fun q => lift (asI q.1) >>= fun lo => lift (asI q.2) >>= fun hi => rngM lo hi := by
    rw [evI, bind_assoc]
    congr 1
    funext x
    rw [bind_assoc]
    rfl
  rw [e0] at o
  refine seqM (m := fun env => ev c a env >>= fun x => ev c b env >>= fun y => Pure.pure (x, y)) fr o fun r vs S1 H1 g1 fr1 ex rp o1 => ?_
  obtain ⟨v, w, rfl, ⟨_, rp⟩, ⟨_, rp2⟩⟩ := rp
  obtain ⟨q1, q2⟩ := r
  obtain ⟨n, e1, o2⟩ := asI_ok o1
  obtain ⟨n2, e2, o3⟩ := asI_ok o2
  dsimp only at e1 e2
  subst e1 e2
  obtain ⟨hb, o4⟩ := rngM_ok o3
  cases (show Rep L.K L.fa g1 v (.int n) from rp)
  cases (show Rep L.K L.fa g1 w (.int n2) from rp2)
  refine ⟨n, n2, rfl, by omega, ?_⟩
  refine o4 _ H1 g1 (.refl _ _) fr1.sim ⟨[], fun _ => rfl, by simp, itOk_rng, ?_⟩
  simp only [rngE, List.length_map, List.length_range]
  rw [sizeLine_eq]
  omega
theorem enumE_get {xs : List PV} {i : Nat} (hi : i < xs.length) : (enumE xs)[i]? = some (.tup [.int (i : Int), xs[i]]) := by
  unfold enumE
  rw [List.getElem?_map, List.getElem?_range hi]
  simp [hi]
theorem i_enum (G : Good X L T c C k Z) {m : Bool} {a : E} {elts : List Expr} {kk : Nat} {tpos : Pos} {ea : Expr} {p pos : Pos} (hg : glB C "enumerate" = true) (h : PE X ea (denM L (RM L m) Z (ev c a))) (hs : starB ea = false) :
    PI X (.Tuple elts kk tpos) (.Call (.Name "enumerate" p) [ea] [] pos) (denM L (RIt L m) Z (evI c (.enum a))) := by
  obtain ⟨h1, h2⟩ := glB_ok G hg
  refine (pi_enumA h1 (G.blt _ (by decide)) (pa1 h hs) hs).imp fun σ H R ⟨g0, H0, g, env, S, fr, o⟩ => ?_
  rw [evI] at o
  refine seqM fr o fun r vs S1 H1 g1 fr1 ex rp o1 => ?_
  obtain ⟨v, rfl, rp⟩ := rp
  obtain ⟨xs, e1, o2⟩ := o1.lift
  obtain ⟨kd, p, vs, pk, rfl, s⟩ := src_of rp fr1.sim e1
  refine ⟨kd, p, vs, rfl, G.K ▸ s.now fr1.sim, ?_⟩
  rw [G.K]
  have hl : (enumE xs).length = vs.length := by rw [s.rep.length]; simp [enumE]
  refine o2 _ H1 g1 (.refl _ _) fr1.sim ⟨pk, s.pkm, s.pks, itOk_JT hl (fun g2 H2 st => s.st g2 H2 pk (fun _ h => h) st) fun i ys hi hy => ?_, by rw [hl]; exact s.len⟩
  have hv : vs[i]? = some vs[i] := List.getElem?_eq_getElem hi
  have hi2 : i < xs.length := by rw [← s.rep.length]; exact hi
  rw [hv] at hy
  cases hy
  obtain ⟨w, hw, rw'⟩ := s.rep.get (List.getElem?_eq_getElem hi2)
  rw [hv] at hw
  cases hw
  exact ⟨_, enumE_get hi2, .cons (.int _) (.cons rw' .nil), by simp⟩
theorem RMr {m : Bool} {H0 g H v x} (h : RM L m H0 g H v x) : RepR L g H v x := by
  cases m with
  | true => exact h
  | false => exact .inl h
theorem zip2E_get {xs ys : List PV} {i : Nat} (hi : i < xs.length) (hj : i < ys.length) : (zip2E xs ys)[i]? = some (.tup [xs[i], ys[i]]) := by
  unfold zip2E
  rw [List.getElem?_map, List.getElem?_eq_getElem (by rw [List.length_zip]; omega), List.getElem_zip]
  rfl
theorem i_zip2 (G : Good X L T c C k Z) {m : Bool} {a b : E} {elts : List Expr} {kk : Nat} {tpos : Pos} {ea eb : Expr} {p pos : Pos} (hg : glB C "zip" = true) (h : PE X ea (denM L (RM L m) Z (ev c a))) (h' : PE X eb (denM L (RM L m) Z (ev c b))) (hs : starB ea = false) (hs' : starB eb = false) :
    PI X (.Tuple elts kk tpos) (.Call (.Name "zip" p) [ea, eb] [] pos) (denM L (RIt L m) Z (evI c (.zip2 a b))) := by
  obtain ⟨h1, h2⟩ := glB_ok G hg
  refine (pi_zipB h1 (G.blt _ (by decide)) (pa2 h h' hs hs') hs hs').imp fun σ H R ⟨g0, H0, g, env, S, fr, o⟩ => ?_
  have e0 : evI c (.zip2 a b) env = (ev c a env >>= fun x => ev c b env >>= fun y => Pure.pure (x, y)) >>= fun q => lift (items q.1) >>= fun xs => lift (items q.2) >>= fun ys => Pure.pure (zip2E xs ys) := by
    rw [evI, bind_assoc]
    congr 1
    funext x
    rw [bind_assoc]
    rfl
  rw [e0] at o
  refine seqM (m := fun env => ev c a env >>= fun x => ev c b env >>= fun y => Pure.pure (x, y)) fr o fun r vs S1 H1 g1 fr1 ex rp o1 => ?_
  obtain ⟨v, w, rfl, ⟨_, rp⟩, ⟨_, rp2⟩⟩ := rp
  obtain ⟨q1, q2⟩ := r
  obtain ⟨xs, e1, o2⟩ := o1.lift
  obtain ⟨ys, e2, o3⟩ := o2.lift
  obtain ⟨k1, a1, vs, pk1, rfl, s1⟩ := src_of rp fr1.sim e1
  obtain ⟨k2, a2, ws, pk2, rfl, s2⟩ := src_of rp2 fr1.sim e2
  refine ⟨k1, k2, a1, a2, vs, ws, rfl, G.K ▸ s1.now fr1.sim, G.K ▸ s2.now fr1.sim, ?_⟩
  rw [G.K]
  have hl : (zip2E xs ys).length = min vs.length ws.length := by rw [s1.rep.length, s2.rep.length]; simp [zip2E]
  refine o3 _ H1 g1 (.refl _ _) fr1.sim ⟨pk1 ++ pk2, fun z => by rw [s1.pkm z, s2.pkm z] <;> rfl, fun q hq => ?_, itOk_JT hl (fun g2 H2 st => ⟨s1.st g2 H2 _ (fun _ h => List.mem_append_left _ h) st, s2.st g2 H2 _ (fun _ h => List.mem_append_right _ h) st⟩) fun i us hi hy => ?_, ?_⟩
  · rcases List.mem_append.mp hq with h | h
    · exact s1.pks q h
    · exact s2.pks q h
  · have hi1 : i < vs.length := by omega
    have hi2 : i < ws.length := by omega
    have hv : vs[i]? = some vs[i] := List.getElem?_eq_getElem hi1
    have hw : ws[i]? = some ws[i] := List.getElem?_eq_getElem hi2
    have hx1 : i < xs.length := by rw [← s1.rep.length]; exact hi1
    have hx2 : i < ys.length := by rw [← s2.rep.length]; exact hi2
    rw [hv, hw] at hy
    cases hy
    obtain ⟨u1, hu1, r1⟩ := s1.rep.get (List.getElem?_eq_getElem hx1)
    obtain ⟨u2, hu2, r2⟩ := s2.rep.get (List.getElem?_eq_getElem hx2)
    rw [hv] at hu1
    rw [hw] at hu2
    cases hu1
    cases hu2
    exact ⟨_, zip2E_get hx1 hx2, .cons r1 (.cons r2 .nil), by simp⟩
  · rw [hl]
    have := s1.len
    omega
end
end Wt
/-! Ezp: enumerate(zip(a, b)): the zip keeps its own tuple while the pair is held. -/
namespace Wt
open PySem PySem.Spec PyProof.Rows L2

/-- a zip, its own tuple free or out (v: where), f: that this was seen -/
abbrev ZipAt (h : Heap) (zz ti tt : Addr) (v : Value) (f : Bool) : Prop :=
  h.get? zz = some { cls := .type "zip", dict := none, data := .fields #[v, .bool f, .bool false, .ref ti, .ref tt], slots := #[] }
def OutV (v : Value) : Prop := v = .none ∨ ∃ a : Addr, v = rawInt a
section
variable {P : Program} {w : World} {A : Around} {E : Value → Shared → Prop} {s : Shared}
theorem alive_any {a : Addr} {Q : Option Obj → Shared → Prop} (h : Q (s.heap.get? a) s) : wpAny (model P w) A (loadIfAlive a) Q E s := fun _ _ _ => h
theorem free_any {zz ti tt : Addr} {v : Value} {f : Bool} {Q : Bool → Shared → Prop} (hz : ZipAt s.heap zz ti tt v f) (hv : OutV v) (h1 : Q true s) (h2 : ∀ m, ZipAt m zz ti tt v true → Heap.SameBut zz s.heap m → Q false { s with heap := m }) :
    wpAny (model P w) A (Builtin.SmallTypes.ownedTupleIsFree (.ref zz)) Q E s := by
  unfold Builtin.SmallTypes.ownedTupleIsFree
  rcases hv with rfl | ⟨a, rfl⟩
  · exact wpAny_bind (wpAny_field hz rfl (x := Value.none) rfl (wpAny_pure h1))
  · refine wpAny_bind (wpAny_field hz rfl (x := rawInt (a : Int)) rfl ?_)
    show wpAny _ _ (loadIfAlive ((a : Int).toNat) >>= _) _ _ _
    rw [Int.toNat_natCast]
    refine wpAny_bind (alive_any ?_)
    cases hg : s.heap.get? a with
    | none => exact wpAny_pure h1
    | some ob =>
      simp only [Option.isNone_some, Bool.false_eq_true, if_false]
      refine wpAny_bind (wpAny_field hz rfl (x := Value.bool f) rfl ?_)
      cases f with
      | true =>
        rw [if_neg (by exact Bool.false_ne_true)]
        exact wpAny_pure (h2 s.heap hz (Heap.SameBut.refl _ _))
      | false =>
        rw [if_pos (by rfl)]
        exact wpAny_bind (wpAny_setField_rec hz (by simp) fun m k1 k2 => wpAny_pure (h2 m k1 k2))
/-- what draws, new objects with it -/
structure Drw (P : Program) (w : World) (A : Around) (it : Addr) (fp wr : List Addr) (n : Nat) (Y : Nat → Heap → Value → Heap → Prop) (tn : Nat → Heap → Prop) : Prop where
  keep : ∀ i h h', tn i h → (∀ b ∈ fp, ∀ o, h.get? b = some o → h'.get? b = some o) → tn i h'
  item : ∀ i (s : Shared) (Q : Value → Shared → Prop) (E : Value → Shared → Prop), i < n → tn i s.heap →
    (∀ x m k, Y i s.heap x m → tn (i + 1) m → s.heap.objs.size ≤ m.objs.size → (∀ b o, b ∉ wr → s.heap.get? b = some o → m.get? b = some o) → Q x { s with heap := m, toks := k }) → wpAny (model P w) A (Builtin.SmallTypes.nextOf (.ref it)) Q E s
  done : ∀ (s : Shared) (Q : Value → Shared → Prop) (E : Value → Shared → Prop), tn n s.heap →
    (∀ m k u, (∀ b o, b ∉ wr → s.heap.get? b = some o → m.get? b = some o) → (∃ o, m.get? u = some o ∧ o.cls = .type "StopIteration") → E (.ref u) { s with heap := m, toks := k }) → wpAny (model P w) A (Builtin.SmallTypes.nextOf (.ref it)) Q E s
/-- what a zip of two is, at its i-th turn -/
structure ZipTn (zz ti tt u1 u2 : Addr) (S1 S2 : Nat → Heap → Prop) (i : Nat) (h : Heap) : Prop where
  z : ∃ v f, OutV v ∧ ZipAt h zz ti tt v f
  inn : IsTupOf2 h ti (.ref u1) (.ref u2)
  out : ∃ a b, IsTupOf2 h tt a b
  s1 : S1 i h
  s2 : S2 i h
variable {zz ti tt u1 u2 : Addr} {f1 f2 : List Addr} {n1 n2 i : Nat} {P1 P2 : Nat → Value → Prop} {S1 S2 : Nat → Heap → Prop}
def ZipYld (P1 P2 : Nat → Value → Prop) (i : Nat) (h : Heap) (x : Value) (m : Heap) : Prop := ∃ T a b, x = .ref T ∧ h.objs.size ≤ T ∧ T < m.objs.size ∧ P1 i a ∧ P2 i b ∧ IsTupOf2 m T a b
theorem zip_itemA {Q : Value → Shared → Prop} (S : ZipSep2 zz ti tt u1 u2 f1 f2) (D1 : Draws P w A u1 f1 n1 P1 S1) (D2 : Draws P w A u2 f2 n2 P2 S2) (st : ZipTn zz ti tt u1 u2 S1 S2 i s.heap) (l1 : i < n1) (l2 : i < n2)
    (hQ : ∀ x m k, ZipYld P1 P2 i s.heap x m → ZipTn zz ti tt u1 u2 S1 S2 (i + 1) m → s.heap.objs.size ≤ m.objs.size → (∀ b o, b ∉ [zz, tt, u1, u2] → s.heap.get? b = some o → m.get? b = some o) → Q x { s with heap := m, toks := k }) :
    wpAny (model P w) A (Builtin.«zip.__next__» ⟨[.ref zz], []⟩) (fun r s' => ∃ v, r = .done (.ret v) ∧ Q v s') E s := by
  obtain ⟨⟨v, f, hv, hz⟩, hI, ⟨a0, b0, hO⟩, t1, t2⟩ := st
  obtain ⟨h0, gg, dd, k0, os⟩ := s
  show wpAny _ _ (field (.ref zz) 2 >>= _) _ _ _
  refine wpAny_bind (wpAny_field hz rfl (x := Value.bool false) rfl ?_)
  show wpAny _ _ (field (.ref zz) 3 >>= _) _ _ _
  refine wpAny_bind (wpAny_field hz rfl (x := Value.ref ti) rfl ?_)
  refine wpAny_bind (wpAny_seqItems hI rfl ?_)
  show wpAny _ _ (Builtin.SmallTypes.ownedTupleIsFree (.ref zz) >>= _) _ _ _
  refine wpAny_bind (free_any hz hv ?_ fun m1 z1 k1 => ?_)
  · simp only [if_true]
    refine wpAny_bind (wpAny_rule ?_)
    refine wpAny_bind (wpAny_field hz rfl (x := Value.ref tt) rfl ?_)
    refine wpAny_bind (wpAny_setField_rec hz (by simp) fun m1 z1 k1 => ?_)
    replace z1 : ZipAt m1 zz ti tt .ellipsis f := z1
    replace k1 : Heap.SameBut zz h0 m1 := k1
    refine wpAny_bind ?_
    simp only [List.zipIdx_cons, List.zipIdx_nil, List.forIn_cons, List.forIn_nil]
    refine wpAny_bind (wpAny_bind (wpAny_onRaise ?_))
    show wpAny _ _ (Builtin.SmallTypes.nextOf (.ref u1) >>= _) _ _ ⟨m1, gg, dd, k0, os⟩
    refine wpAny_bind (D1.item i _ _ _ l1 (D1.over t1 k1 S.zf1) fun a m2 c2 ha t1' k2 => wpAny_pure ?_)
    replace k2 : Heap.SameBut u1 m1 m2 := k2
    have O2 : IsTupOf2 m2 tt a0 b0 := k2.extBut _ _ S.Ti1 (k1.extBut _ _ S.TOz hO)
    refine wpAny_bind (wpAny_seqItems (s := ⟨m2, gg, dd, c2, os⟩) O2 rfl ?_)
    refine wpAny_bind (updateSeq_IsTupOf2 (s := ⟨m2, gg, dd, c2, os⟩) O2 fun m3 O3 k3 => ?_)
    replace O3 : IsTupOf2 m3 tt a b0 := O3
    replace k3 : Heap.SameBut tt m2 m3 := k3
    refine wpAny_bind (wpAny_letGo (wpAny_pure ?_))
    refine wpAny_bind (wpAny_bind (wpAny_onRaise ?_))
    show wpAny _ _ (Builtin.SmallTypes.nextOf (.ref u2) >>= _) _ _ ⟨m3, gg, dd, c2, os⟩
    refine wpAny_bind (D2.item i _ _ _ l2 (D2.over (D2.over (D2.over t2 k1 S.zf2) k2 S.sep1_2) k3 S.Tf2) fun b m4 c4 hb t2' k4 => wpAny_pure ?_)
    replace k4 : Heap.SameBut u2 m3 m4 := k4
    have O4 : IsTupOf2 m4 tt a b0 := k4.extBut _ _ S.Ti2 O3
    refine wpAny_bind (wpAny_seqItems (s := ⟨m4, gg, dd, c4, os⟩) O4 rfl ?_)
    refine wpAny_bind (updateSeq_IsTupOf2 (s := ⟨m4, gg, dd, c4, os⟩) O4 fun m5 O5 k5 => ?_)
    replace O5 : IsTupOf2 m5 tt a b := O5
    replace k5 : Heap.SameBut tt m4 m5 := k5
    refine wpAny_bind (wpAny_letGo (wpAny_pure (wpAny_pure ?_)))
    refine wpAny_bind (wpAny_seqItems (s := ⟨m5, gg, dd, c4, os⟩) O5 rfl ?_)
    refine wpAny_bind (wpAny_newTuple ?_)
    have sz : m5.objs.size = h0.objs.size := by rw [k5.1, k4.1, k3.1, k2.1, k1.1]
    have z5 : ZipAt m5 zz ti tt .ellipsis f := k5.extBut _ _ S.TOz.symm (k4.extBut _ _ S.zi2 (k3.extBut _ _ S.TOz.symm (k2.extBut _ _ S.zi1 z1)))
    have kp : ∀ c o, c ≠ zz → c ≠ tt → c ≠ u1 → c ≠ u2 → h0.get? c = some o → m5.get? c = some o := fun c o cz cT c1 c2 e =>
      k5.extBut _ _ cT (k4.extBut _ _ c2 (k3.extBut _ _ cT (k2.extBut _ _ c1 (k1.extBut _ _ cz e))))
    have j1 : S1 (i + 1) m5 := D1.over (D1.over (D1.over t1' k3 S.Tf1) k4 S.sep2_1) k5 S.Tf1
    have j2 : S2 (i + 1) m5 := D2.over t2' k5 S.Tf2
    have zl : zz < m5.objs.size := Heap.lt_size z5
    show wpAny _ _ (Builtin.SmallTypes.ownedTupleHandOut (.ref zz) (.ref m5.objs.size) >>= _) _ _ ⟨m5.push { cls := .type "tuple", data := .seq #[a, b] }, gg, dd, c4, os⟩
    refine wpAny_bind ?_
    unfold Builtin.SmallTypes.ownedTupleHandOut
    have z6 : ZipAt (m5.push { cls := .type "tuple", data := .seq #[a, b] }) zz ti tt .ellipsis f := Heap.get?_push_of_some _ z5
    refine wpAny_bind (wpAny_setField_rec z6 (by simp) fun m7 z7 k7 => ?_)
    replace z7 : ZipAt m7 zz ti tt (rawInt m5.objs.size) f := z7
    refine wpAny_setField_rec z7 (by simp) fun m8 z8 k8 => ?_
    replace z8 : ZipAt m8 zz ti tt (rawInt m5.objs.size) false := z8
    replace k7 : Heap.SameBut zz (m5.push { cls := .type "tuple", data := .seq #[a, b] }) m7 := k7
    replace k8 : Heap.SameBut zz m7 m8 := k8
    have up : ∀ c o, c ≠ zz → m5.get? c = some o → m8.get? c = some o := fun c o cz e => k8.extBut _ _ cz (k7.extBut _ _ cz (Heap.get?_push_of_some _ e))
    have T8 : IsTupOf2 m8 m5.objs.size a b := k8.extBut _ _ (Nat.ne_of_gt zl) (k7.extBut _ _ (Nat.ne_of_gt zl) (Heap.get?_push_size _ rfl))
    have s8 : m8.objs.size = m5.objs.size + 1 := by rw [k8.1, k7.1, Heap.size_push]
    have up2 : ∀ c o, c ∉ [zz, tt, u1, u2] → h0.get? c = some o → m8.get? c = some o := fun c o hc e => by
      simp only [List.mem_cons, List.not_mem_nil, or_false, not_or] at hc
      exact up c o hc.1 (kp c o hc.1 hc.2.1 hc.2.2.1 hc.2.2.2 e)
    refine wpAny_pure ⟨_, rfl, ?_⟩
    exact hQ (.ref m5.objs.size) m8 c4 ⟨_, a, b, rfl, Nat.le_of_eq sz.symm, by rw [s8]; exact Nat.lt_succ_self _, ha, hb, T8⟩
      ⟨⟨_, _, .inr ⟨_, rfl⟩, z8⟩, up _ _ S.TIz (k5.extBut _ _ S.TITO (k4.extBut _ _ S.TIi2 (k3.extBut _ _ S.TITO (k2.extBut _ _ S.TIi1 (k1.extBut _ _ S.TIz hI))))), ⟨_, _, up _ _ S.TOz O5⟩,
        D1.frame _ _ _ j1 fun b hb o e => up b o (fun q => S.zf1 (q ▸ hb)) e, D2.frame _ _ _ j2 fun b hb o e => up b o (fun q => S.zf2 (q ▸ hb)) e⟩ (by rw [s8, sz]; exact Nat.le_succ _) up2
  · simp only [Bool.false_eq_true, if_false]
    replace k1 : Heap.SameBut zz h0 m1 := k1
    refine wpAny_bind ?_
    rw [← Array.forIn_toList]
    simp only [List.forIn_cons, List.forIn_nil]
    refine wpAny_bind (wpAny_bind (wpAny_holding ?_))
    show wpAny _ _ (Builtin.SmallTypes.nextOf (.ref u1) >>= _) _ _ ⟨m1, gg, dd, k0, os⟩
    refine wpAny_bind (D1.item i _ _ _ l1 (D1.over t1 k1 S.zf1) fun a m2 c2 ha t1' k2 => wpAny_pure ?_)
    replace k2 : Heap.SameBut u1 m1 m2 := k2
    refine wpAny_pure ?_
    refine wpAny_bind (wpAny_bind (wpAny_holding ?_))
    show wpAny _ _ (Builtin.SmallTypes.nextOf (.ref u2) >>= _) _ _ ⟨m2, gg, dd, c2, os⟩
    refine wpAny_bind (D2.item i _ _ _ l2 (D2.over (D2.over t2 k1 S.zf2) k2 S.sep1_2) fun b m4 c4 hb t2' k4 => wpAny_pure ?_)
    replace k4 : Heap.SameBut u2 m2 m4 := k4
    refine wpAny_pure (wpAny_pure ?_)
    show wpAny _ _ (newTuple [a, b] >>= _) _ _ ⟨m4, gg, dd, c4, os⟩
    refine wpAny_bind (wpAny_newTuple ?_)
    have sz : m4.objs.size = h0.objs.size := by rw [k4.1, k2.1, k1.1]
    have z5 : ZipAt m4 zz ti tt v true := k4.extBut _ _ S.zi2 (k2.extBut _ _ S.zi1 z1)
    have kp : ∀ c o, c ≠ zz → c ≠ u1 → c ≠ u2 → h0.get? c = some o → m4.get? c = some o := fun c o cz c1 c2 e => k4.extBut _ _ c2 (k2.extBut _ _ c1 (k1.extBut _ _ cz e))
    have j1 : S1 (i + 1) m4 := D1.over t1' k4 S.sep2_1
    refine wpAny_pure ⟨_, rfl, ?_⟩
    have s8 : (m4.push { cls := .type "tuple", data := .seq #[a, b] }).objs.size = m4.objs.size + 1 := Heap.size_push ..
    exact hQ (.ref m4.objs.size) _ c4 ⟨_, a, b, rfl, Nat.le_of_eq sz.symm, by rw [s8]; exact Nat.lt_succ_self _, ha, hb, Heap.get?_push_size _ rfl⟩
      ⟨⟨_, _, hv, Heap.get?_push_of_some _ z5⟩, Heap.get?_push_of_some _ (kp _ _ S.TIz S.TIi1 S.TIi2 hI), ⟨_, _, Heap.get?_push_of_some _ (kp _ _ S.TOz S.Ti1 S.Ti2 hO)⟩,
        D1.frame _ _ _ j1 fun b hb o e => Heap.get?_push_of_some _ e, D2.frame _ _ _ t2' fun b hb o e => Heap.get?_push_of_some _ e⟩ (by rw [s8, sz]; exact Nat.le_succ _) fun c o hc e => by
        simp only [List.mem_cons, List.not_mem_nil, or_false, not_or] at hc
        exact Heap.get?_push_of_some _ (kp c o hc.1 hc.2.2.1 hc.2.2.2 e)
theorem zip_doneA {Q : Fin → Shared → Prop} (S : ZipSep2 zz ti tt u1 u2 f1 f2) (D1 : Draws P w A u1 f1 n1 P1 S1) (D2 : Draws P w A u2 f2 n2 P2 S2) (st : ZipTn zz ti tt u1 u2 S1 S2 i s.heap) (l1 : i ≤ n1) (l2 : i ≤ n2) (hend : i = n1 ∨ i = n2)
    (hE : ∀ m k u, (∀ b o, b ∉ [zz, tt, u1, u2] → s.heap.get? b = some o → m.get? b = some o) → (∃ o, m.get? u = some o ∧ o.cls = .type "StopIteration") → E (.ref u) { s with heap := m, toks := k }) :
    wpAny (model P w) A (Builtin.«zip.__next__» ⟨[.ref zz], []⟩) Q E s := by
  obtain ⟨⟨v, f, hv, hz⟩, hI, ⟨a0, b0, hO⟩, t1, t2⟩ := st
  obtain ⟨h0, gg, dd, k0, os⟩ := s
  show wpAny _ _ (field (.ref zz) 2 >>= _) _ _ _
  refine wpAny_bind (wpAny_field hz rfl (x := Value.bool false) rfl ?_)
  show wpAny _ _ (field (.ref zz) 3 >>= _) _ _ _
  refine wpAny_bind (wpAny_field hz rfl (x := Value.ref ti) rfl ?_)
  refine wpAny_bind (wpAny_seqItems hI rfl ?_)
  show wpAny _ _ (Builtin.SmallTypes.ownedTupleIsFree (.ref zz) >>= _) _ _ _
  have fin : ∀ {m : Heap} {k : Nat} {u : Addr}, (∀ c o, c ≠ zz → c ≠ tt → c ≠ u1 → c ≠ u2 → h0.get? c = some o → m.get? c = some o) → (∃ o, m.get? u = some o ∧ o.cls = .type "StopIteration") → E (.ref u) ⟨m, gg, dd, k, os⟩ := fun {m k u} h1 h2 => hE m k u (fun c o hc e => by
    simp only [List.mem_cons, List.not_mem_nil, or_false, not_or] at hc
    exact h1 c o hc.1 hc.2.1 hc.2.2.1 hc.2.2.2 e) h2
  refine wpAny_bind (free_any hz hv ?_ fun m1 z1 k1 => ?_)
  · simp only [if_true]
    refine wpAny_bind (wpAny_rule ?_)
    refine wpAny_bind (wpAny_field hz rfl (x := Value.ref tt) rfl ?_)
    refine wpAny_bind (wpAny_setField_rec hz (by simp) fun m1 z1 k1 => ?_)
    replace z1 : ZipAt m1 zz ti tt .ellipsis f := z1
    replace k1 : Heap.SameBut zz h0 m1 := k1
    refine wpAny_bind ?_
    simp only [List.zipIdx_cons, List.zipIdx_nil, List.forIn_cons, List.forIn_nil]
    refine wpAny_bind (wpAny_bind (wpAny_onRaise ?_))
    show wpAny _ _ (Builtin.SmallTypes.nextOf (.ref u1) >>= _) _ _ ⟨m1, gg, dd, k0, os⟩
    by_cases hlt : i < n1
    · refine wpAny_bind (D1.item i _ _ _ hlt (D1.over t1 k1 S.zf1) fun a m2 c2 ha t1' k2 => wpAny_pure ?_)
      replace k2 : Heap.SameBut u1 m1 m2 := k2
      have O2 : IsTupOf2 m2 tt a0 b0 := k2.extBut _ _ S.Ti1 (k1.extBut _ _ S.TOz hO)
      refine wpAny_bind (wpAny_seqItems (s := ⟨m2, gg, dd, c2, os⟩) O2 rfl ?_)
      refine wpAny_bind (updateSeq_IsTupOf2 (s := ⟨m2, gg, dd, c2, os⟩) O2 fun m3 O3 k3 => ?_)
      replace k3 : Heap.SameBut tt m2 m3 := k3
      refine wpAny_bind (wpAny_letGo (wpAny_pure ?_))
      have e2 : i = n2 := by omega
      refine wpAny_bind (wpAny_bind (wpAny_onRaise ?_))
      show wpAny _ _ (Builtin.SmallTypes.nextOf (.ref u2) >>= _) _ _ ⟨m3, gg, dd, c2, os⟩
      refine wpAny_bind (D2.done ⟨m3, gg, dd, c2, os⟩ _ _ (by rw [← e2]; exact (D2.over (D2.over (D2.over t2 k1 S.zf2) k2 S.sep1_2) k3 S.Tf2)) fun m4 u k4 hu => ?_)
      replace k4 : Heap.ExtBut u2 m3 m4 := k4
      obtain ⟨ob, ho, hc⟩ := hu
      replace ho : m4.get? u = some ob := ho
      have z4 : ZipAt m4 zz ti tt .ellipsis f := k4 _ _ S.zi2 (k3.extBut _ _ S.TOz.symm (k2.extBut _ _ S.zi1 z1))
      have ne : u ≠ zz := fun q => by subst q; rw [z4] at ho; cases ho; simp at hc
      refine wpAny_setField_rec (s := ⟨m4, gg, dd, c2, os⟩) z4 (by simp) fun m5 _ k5 => ?_
      replace k5 : Heap.SameBut zz m4 m5 := k5
      exact fin (fun c o cz cT c1 c2 q => k5.extBut _ _ cz (k4 _ _ c2 (k3.extBut _ _ cT (k2.extBut _ _ c1 (k1.extBut _ _ cz q))))) ⟨ob, k5.extBut _ _ ne ho, hc⟩
    · have e1 : i = n1 := by omega
      refine wpAny_bind (D1.done ⟨m1, gg, dd, k0, os⟩ _ _ (by rw [← e1]; exact D1.over t1 k1 S.zf1) fun m2 u k2 hu => ?_)
      replace k2 : Heap.ExtBut u1 m1 m2 := k2
      obtain ⟨ob, ho, hc⟩ := hu
      replace ho : m2.get? u = some ob := ho
      have z2 : ZipAt m2 zz ti tt .ellipsis f := k2 _ _ S.zi1 z1
      have ne : u ≠ zz := fun q => by subst q; rw [z2] at ho; cases ho; simp at hc
      refine wpAny_setField_rec (s := ⟨m2, gg, dd, k0, os⟩) z2 (by simp) fun m5 _ k5 => ?_
      replace k5 : Heap.SameBut zz m2 m5 := k5
      exact fin (fun c o cz cT c1 c2 q => k5.extBut _ _ cz (k2 _ _ c1 (k1.extBut _ _ cz q))) ⟨ob, k5.extBut _ _ ne ho, hc⟩
  · simp only [Bool.false_eq_true, if_false]
    replace k1 : Heap.SameBut zz h0 m1 := k1
    refine wpAny_bind ?_
    rw [← Array.forIn_toList]
    simp only [List.forIn_cons, List.forIn_nil]
    refine wpAny_bind (wpAny_bind (wpAny_holding ?_))
    show wpAny _ _ (Builtin.SmallTypes.nextOf (.ref u1) >>= _) _ _ ⟨m1, gg, dd, k0, os⟩
    by_cases hlt : i < n1
    · refine wpAny_bind (D1.item i _ _ _ hlt (D1.over t1 k1 S.zf1) fun a m2 c2 ha t1' k2 => wpAny_pure ?_)
      replace k2 : Heap.SameBut u1 m1 m2 := k2
      refine wpAny_pure ?_
      have e2 : i = n2 := by omega
      refine wpAny_bind (wpAny_bind (wpAny_holding ?_))
      show wpAny _ _ (Builtin.SmallTypes.nextOf (.ref u2) >>= _) _ _ ⟨m2, gg, dd, c2, os⟩
      refine wpAny_bind (D2.done ⟨m2, gg, dd, c2, os⟩ _ _ (by rw [← e2]; exact D2.over (D2.over t2 k1 S.zf2) k2 S.sep1_2) fun m4 u k4 hu => ?_)
      replace k4 : Heap.ExtBut u2 m2 m4 := k4
      exact fin (fun c o cz _ c1 c2 q => k4 _ _ c2 (k2.extBut _ _ c1 (k1.extBut _ _ cz q))) hu
    · have e1 : i = n1 := by omega
      refine wpAny_bind (D1.done ⟨m1, gg, dd, k0, os⟩ _ _ (by rw [← e1]; exact D1.over t1 k1 S.zf1) fun m2 u k2 hu => ?_)
      replace k2 : Heap.ExtBut u1 m1 m2 := k2
      exact fin (fun c o cz _ c1 _ q => k2 _ _ c1 (k1.extBut _ _ cz q)) hu
theorem Drw.zip (S : ZipSep2 zz ti tt u1 u2 f1 f2) (D1 : Draws P w A.in1 u1 f1 n1 P1 S1) (D2 : Draws P w A.in1 u2 f2 n2 P2 S2) :
    Drw P w A zz (zz :: ti :: tt :: (f1 ++ f2)) [zz, tt, u1, u2] (min n1 n2) (ZipYld P1 P2) (ZipTn zz ti tt u1 u2 S1 S2) where
  keep := fun i h h' st kp => by
    obtain ⟨⟨v, f, hv, hz⟩, hI, ⟨a0, b0, hO⟩, t1, t2⟩ := st
    exact ⟨⟨v, f, hv, kp zz (by simp) _ hz⟩, kp ti (by simp) _ hI, ⟨a0, b0, kp tt (by simp) _ hO⟩, D1.frame _ _ _ t1 fun b hb o e => kp b (by simp [hb]) o e, D2.frame _ _ _ t2 fun b hb o e => kp b (by simp [hb]) o e⟩
  item := fun i s Q E hi st hQ => by
    have hT : s.TypeIs (.ref zz) "zip" := let ⟨v, f, _, hz⟩ := st.z; ⟨_, hz, rfl⟩
    unfold Builtin.SmallTypes.nextOf
    exact wpAny_bind (wpAny_callSpecial?_slot (name := Str.ofString "__next__") hT F.slot_zip_next (wpAny_call_entry F.slot_zip_next hT F.entry_zip_next
      (zip_itemA S D1 D2 st (by omega) (by omega) fun x m k y t l kp => wpAny_pure (hQ x m k y t l kp)) (F.args_zip_next_1 _)))
  done := fun s Q E st hE => by
    have hT : s.TypeIs (.ref zz) "zip" := let ⟨v, f, _, hz⟩ := st.z; ⟨_, hz, rfl⟩
    unfold Builtin.SmallTypes.nextOf
    exact wpAny_bind (wpAny_callSpecial?_slot (name := Str.ofString "__next__") hT F.slot_zip_next (wpAny_call_entry F.slot_zip_next hT F.entry_zip_next
      (zip_doneA S D1 D2 st (by omega) (by omega) (by omega) hE) (F.args_zip_next_1 _)))
/-- enumerate's next over such -/
theorem enum_itemA {e it : Addr} {fp wr : List Addr} {n i : Nat} {c : Int} {Y : Nat → Heap → Value → Heap → Prop} {tn : Nat → Heap → Prop} {old : Value} {Q : Value → Shared → Prop}
    (D : Drw P w A it fp wr n Y tn) (he : IsEnum s.heap e it c old) (st : tn i s.heap) (hlt : i < n) (hew : e ∉ wr) (hef : e ∉ fp)
    (hQ : ∀ x m1 k m, Y i s.heap x m1 → tn (i + 1) m → s.heap.objs.size ≤ m1.objs.size → (∀ b o, b ∉ wr → s.heap.get? b = some o → m1.get? b = some o) → IsEnumOut m e it (c + 1) x m1.objs.size →
      m.get? m1.objs.size = some { cls := .type "tuple", data := .seq #[.int c k, x] } → (∀ b o, b ≠ e → m1.get? b = some o → m.get? b = some o) → Q (.ref m1.objs.size) { s with heap := m, toks := k + 1 }) :
    wpAny (model P w) A (Builtin.«enumerate.__next__» ⟨[.ref e], []⟩) (fun r s' => ∃ v, r = .done (.ret v) ∧ Q v s') E s := by
  obtain ⟨h0, gg, dd, k0, os⟩ := s
  show wpAny _ _ (field (.ref e) 2 >>= _) _ _ _
  refine wpAny_bind (wpAny_field he rfl (x := Value.ref it) rfl ?_)
  refine wpAny_bind (D.item i _ _ _ hlt st fun x m1 k hy st1 hle kp => ?_)
  replace kp : ∀ b o, b ∉ wr → h0.get? b = some o → m1.get? b = some o := kp
  replace hle : h0.objs.size ≤ m1.objs.size := hle
  have e1 : IsEnum m1 e it c old := kp e _ hew he
  show wpAny _ _ (field (.ref e) 3 >>= _) _ _ ⟨m1, gg, dd, k, os⟩
  refine wpAny_bind (wpAny_field e1 rfl (x := rawInt c) rfl ?_)
  show wpAny _ _ (field (.ref e) 4 >>= _) _ _ ⟨m1, gg, dd, k, os⟩
  refine wpAny_bind (wpAny_field e1 rfl (x := Value.none) rfl ?_)
  show wpAny _ _ (mkInt c >>= _) _ _ ⟨m1, gg, dd, k, os⟩
  refine wpAny_bind (wpAny_mkInt ?_)
  show wpAny _ _ (setField (.ref e) 3 (rawInt (c + 1)) >>= _) _ _ ⟨m1, gg, dd, k + 1, os⟩
  refine wpAny_bind (wpAny_setField_rec e1 (by simp) fun m2 e2 k2 => ?_)
  replace k2 : Heap.SameBut e m1 m2 := k2
  replace e2 : IsEnum m2 e it (c + 1) old := e2
  show wpAny _ _ (setField (.ref e) 4 .none >>= _) _ _ ⟨m2, gg, dd, k + 1, os⟩
  refine wpAny_bind (wpAny_setField_rec e2 (by simp) fun m3 e3 k3 => ?_)
  replace k3 : Heap.SameBut e m2 m3 := k3
  replace e3 : IsEnum m3 e it (c + 1) old := e3
  show wpAny _ _ (newTuple [.int c k, x] >>= _) _ _ ⟨m3, gg, dd, k + 1, os⟩
  refine wpAny_bind (wpAny_newTuple ?_)
  have e4 : IsEnum (m3.push { cls := .type "tuple", data := .seq #[.int c k, x] }) e it (c + 1) old := Heap.get?_push_of_some _ e3
  generalize hm4 : m3.push { cls := .type "tuple", data := .seq #[.int c k, x] } = m4 at e4
  have sz : m3.objs.size = m1.objs.size := by rw [k3.1, k2.1]
  have el : e < m1.objs.size := Heap.lt_size e1
  have T4 : m4.get? m1.objs.size = some { cls := .type "tuple", data := .seq #[.int c k, x] } := by rw [← hm4, ← sz]; exact Heap.get?_push_size _ rfl
  have kp4 : ∀ b o, b ≠ e → m1.get? b = some o → m4.get? b = some o := fun b o be q => by
    rw [← hm4]; exact Heap.get?_push_of_some _ (k3.extBut b o be (k2.extBut b o be q))
  show wpAny _ _ (Builtin.SmallTypes.ownedTupleIsFree (.ref e) >>= _) _ _ ⟨m4, gg, dd, k + 1, os⟩
  rw [sz]
  clear hm4 e3 k3 e2 k2 sz m3 m2
  refine wpAny_bind ?_
  unfold Builtin.SmallTypes.ownedTupleIsFree
  refine wpAny_bind (wpAny_field e4 rfl (x := Value.none) rfl (wpAny_pure ?_))
  simp only [if_true]
  refine wpAny_bind (wpAny_rule ?_)
  refine wpAny_bind (wpAny_field e4 rfl (x := old) rfl ?_)
  refine wpAny_bind (wpAny_setField_rec e4 (by simp) fun m5 e5 k5 => ?_)
  replace k5 : Heap.SameBut e m4 m5 := k5
  replace e5 : IsEnum m5 e it (c + 1) x := e5
  show wpAny _ _ (Builtin.SmallTypes.ownedTupleHandOut (.ref e) (.ref m1.objs.size) >>= _) _ _ ⟨m5, gg, dd, k + 1, os⟩
  refine wpAny_bind ?_
  unfold Builtin.SmallTypes.ownedTupleHandOut
  refine wpAny_bind (wpAny_setField_rec e5 (by simp) fun m6 e6 k6 => ?_)
  replace k6 : Heap.SameBut e m5 m6 := k6
  replace e6 : IsEnumOut m6 e it (c + 1) x m1.objs.size := e6
  refine wpAny_setField_rec e6 (by simp) fun m7 e7 k7 => ?_
  replace k7 : Heap.SameBut e m6 m7 := k7
  replace e7 : IsEnumOut m7 e it (c + 1) x m1.objs.size := e7
  have kp7 : ∀ b o, b ≠ e → m1.get? b = some o → m7.get? b = some o := fun b o be q => k7.extBut b o be (k6.extBut b o be (k5.extBut b o be (kp4 b o be q)))
  refine wpAny_bind (wpAny_letGo (wpAny_pure ⟨_, rfl, hQ x m1 k m7 hy (D.keep _ _ _ st1 fun b hb o q => kp7 b o (fun z => hef (z ▸ hb)) q) hle kp e7 ?_ kp7⟩))
  exact k7.extBut _ _ (Nat.ne_of_gt el) (k6.extBut _ _ (Nat.ne_of_gt el) (k5.extBut _ _ (Nat.ne_of_gt el) T4))
end
end Wt
/-! Ezq: enumerate(zip(a, b)) as an iterable. -/
namespace Wt
open PySem PySem.Spec PyProof.Rows L2

def JEz (K : PySem.W.Frag) (k1 k2 : Sk) (a b : Addr) (vs ws : List V) : L2.It :=
  ⟨fun i H => i < min vs.length ws.length ∧ (k1.sq K H a vs ∧ k2.sq K H b ws),
   fun i H v H' => ∃ Ti To x y, v = .ref To ∧ H Ti = none ∧ H To = none ∧ Ti ≠ To ∧ vs[i]? = some x ∧ ws[i]? = some y ∧ H' = upd (upd H Ti (.tup [x, y])) To (.tup [.int (i : Int), .ref Ti]),
   fun i H => i = min vs.length ws.length ∧ (k1.sq K H a vs ∧ k2.sq K H b ws)⟩
theorem ZipTn.imp {zz ti tt u1 u2 : Addr} {S1 S2 S1' S2' : Nat → Heap → Prop} {i : Nat} {h : Heap} (t : ZipTn zz ti tt u1 u2 S1 S2 i h) (h1 : S1 i h → S1' i h) (h2 : S2 i h → S2' i h) : ZipTn zz ti tt u1 u2 S1' S2' i h := ⟨t.z, t.inn, t.out, h1 t.s1, h2 t.s2⟩
theorem turn_ez {P : Program} {w : World} {K : PySem.W.Frag} {elts : List Expr} {kk : Nat} {tpos : Pos} (k1 k2 : Sk) {a b e z TI TO i1 i2 : Addr} (vs ws : List V) (S : ZipSep2 z TI TO i1 i2 [i1, a] [i2, b]) (ha : a ≠ i1) (hb : b ≠ i2) (he : e ∉ [z, TI, TO, i1, i2]) (hea : e ≠ a) (heb : e ≠ b) :
    Turn P w K (.Tuple elts kk tpos) (JEz K k1 k2 a b vs ws) [e, z, TI, TO, i1, i2] e (fun i h => (∃ old, IsEnum h e z (i : Int) old) ∧ ZipTn z TI TO i1 i2 (fun i h => k1.iter h i1 a i) (fun i h => k2.iter h i2 b i) i h) where
  mem := by simp
  obj := fun i h st c hc => by
    obtain ⟨⟨old, hE⟩, ⟨v, f, _, hz⟩, hI, ⟨x, y, hO⟩, h1, h2⟩ := st
    have e' : c = e ∨ c = z ∨ c = TI ∨ c = TO ∨ c = i1 ∨ c = i2 := by simpa using hc
    rcases e' with q | q | q | q | q | q
    · rw [q]; exact ⟨_, hE, fun v q => nomatch q⟩
    · rw [q]; exact ⟨_, hz, fun v q => nomatch q⟩
    · rw [q]; exact ⟨_, hI, fun v q => nomatch q⟩
    · rw [q]; exact ⟨_, hO, fun v q => nomatch q⟩
    · rw [q]; exact Sk.notcell (k := k1) h1
    · rw [q]; exact Sk.notcell (k := k2) h2
  keep := fun i h h' st kp => by
    obtain ⟨⟨old, hE⟩, ⟨v, f, hv, hz⟩, hI, ⟨x, y, hO⟩, h1, h2⟩ := st
    exact ⟨⟨old, kp e (by simp) _ hE⟩, ⟨v, f, hv, kp z (by simp) _ hz⟩, kp TI (by simp) _ hI, ⟨x, y, kp TO (by simp) _ hO⟩, Sk.at (k := k1) h1 fun o q => kp i1 (by simp) o q, Sk.at (k := k2) h2 fun o q => kp i2 (by simp) o q⟩
  item := by
    intro X hP hw hK hc i pins s σ H E I hf st hg
    subst hP hw hK
    obtain ⟨hi, hva, hwb⟩ := hg
    obtain ⟨its, rv, hs, hz, _⟩ := Sk.have I hva
    obtain ⟨its2, rv2, hs2, hz2, _⟩ := Sk.have I hwb
    have hn : X.A.in1.in1.handled = none := I.ok.hd hc
    have D1 : Draws X.prog X.w X.A.in1.in1 i1 [i1, a] its.toArray.size (fun i v => its.toArray[i]? = some v) (fun i h => k1.iter h i1 a i ∧ k1.is h a its.toArray) := k1.draws (A := X.A.in1.in1) hn i1 a ha its.toArray
    have D2 : Draws X.prog X.w X.A.in1.in1 i2 [i2, b] its2.toArray.size (fun i v => its2.toArray[i]? = some v) (fun i h => k2.iter h i2 b i ∧ k2.is h b its2.toArray) := k2.draws (A := X.A.in1.in1) hn i2 b hb its2.toArray
    have D := Drw.zip (A := X.A.in1) S D1 D2
    have hl : its.toArray.size = vs.length := by rw [List.size_toArray, rv.length]
    have hl2 : its2.toArray.size = ws.length := by rw [List.size_toArray, rv2.length]
    rw [hl, hl2] at D
    obtain ⟨⟨old, hE⟩, t⟩ := st
    have hT : s.TypeIs (.ref e) "enumerate" := ⟨_, hE, rfl⟩
    simp only [List.mem_cons, List.not_mem_nil, or_false, not_or] at he
    obtain ⟨n1, n2, n3, n4, n5⟩ := he
    unfold pyNext
    refine wpAny_bind (wpAny_attempt (wpAny_callSpecial?_slot (name := Str.ofString "__next__") hT F.slot_enumerate_next (wpAny_call_entry F.slot_enumerate_next hT F.entry_enumerate_next
      (enum_itemA D hE (t.imp (fun h => ⟨h, hs⟩) fun h => ⟨h, hs2⟩) hi (by simp [n1, n3, n4, n5]) (by simp [n1, n2, n3, n4, n5, hea, heb]) fun x m1 k m hy t1 hle kp ho hT1 kp1 => wpAny_pure ⟨.ref m1.objs.size, rfl, ?_⟩) (F.args_enumerate_next_1 _))))
    refine wpAny_letOwnedTupleGo_enum (s := { s with heap := m, toks := k + 1 }) ho fun m9 hE9 k9 => ?_
    replace k9 : Heap.SameBut e m m9 := k9
    obtain ⟨Ti, x1, y1, rfl, hTi, hTl, px, py, hTt⟩ := hy
    have el : e < s.heap.objs.size := Heap.lt_size hE
    have i1' : i < vs.length := by omega
    have i2' : i < ws.length := by omega
    have hv : vs[i]? = some vs[i] := List.getElem?_eq_getElem i1'
    have hw : ws[i]? = some ws[i] := List.getElem?_eq_getElem i2'
    obtain ⟨u, hu, ru⟩ := rv.get hv
    obtain ⟨u2, hu2, ru2⟩ := rv2.get hw
    have hx2 : its[i]? = some x1 := by simpa using px
    have hy2 : its2[i]? = some y1 := by simpa using py
    rw [hu] at hx2
    rw [hu2] at hy2
    cases hx2
    cases hy2
    have new1 : ObjOk X.prog X.w (upd H Ti (.tup [vs[i], ws[i]])) m1 Ti (.tup [vs[i], ws[i]]) := ⟨by rw [sizeLine_eq]; simp, [x1, y1], .cons ru (.cons ru2 .nil), ⟨_, hTt, rfl, _, rfl⟩⟩
    have sub : ∀ c ∈ [z, TO, i1, i2], c ∈ [e, z, TI, TO, i1, i2] := fun c hc => by
      simp only [List.mem_cons, List.not_mem_nil, or_false] at hc
      rcases hc with q | q | q | q <;> simp [q]
    have I1 : Inv X pins σ (upd H Ti (.tup [vs[i], ws[i]])) { s with heap := m1, toks := k } := I.turnedNew (ch := [z, TO, i1, i2]) kp (fun c hc => hf c (sub c hc)) hTi new1
    have hnTi : H Ti = none := I.hok.fresh hTi
    have hnTo : H m1.objs.size = none := I.hok.fresh hle
    have neT : Ti ≠ m1.objs.size := Nat.ne_of_lt hTl
    have eTi : e ≠ Ti := Nat.ne_of_lt (Nat.lt_of_lt_of_le el hTi)
    have eTo : m1.objs.size ≠ e := Nat.ne_of_gt (Nat.lt_of_lt_of_le el hle)
    have hfe : ∀ c ∈ [e], FpOk X pins (upd H Ti (.tup [vs[i], ws[i]])) c := fun c hc => by
      have q : c = e := by simpa using hc
      subst q
      exact ⟨by rw [upd_ne eTi]; exact (hf c (by simp)).1, (hf c (by simp)).2⟩
    have hT9 : m9.get? m1.objs.size = some { cls := .type "tuple", data := .seq #[.int (i : Int) k, .ref Ti] } := k9.extBut _ _ eTo hT1
    have new2 : ObjOk X.prog X.w (upd (upd H Ti (.tup [vs[i], ws[i]])) m1.objs.size (.tup [.int (i : Int), .ref Ti])) m9 m1.objs.size (.tup [.int (i : Int), .ref Ti]) := ⟨by rw [sizeLine_eq]; simp, [.int (i : Int) k, .ref Ti], .cons ⟨k, rfl⟩ (.cons rfl .nil), ⟨_, hT9, rfl, _, rfl⟩⟩
    have I2 := I1.turnedNew (h' := m9) (t' := k + 1) (ch := [e]) (fun c o hc q => k9.extBut c o (fun z => hc (by simp [z])) (kp1 c o (fun z => hc (by simp [z])) q)) hfe (Nat.le_refl _) new2
    refine ⟨.ref m1.objs.size, _, I2, rfl, ⟨Ti, m1.objs.size, vs[i], ws[i], rfl, hnTi, hnTo, neT, hv, hw, rfl⟩, ⟨⟨_, hE9⟩, ?_⟩, fun c hc => ?_⟩
    · have t9 := D.keep _ _ m9 t1 fun c hc o q => k9.extBut c o (fun z => by
        subst z
        simp only [List.mem_cons, List.mem_append, List.not_mem_nil, or_false] at hc
        rcases hc with q | q | q | (q | q) | q | q
        · exact n1 q
        · exact n2 q
        · exact n3 q
        · exact n4 q
        · exact hea q
        · exact n5 q
        · exact heb q) q
      exact t9.imp (fun h => h.1) fun h => h.1
    · have cl : c < s.heap.objs.size := by
        obtain ⟨⟨v, f, _, hz⟩, hI, ⟨x, y, hO⟩, ht1, ht2⟩ := t
        have e' : c = e ∨ c = z ∨ c = TI ∨ c = TO ∨ c = i1 ∨ c = i2 := by simpa using hc
        rcases e' with q | q | q | q | q | q
        · rw [q]; exact el
        · rw [q]; exact Heap.lt_size hz
        · rw [q]; exact Heap.lt_size hI
        · rw [q]; exact Heap.lt_size hO
        · rw [q]
          obtain ⟨o, ho, _⟩ := Sk.notcell (k := k1) ht1
          exact Heap.lt_size ho
        · rw [q]
          obtain ⟨o, ho, _⟩ := Sk.notcell (k := k2) ht2
          exact Heap.lt_size ho
      rw [upd_ne (Nat.ne_of_lt (Nat.lt_of_lt_of_le cl hle)), upd_ne (Nat.ne_of_lt (Nat.lt_of_lt_of_le cl hTi))]
      exact (hf c hc).1
  done := by
    intro X hP hw hK hc i pins s σ H E I hf st hg
    subst hP hw hK
    obtain ⟨rfl, hva, hwb⟩ := hg
    obtain ⟨its, rv, hs, hz, _⟩ := Sk.have I hva
    obtain ⟨its2, rv2, hs2, hz2, _⟩ := Sk.have I hwb
    have hn : X.A.in1.in1.handled = none := I.ok.hd hc
    have D1 : Draws X.prog X.w X.A.in1.in1 i1 [i1, a] its.toArray.size (fun i v => its.toArray[i]? = some v) (fun i h => k1.iter h i1 a i ∧ k1.is h a its.toArray) := k1.draws (A := X.A.in1.in1) hn i1 a ha its.toArray
    have D2 : Draws X.prog X.w X.A.in1.in1 i2 [i2, b] its2.toArray.size (fun i v => its2.toArray[i]? = some v) (fun i h => k2.iter h i2 b i ∧ k2.is h b its2.toArray) := k2.draws (A := X.A.in1.in1) hn i2 b hb its2.toArray
    have D := Drw.zip (A := X.A.in1) S D1 D2
    have hl : its.toArray.size = vs.length := by rw [List.size_toArray, rv.length]
    have hl2 : its2.toArray.size = ws.length := by rw [List.size_toArray, rv2.length]
    rw [hl, hl2] at D
    obtain ⟨⟨old, hE⟩, t⟩ := st
    have hT : s.TypeIs (.ref e) "enumerate" := ⟨_, hE, rfl⟩
    unfold pyNext
    refine wpAny_bind (wpAny_attempt (wpAny_callSpecial?_slot (name := Str.ofString "__next__") hT F.slot_enumerate_next (wpAny_call_entry F.slot_enumerate_next hT F.entry_enumerate_next ?_ (F.args_enumerate_next_1 _))))
    show wpAny _ _ (field (.ref e) 2 >>= _) _ _ _
    refine wpAny_bind (wpAny_field hE rfl (x := Value.ref z) rfl ?_)
    refine wpAny_bind (D.done _ _ _ (t.imp (fun h => ⟨h, hs⟩) fun h => ⟨h, hs2⟩) fun m k u kp hu => ?_)
    obtain ⟨o, ho, hcc⟩ := hu
    refine wpAny_bind (wpAny_isInstance (T := "StopIteration") (b := true) ⟨o, ho, hcc⟩ isSubtype_stop ?_)
    have sub : ∀ c ∈ [z, TO, i1, i2], c ∈ [e, z, TI, TO, i1, i2] := fun c hc => by
      simp only [List.mem_cons, List.not_mem_nil, or_false] at hc
      rcases hc with q | q | q | q <;> simp [q]
    exact wpAny_pure ⟨rfl, I.turnedL (ch := [z, TO, i1, i2]) kp fun c hc => hf c (sub c hc)⟩
  self := fun A i s Q E st q => by
    obtain ⟨⟨old, hE⟩, _⟩ := st
    exact wpAny_pyIter_enum hE q
theorem meets_enum_zip {z TI TO : Addr} {f0 : Value} :
    Meets (Builtin.«enumerate.__new__» ⟨[.type "enumerate", .ref z], []⟩) (fun _ R s => IsZip s.heap z TI TO f0 ∧
      R (.ok (.ret (.ref s.heap.objs.size))) { s with heap := s.heap.push { cls := .type "enumerate", data := .fields #[.none, .bool false, .ref z, rawInt 0, .none, .none] } }) :=
  .of_wp fun prog w A R s h => by
    obtain ⟨hp, g, d, tk, os⟩ := s
    obtain ⟨h1, h⟩ := h
    have hsub := sub_enumerate
    have q1 : ∀ {A' : Around} {E : Value → Shared → Prop} {Q : Value → Shared → Prop}, Q (.ref z) ⟨hp, g, d, tk, os⟩ → wpAny (model prog w) A' (pyIter (.ref z)) Q E ⟨hp, g, d, tk, os⟩ :=
      fun q => wpAny_pyIter_zip (s := ⟨hp, g, d, tk, os⟩) h1 q
    wp_walk using q1
    refine wpAny_stack_any fun st => wpAny_pure ?_
    split
    · rename_i c _ _ _ _ _
      cases (c == Value.type "enumerate")
      · wp_walk using q1
        exact ⟨_, rfl, h⟩
      · wp_walk using q1
        exact ⟨_, rfl, h⟩
    · wp_walk using q1
      exact ⟨_, rfl, h⟩
theorem enum_over_zip {prog : Program} {w : World} {A : Around} {E : Value → Shared → Prop} {s : Shared} {z TI TO : Addr} {f0 : Value} {Q : Value → Shared → Prop} (h1 : IsZip s.heap z TI TO f0)
    (h : ∀ m, IsEnum m s.heap.objs.size z 0 .none → (∀ b o, s.heap.get? b = some o → m.get? b = some o) → Q (.ref s.heap.objs.size) { s with heap := m }) :
    wpAny (model prog w) A (call (.type "enumerate") [.ref z]) Q E s := by
  refine callType_new F.called_enumerate (by decide) (F.typeCall_enumerate_1 _) (F.newCall_enumerate_1 _) (fun obj => F.args_object_init_2 obj _) F.entry_enumerate_new
    meets_enum_zip ⟨h1, ?_⟩
  have hE : IsEnum (s.heap.push { cls := .type "enumerate", data := .fields #[.none, .bool false, .ref z, rawInt 0, .none, .none] }) s.heap.objs.size z 0 .none := Heap.get?_push_size _ rfl
  exact ⟨⟨_, hE, rfl⟩, h _ hE fun b o x => Heap.get?_push_of_some _ x⟩
def iEz (K : PySem.W.Frag) (ta : TA) : TI := fun σ H R => ta σ H fun us H1 => ∃ (k1 k2 : Sk) (a b : Addr) (vs ws : List V), us = [.ref a, .ref b] ∧ k1.sq K H1 a vs ∧ k2.sq K H1 b ws ∧ R (JEz K k1 k2 a b vs ws) H1
theorem pi_ez {X : Cx} {e e2 : Expr} {ta : TA} {p p2 pos pos2 tpos : Pos} {elts : List Expr} {kk : Nat} (hg0 : Gl X "enumerate") (hm0 : X.mg "enumerate" = none) (hg : Gl X "zip") (hm : X.mg "zip" = none) (ha : PA X [e, e2] ta) (hst : starB e = false) (hst2 : starB e2 = false) :
    PI X (.Tuple elts kk tpos) (.Call (.Name "enumerate" p) [.Call (.Name "zip" p2) [e, e2] [] pos2] [] pos) (iEz X.K ta) := by
  refine ⟨fun pins s σ H R I h => ?_⟩
  refine Call_ (ld_blt I hg0 hm0 boot_enumerate (PyProof.Rows.callWith_type1 (show wpAny _ _ (spliced [(false, eval (.Call (.Name "zip" p2) [e, e2] [] pos2) X.env)]) _ _ s from Calls.spliced_cons ?_) rfl rfl))
  refine Call_ (ld_blt I hg hm PyProof.Rows.boot_zip (PyProof.Rows.callWith_type1 (thn (ha.run pos2 pins s σ H _ I h) fun us s1 ⟨vs, H1, I1, r1, q1⟩ => ?_) (star_no hst) (by rw [star_no hst2] <;> rfl)))
  obtain ⟨k1, k2, a, b, xs, ys, ex, hqx, hqy, q⟩ := q1
  subst ex
  cases r1 with
  | cons r rr =>
    cases rr with
    | cons r' rr =>
      cases rr
      cases r
      cases r'
      obtain ⟨its, rv, hs, hz, hlt⟩ := Sk.have I1 hqx
      obtain ⟨its2, rv2, hs2, hz2, hlt2⟩ := Sk.have I1 hqy
      refine zip_begins2 (k1.begins a its.toArray) (k2.begins b its2.toArray) hs hs2 fun h' hz hTI hTO h1 h2 hsz hk => Calls.spliced_nil ?_
      have I2 : Inv X pins σ H1 { s1 with heap := h' } := I1.kept (t' := s1.toks) hk
      have S : ZipSep2 (s1.heap.objs.size + 4) (s1.heap.objs.size + 2) (s1.heap.objs.size + 3) s1.heap.objs.size (s1.heap.objs.size + 1) [s1.heap.objs.size, a] [s1.heap.objs.size + 1, b] := zip_sep2 (by simpa using hlt) (by simpa using hlt2)
      refine enum_over_zip (s := { s1 with heap := h' }) hz fun m hE km => ?_
      have I3 : Inv X pins σ H1 { s1 with heap := m } := I2.kept (t' := s1.toks) km
      have hsz' : h'.objs.size = s1.heap.objs.size + 5 := hsz
      refine wpAny_pyIter_enum (s := { s1 with heap := m }) hE ?_
      have eN : ({ s1 with heap := h' } : Shared).heap.objs.size = s1.heap.objs.size + 5 := hsz'
      rw [eN] at hE ⊢
      refine ⟨s1.heap.objs.size + 5, [s1.heap.objs.size + 5, s1.heap.objs.size + 4, s1.heap.objs.size + 2, s1.heap.objs.size + 3, s1.heap.objs.size, s1.heap.objs.size + 1], _, _, H1, rfl, I3,
        turn_ez k1 k2 xs ys S (Nat.ne_of_lt hlt) (Nat.ne_of_lt (Nat.lt_succ_of_lt hlt2)) ?_ ?_ ?_, ⟨⟨.none, hE⟩, ⟨_, false, .inl rfl, km _ _ hz⟩, km _ _ hTI, ⟨_, _, km _ _ hTO⟩, Sk.start (km _ _ h1), Sk.start (km _ _ h2)⟩, fun c hcm => ?_, q⟩
      · intro hm
        simp only [List.mem_cons, List.not_mem_nil, or_false] at hm
        have key : ∀ j : Nat, j < 5 → ¬ (s1.heap.objs.size + 5 : Nat) = s1.heap.objs.size + j := fun j hj q => by omega
        rcases hm with q | q | q | q | q
        · exact key 4 (by omega) q
        · exact key 2 (by omega) q
        · exact key 3 (by omega) q
        · exact key 0 (by omega) q
        · exact key 1 (by omega) q
      · exact Nat.ne_of_gt (Nat.lt_of_lt_of_le hlt (Nat.le_add_right _ _))
      · exact Nat.ne_of_gt (Nat.lt_of_lt_of_le hlt2 (Nat.le_add_right _ _))
      · have e' : c = s1.heap.objs.size + 5 ∨ c = s1.heap.objs.size + 4 ∨ c = s1.heap.objs.size + 2 ∨ c = s1.heap.objs.size + 3 ∨ c = s1.heap.objs.size ∨ c = s1.heap.objs.size + 1 := by simpa using hcm
        have hle : s1.heap.objs.size ≤ c := by
          rcases e' with z | z | z | z | z | z
          · rw [z]; exact Nat.le_add_right _ _
          · rw [z]; exact Nat.le_add_right _ _
          · rw [z]; exact Nat.le_add_right _ _
          · rw [z]; exact Nat.le_add_right _ _
          · rw [z]; exact Nat.le_refl _
          · rw [z]; exact Nat.le_add_right _ _
        exact I1.fpOk hle (I1.hok.fresh hle)
section
variable {X : Cx} {L : Pl} {Z : XK} {α β γ δ : Type} {T : Tb} {c : Cc} {C : Cn} {k : Nat}
theorem i_enumzip (G : Good X L T c C k Z) {m : Bool} {a b : E} {elts : List Expr} {kk : Nat} {tpos : Pos} {ea eb : Expr} {p p2 pos pos2 : Pos} (hg : glB C "enumerate" = true) (hg2 : glB C "zip" = true) (h : PE X ea (denM L (RM L m) Z (ev c a))) (h' : PE X eb (denM L (RM L m) Z (ev c b))) (hs : starB ea = false) (hs' : starB eb = false) :
    PI X (.Tuple elts kk tpos) (.Call (.Name "enumerate" p) [.Call (.Name "zip" p2) [ea, eb] [] pos2] [] pos) (denM L (RIt L m) Z (evI c (.enumzip a b))) := by
  obtain ⟨h1, h2⟩ := glB_ok G hg
  obtain ⟨h3, h4⟩ := glB_ok G hg2
  refine (pi_ez h1 (G.blt _ (by decide)) h3 (G.blt _ (by decide)) (pa2 h h' hs hs') hs hs').imp fun σ H R ⟨g0, H0, g, env, S, fr, o⟩ => ?_
  have e0 : evI c (.enumzip a b) env = (ev c a env >>= fun x => ev c b env >>= fun y => Pure.pure (x, y)) >>= fun q => lift (items q.1) >>= fun xs => lift (items q.2) >>= fun ys => Pure.pure (enumE (zip2E xs ys)) := by
    rw [evI, bind_assoc]
    congr 1
    funext x
    rw [bind_assoc]
    rfl
  rw [e0] at o
  refine seqM (m := fun env => ev c a env >>= fun x => ev c b env >>= fun y => Pure.pure (x, y)) fr o fun r vs S1 H1 g1 fr1 ex rp o1 => ?_
  obtain ⟨v, w, rfl, ⟨_, rp⟩, ⟨_, rp2⟩⟩ := rp
  obtain ⟨q1, q2⟩ := r
  obtain ⟨xs, e1, o2⟩ := o1.lift
  obtain ⟨ys, e2, o3⟩ := o2.lift
  obtain ⟨k1, a1, vs, pk1, rfl, s1⟩ := src_of rp fr1.sim e1
  obtain ⟨k2, a2, ws, pk2, rfl, s2⟩ := src_of rp2 fr1.sim e2
  refine ⟨k1, k2, a1, a2, vs, ws, rfl, G.K ▸ s1.now fr1.sim, G.K ▸ s2.now fr1.sim, ?_⟩
  rw [G.K]
  have hz : (zip2E xs ys).length = min vs.length ws.length := by rw [s1.rep.length, s2.rep.length]; simp [zip2E]
  have hl : (enumE (zip2E xs ys)).length = min vs.length ws.length := by rw [← hz]; simp [enumE]
  have st1 : ∀ {g2 H2}, Stb g1 g2 H2 (pk1 ++ pk2) → k1.sq L.K H2 a1 vs ∧ k2.sq L.K H2 a2 ws := fun st => ⟨s1.st _ _ _ (fun _ h => List.mem_append_left _ h) st, s2.st _ _ _ (fun _ h => List.mem_append_right _ h) st⟩
  refine o3 _ H1 g1 (.refl _ _) fr1.sim ⟨pk1 ++ pk2, fun z => by rw [s1.pkm z, s2.pkm z] <;> rfl, fun q hq => ?_, ⟨fun i g2 H2 hi st => ⟨hl ▸ hi, st1 st⟩, fun g2 H2 st => ⟨hl, st1 st⟩, fun i g2 H2 v H3 x S st sm hx y => ?_⟩, ?_⟩
  · rcases List.mem_append.mp hq with h | h
    · exact s1.pks q h
    · exact s2.pks q h
  · obtain ⟨Ti, To, u, u', rfl, n1, n2, ne, hv, hw, rfl⟩ := y
    have hi : i < (enumE (zip2E xs ys)).length := (List.getElem?_eq_some_iff.mp hx).1
    have hx1 : i < xs.length := by rw [← s1.rep.length]; omega
    have hx2 : i < ys.length := by rw [← s2.rep.length]; omega
    have hzi : i < (zip2E xs ys).length := by rw [hz]; omega
    rw [enumE_get hzi] at hx
    have ez := zip2E_get hx1 hx2
    rw [List.getElem?_eq_getElem hzi] at ez
    have ez' := Option.some.inj ez
    rw [ez'] at hx
    cases hx
    obtain ⟨v1, hv1, r1⟩ := s1.rep.get (List.getElem?_eq_getElem hx1)
    obtain ⟨v2, hv2, r2⟩ := s2.rep.get (List.getElem?_eq_getElem hx2)
    rw [hv] at hv1
    rw [hw] at hv2
    cases hv1
    cases hv2
    have g0n := sm.hvNone n1
    have e1 : Ext g2 H2 (g2.pub Ti (.tup [u, u'])) (upd H2 Ti (.tup [u, u'])) := (Ext.new n1).pub n1 g0n
    have m1 : Sim L.K L.fa (g2.pub Ti (.tup [u, u'])) (upd H2 Ti (.tup [u, u'])) S := (sm.new n1).pub upd_same g0n (sm.alNot n1)
    have n2' : (upd H2 Ti (.tup [u, u'])) To = none := by rw [upd_ne (Ne.symm ne)]; exact n2
    have g1n := m1.hvNone n2'
    have rep1 : Rep L.K L.fa (g2.pub Ti (.tup [u, u'])) (.ref Ti) (.tup [xs[i], ys[i]]) := .tup (.of Gh.pub_at) (by rw [sizeLine_eq]; simp) (.cons ((r1.mono st.le).mono (Gh.pub_le g0n)) (.cons ((r2.mono st.le).mono (Gh.pub_le g0n)) .nil))
    refine ⟨(g2.pub Ti (.tup [u, u'])).pub To (.tup [.int (i : Int), .ref Ti]), e1.trans ((Ext.new n2').pub n2' g1n), (m1.new n2').pub upd_same g1n (m1.alNot n2'), .tup (.of Gh.pub_at) (by rw [sizeLine_eq]; simp) (.cons (.int _) (.cons (rep1.mono (Gh.pub_le g1n)) .nil))⟩
  · rw [hl]
    have := s1.len
    omega
end
end Wt
/-! Tgt: targets; list comprehensions. -/
namespace Wt
open PySem PySem.Spec PyProof.Rows L2

/-! ### targets -/
mutual
def tvs : T → List Nat
  | .nm i => [i]
  | .tp ts => tvss ts
def tvss : List T → List Nat
  | [] => []
  | t :: ts => tvs t ++ tvss ts
end
def locB (C : Cn) (i : Nat) (x : Str) : Bool := decide (C.N[i]? = some x) && (decide (C.sc.names.lookup x = some .local) || (decide (C.sc.names.lookup x = some .cell) && C.fn x))
mutual
def chkT (C : Cn) : T → Expr → Bool
  | .nm i, .Name x _ => locB C i x
  | .tp ts, .Tuple es _ _ => chkTs C ts es
  | _, _ => false
def chkTs (C : Cn) : List T → List Expr → Bool
  | [], [] => true
  | t :: ts, e :: es => chkT C t e && chkTs C ts es
  | _, _ => false
end
section
variable {X : Cx} {L : Pl} {Z : XK} {α β γ δ : Type} {Tt : Tb} {c : Cc} {C : Cn} {k : Nat}
def gT (L : Pl) (t : T) : TG := fun v σ H Q => ∃ g0 H0 g env S x env', FR L g0 H0 g H σ env S ∧ Rep L.K L.fa g v x ∧ asgT t x env = some env' ∧ ∀ σ', FR L g0 H0 g H σ' env' S → (∀ j, j ∉ tvs t → σ'[j]? = σ[j]?) → Q σ' H
def gTs (L : Pl) (ts : List T) : TGs := fun vs σ H Q => ∃ g0 H0 g env S xs env', FR L g0 H0 g H σ env S ∧ Reps L.K L.fa g vs xs ∧ asgTs ts xs env = some env' ∧ ∀ σ', FR L g0 H0 g H σ' env' S → (∀ j, j ∉ tvss ts → σ'[j]? = σ[j]?) → Q σ' H
theorem _root_.L2.PG.imp {e : Expr} {t t' : TG} (h : PG X e t) (f : ∀ v σ H Q, t' v σ H Q → t v σ H Q) : PG X e t' := ⟨fun pins s σ H v u Q I r q => h.run pins s σ H v u Q I r (f v σ H Q q)⟩
theorem _root_.L2.PGs.imp {e : List Expr} {t t' : TGs} (h : PGs X e t) (f : ∀ v σ H Q, t' v σ H Q → t v σ H Q) : PGs X e t' := ⟨fun pins s σ H v u Q I r q => h.run pins s σ H v u Q I r (f v σ H Q q)⟩
theorem locB_ok (G : Good X L Tt c C k Z) {i : Nat} {x : Str} (h : locB C i x = true) : X.N[i]? = some x ∧ Loc X.env.scope x ∧ (X.fn x = true ∨ X.env.scope.names.lookup x = some .local) := by
  simp only [locB, Bool.and_eq_true, Bool.or_eq_true, decide_eq_true_eq] at h
  obtain ⟨h1, h2⟩ := h
  rw [← G.sc, ← G.fn] at h2
  refine ⟨by rw [G.N]; exact h1, ?_, ?_⟩
  · rcases h2 with h2 | ⟨h2, _⟩
    · exact .inl h2
    · exact .inr h2
  · rcases h2 with h2 | ⟨_, h2⟩
    · exact .inr h2
    · exact .inl h2
theorem asgE {e : Expr} {es : List Expr} {env : PySem.Env} (h : starB e = false) : assignEach (e :: es) env = (false, assign e env) :: assignEach es env := by
  cases e <;> first
    | rfl
    | cases h
theorem chkT_star {t : T} {e : Expr} (h : chkT C t e = true) : starB e = false := by
  cases t <;> cases e <;> first
    | rfl
    | (simp [chkT] at h)
theorem chkTs_each (env : PySem.Env) : ∀ {ts : List T} {es : List Expr}, chkTs C ts es = true → (assignEach es env).length = ts.length ∧ (assignEach es env).findIdx? (·.1) = none
  | [], [], _ => ⟨rfl, rfl⟩
  | [], _ :: _, h => by simp [chkTs] at h
  | _ :: _, [], h => by simp [chkTs] at h
  | t :: ts, e :: es, h => by
    simp only [chkTs, Bool.and_eq_true] at h
    obtain ⟨i1, i2⟩ := chkTs_each env h.2
    rw [asgE (chkT_star h.1)]
    refine ⟨by simp [i1], ?_⟩
    rw [List.findIdx?_cons, i2]
    rfl
theorem asgTs_len : ∀ {ts : List T} {xs : List PV} {env env' : Env}, asgTs ts xs env = some env' → xs.length = ts.length
  | [], [], _, _, _ => rfl
  | [], _ :: _, _, _, h => by simp [asgTs] at h
  | _ :: _, [], _, _, h => by simp [asgTs] at h
  | t :: ts, x :: xs, env, env', h => by
    rw [asgTs] at h
    split at h
    · rw [List.length_cons, List.length_cons, asgTs_len h]
    · cases h
theorem asgT_len : ∀ (n : Nat), (∀ {t : T} {x : PV} {env env' : Env}, sizeOf t ≤ n → asgT t x env = some env' → env'.length = env.length) ∧ (∀ {ts : List T} {xs : List PV} {env env' : Env}, sizeOf ts ≤ n → asgTs ts xs env = some env' → env'.length = env.length)
  | 0 => ⟨fun {t} _ _ _ h => by cases t <;> simp at h, fun {ts} _ _ _ h => by cases ts <;> simp at h⟩
  | n + 1 => by
    obtain ⟨i1, i2⟩ := asgT_len n
    refine ⟨fun {t x env env'} h e => ?_, fun {ts xs env env'} h e => ?_⟩
    · cases t with
      | nm i =>
        simp only [asgT] at e
        cases e
        simp
      | tp ts =>
        cases x <;> simp only [asgT] at e <;> first
          | (cases e; done)
          | skip
        exact i2 (by simp at h; omega) e
    · cases ts with
      | nil =>
        cases xs with
        | nil => rw [asgTs] at e; cases e; rfl
        | cons _ _ => simp [asgTs] at e
      | cons t ts =>
        cases xs with
        | nil => simp [asgTs] at e
        | cons x xs =>
          rw [asgTs] at e
          split at e
          · rename_i env1 e1
            simp at h
            rw [i2 (by omega) e, i1 (by omega) e1]
          · cases e
mutual
theorem pg_of (G : Good X L Tt c C k Z) : ∀ {t : T} {e : Expr}, chkT C t e = true → PG X e (gT L t)
  | .nm i, .Name x _, h => by
    rw [chkT] at h
    obtain ⟨h1, h2, h3⟩ := locB_ok G h
    refine (pg_name G.nd h1 h2 h3).imp fun v σ H Q ⟨g0, H0, g, env, S, x, env', fr, rp, ea, q⟩ => ?_
    rw [asgT] at ea
    cases ea
    exact q _ (fr.setVal rp) fun j hj => List.getElem?_set_ne fun e => hj (by simp [tvs, e])
  | .tp ts, .Tuple es _ _, h => by
    rw [chkT] at h
    obtain ⟨l1, l2⟩ := chkTs_each X.env h
    refine (pg_tup G.calm (pgs_of G h) l1 l2).imp fun v σ H Q ⟨g0, H0, g, env, S, x, env', fr, rp, ea, q⟩ => ?_
    cases x <;> simp only [asgT] at ea <;> first
      | (cases ea; done)
      | skip
    rename_i xs
    cases rp with
    | @tup a vs _ k1 k2 k3 =>
    refine ⟨_, vs, rfl, ?_, ?_, g0, H0, g, env, S, xs, env', fr, k3, ea, fun σ' f hj => q σ' f fun j hn => hj j (by simpa [tvs] using hn)⟩
    · rw [G.K]
      exact sqTMono fr.sim.sub k1
    · rw [k3.length, asgTs_len ea]
theorem pgs_of (G : Good X L Tt c C k Z) : ∀ {ts : List T} {es : List Expr}, chkTs C ts es = true → PGs X es (gTs L ts)
  | [], [], _ => pgs_nil.imp fun vs σ H Q ⟨g0, H0, g, env, S, xs, env', fr, rp, ea, q⟩ => by
    have := asgTs_len ea
    cases xs with
    | cons _ _ => cases this
    | nil =>
      cases rp
      rw [asgTs] at ea
      cases ea
      exact ⟨rfl, q σ fr fun _ _ => rfl⟩
  | [], _ :: _, h => by simp [chkTs] at h
  | _ :: _, [], h => by simp [chkTs] at h
  | t :: ts, e :: es, h => by
    simp only [chkTs, Bool.and_eq_true] at h
    refine (pgs_cons (pg_of G h.1) (pgs_of G h.2) (by rw [asgE (chkT_star h.1)] <;> rfl)).imp fun vs σ H Q ⟨g0, H0, g, env, S, xs, env', fr, rp, ea, q⟩ => ?_
    have hl := asgTs_len ea
    cases xs with
    | nil => cases hl
    | cons x xs =>
      rw [asgTs] at ea
      split at ea
      · rename_i env1 e1
        cases rp with
        | @cons v vs _ _ r rr =>
        refine ⟨v, vs, rfl, g0, H0, g, env, S, x, env1, fr, r, e1, fun σ1 f1 hj1 => ⟨g0, H0, g, env1, S, xs, env', f1, rr, ea, fun σ2 f2 hj2 => q σ2 f2 fun j hn => ?_⟩⟩
        have hn' : j ∉ tvs t ∧ j ∉ tvss ts := by simpa [tvss, not_or] using hn
        rw [hj2 j hn'.2, hj1 j hn'.1]
      · cases ea
end

/-! ### a block -/
abbrev Cn.blk (C : Cn) (scope : Scope) : Cn := ⟨C.N, relS scope C.sc, fun x => scope.names.lookup x == some .cell⟩
theorem Good.blk (G : Good X L Tt c C k Z) (s : Shared) (H : Hp) (scope : Scope) (cl : List (Str × Addr)) (Ca : Addr) (fp : List Addr) (hk : scope.kind = .function) : Good (X.blk s H scope (compEnvC scope cl Ca X.env) fp) L Tt c (C.blk scope) k E0 where
  K := G.K
  N := G.N
  sc := by
    show relS scope X.env.scope = relS scope C.sc
    rw [G.sc]
  fn := rfl
  kd := hk
  nd := G.nd
  calm := G.calm
  room := G.room
  pas := passL
  po := PassesOwn.never
  okf := G.okf
  defs := G.defs
  con := G.con
  cst := G.cst
  blt := G.blt
  gcd := G.gcd
theorem wipe_eq {σ σ' : L2.St} {vs : List Nat} (h : ∀ j, j ∉ vs → σ'[j]? = σ[j]?) (hl : σ'.length = σ.length) : L2.wipe σ' vs = L2.wipe σ vs := by
  have key : ∀ (ρ : L2.St) (us : List Nat) (j : Nat), (L2.wipe ρ us)[j]? = if j ∈ us ∧ j < ρ.length then some none else ρ[j]? := by
    intro ρ us j
    induction us with
    | nil => simp [L2.wipe]
    | cons v us ih =>
      unfold L2.wipe
      by_cases e : v = j
      · subst e
        by_cases hv : v < ρ.length
        · rw [List.getElem?_set_self (by rw [wipe_length]; exact hv)]
          simp [hv]
        · rw [List.getElem?_eq_none (by rw [List.length_set, wipe_length]; omega)]
          simp [hv]
      · rw [List.getElem?_set_ne e, ih]
        simp only [List.mem_cons]
        have : ¬ j = v := fun z => e z.symm
        simp [this]
  apply List.ext_getElem?
  intro j
  rw [key, key, hl]
  by_cases hj : j ∈ vs
  · by_cases hl2 : j < σ.length
    · simp [hj, hl2]
    · rw [if_neg (fun z => hl2 z.2), if_neg (fun z => hl2 z.2), List.getElem?_eq_none (by omega), List.getElem?_eq_none (by omega)]
  · rw [if_neg (fun z => hj z.1), if_neg (fun z => hj z.1)]
    exact h j hj
theorem pts_of {ifs : List Expr} {d : Oe} (h : (d = .no ∧ ifs = []) ∨ ∃ e ex, d = .yes e ∧ ifs = [ex] ∧ PT X ex (denM L RpB Z fun env => ev c e env >>= asBM)) : PTs X ifs (denM L RpB Z (evC c d)) := by
  rcases h with ⟨rfl, rfl⟩ | ⟨e, ex, rfl, rfl, h⟩
  · refine ⟨fun pins s σ H Q I ⟨g0, H0, g, env, S, fr, o⟩ => pts_nil.run pins s σ H Q I ?_⟩
    rw [evC] at o
    exact o true H g (.refl _ _) fr.sim rfl
  · refine ⟨fun pins s σ H Q I ⟨g0, H0, g, env, S, fr, o⟩ => (pts_one h).run pins s σ H Q I ⟨g0, H0, g, env, S, fr, ?_⟩⟩
    rw [evC] at o
    exact o
/-- an exception is not looked at -/
theorem OutG.noerr {R : Gh → Hp → β → α → Prop} {m : M α} {g : Gh} {H : Hp} {S : Sto} {Q : β → Hp → Prop} (o : OutG L R Z g H ((noerr m).go S) Q) : OutG L R E0 g H (m.go S) Q := by
  have o2 : OutG L R Z g H (match m.go S with
    | .ok a S' => .ok a S'
    | _ => .bad) Q := o
  cases e : m.go S with
  | ok a S' => rw [e] at o2; exact o2
  | err x S' => rw [e] at o2; exact o2.elim
  | bad => rw [e] at o2; exact o2.elim
theorem noerr_bind {R2 : Gh → Hp → δ → γ → Prop} {m : M α} {f : α → M γ} {g : Gh} {H : Hp} {S : Sto} {Q : δ → Hp → Prop} (o : OutG L R2 Z g H ((noerr m >>= f).go S) Q) : ∃ a S', m.go S = .ok a S' ∧ OutG L R2 Z g H ((f a).go S') Q := by
  rw [bind_go] at o
  have e : (noerr m).go S = (match m.go S with
    | .ok a S' => .ok a S'
    | _ => .bad) := rfl
  rw [e] at o
  cases e : m.go S with
  | ok a S' => rw [e] at o; exact ⟨a, S', rfl, o⟩
  | err x S' => rw [e] at o; exact o.elim
  | bad => rw [e] at o; exact o.elim
theorem lcGo_len {f : PV → M (Option PV)} : ∀ {xs : List PV} {S S' : Sto} {ys : List PV}, (lcGo f xs).go S = .ok ys S' → ys.length ≤ xs.length
  | [], S, S', ys, h => by
    rw [lcGo] at h
    cases h
    exact Nat.le_refl _
  | x :: xs, S, S', ys, h => by
    rw [lcGo, bind_go] at h
    cases e : (f x).go S with
    | ok o S1 =>
      rw [e] at h
      simp only [bind_go] at h
      cases e2 : (lcGo f xs).go S1 with
      | ok r S2 =>
        rw [e2] at h
        have hl := lcGo_len e2
        cases o <;> (cases h; simp; omega)
      | err _ _ => rw [e2] at h; cases h
      | bad => rw [e2] at h; cases h
    | err _ _ => rw [e] at h; cases h
    | bad => rw [e] at h; cases h
theorem lcGo_split {f : PV → M (Option PV)} {x : PV} {xs : List PV} {S S' : Sto} {ys : List PV} (h : (lcGo f (x :: xs)).go S = .ok ys S') : ∃ o S1 r, (f x).go S = .ok o S1 ∧ (lcGo f xs).go S1 = .ok r S' ∧ ys = (match o with
    | some y => y :: r
    | none => r) := by
  rw [lcGo, bind_go] at h
  cases e : (f x).go S with
  | ok o S1 =>
    rw [e] at h
    simp only [bind_go] at h
    cases e2 : (lcGo f xs).go S1 with
    | ok r S2 =>
      rw [e2] at h
      cases o <;> (cases h; exact ⟨_, S1, _, rfl, e2, rfl⟩)
    | err _ _ => rw [e2] at h; cases h
    | bad => rw [e2] at h; cases h
  | err _ _ => rw [e] at h; cases h
  | bad => rw [e] at h; cases h
theorem ok_bind {m : M α} {f : α → M β} {S S' : Sto} {r : β} (h : (m >>= f).go S = .ok r S') : ∃ a S1, m.go S = .ok a S1 ∧ (f a).go S1 = .ok r S' := by
  rw [bind_go] at h
  cases e : m.go S with
  | ok a S1 => rw [e] at h; exact ⟨a, S1, rfl, h⟩
  | err _ _ => rw [e] at h; cases h
  | bad => rw [e] at h; cases h
theorem lift_bind {x : Option α} {f : α → M β} {S S' : Sto} {r : β} (h : ((lift x >>= f).go S) = .ok r S') : ∃ a, x = some a ∧ (f a).go S = .ok r S' := by
  cases x with
  | none => cases h
  | some a => exact ⟨a, rfl, h⟩
theorem den_ok {R : Hp → Gh → Hp → β → α → Prop} {m : Env → M α} {g0 g : Gh} {H0 H : Hp} {σ : L2.St} {env : Env} {S S1 : Sto} {r : α} {Q : β → Hp → Prop} (fr : FR L g0 H0 g H σ env S) (h : (m env).go S = .ok r S1)
    (q : ∀ v H' g', Ext g H g' H' → Sim L.K L.fa g' H' S1 → R H g' H' v r → Q v H') : denM L R Z m σ H Q :=
  ⟨g0, H0, g, env, S, fr, by rw [h]; exact q⟩
theorem Ext.hid {g1 g5 : Gh} {H1 H4 : Hp} {D : Addr} {o : HO} (e : Ext g1 H1 g5 H4) (h1 : H1 D = none) : Ext g1 H1 g5 (upd H4 D o) where
  hv := e.hv
  al := e.al
  keep := fun a u h hn => by
    rw [upd_ne (ne_of_none h h1)]
    exact e.keep a u h hn
  old := fun a h => by
    by_cases q : a = D
    · rw [q]; exact h1
    · rw [upd_ne q] at h; exact e.old a h
  newV := e.newV
  newA := e.newA
theorem Sim.hid2 {g5 : Gh} {H4 : Hp} {S : Sto} {D : Addr} {o : HO} (s : Sim L.K L.fa g5 H4 S) (hv : g5.Hv D = none) (ha : D ∉ g5.al) : Sim L.K L.fa g5 (upd H4 D o) S where
  sub := fun a u h => by
    have ne : a ≠ D := fun q => by rw [q, hv] at h; cases h
    rw [upd_ne ne]; exact s.sub a u h
  len := s.len
  nd := s.nd
  pool := fun n a xs h1 h2 => by
    obtain ⟨vs, e, l, r⟩ := s.pool n a xs h1 h2
    have ne : a ≠ D := fun q => ha (q ▸ List.mem_of_getElem? h1)
    exact ⟨vs, by rw [upd_ne ne]; exact e, l, r⟩
  hid := s.hid
theorem Ext.hv0 {g1 g2 : Gh} {H1 H2 : Hp} {D : Addr} {o : HO} (e : Ext g1 H1 g2 H2) (h : H1 D = some o) (hv : g1.Hv D = none) : g2.Hv D = none := by
  cases q : g2.Hv D with
  | none => rfl
  | some u =>
    rcases e.newV D u q with z | z
    · rw [hv] at z; cases z
    · rw [h] at z; cases z
theorem Ext.al0 {g1 g2 : Gh} {H1 H2 : Hp} {D : Addr} {o : HO} (e : Ext g1 H1 g2 H2) (h : H1 D = some o) (ha : D ∉ g1.al) : D ∉ g2.al := fun q => by
  rcases e.newA D q with z | z
  · exact ha z
  · rw [h] at z; cases z
theorem stb_of {g1 g' : Gh} {H1 H' : Hp} {S : Sto} {pk : List (Addr × List V)} (hpk : ∀ q ∈ pk, H1 q.1 = some (.lst q.2) ∧ q.1 ∉ g1.al) (e : Ext g1 H1 g' H') (s : Sim L.K L.fa g' H' S) : Stb g1 g' H' pk :=
  ⟨e.le, s.sub, fun q hq => e.keep _ _ (hpk q hq).1 (hpk q hq).2⟩
def lcBody (c : Cc) (elt : E) (t : T) (d : Oe) (vs : List Nat) (env : Env) : PV → M (Option PV) := fun x => lift (asgT t x (wipeE env vs)) >>= fun env2 =>
      evC c d env2 >>= fun b => if b = true then ev c elt env2 >>= fun y => Pure.pure (some y) else Pure.pure none
theorem wipeE_len (env : Env) : ∀ vs : List Nat, (wipeE env vs).length = env.length
  | [] => rfl
  | v :: vs => by unfold wipeE; rw [List.length_set, wipeE_len env vs]
/-- what is known at a turn's start -/
structure LcI (L : Pl) (g1 : Gh) (H1 : Hp) (D : Addr) (f : PV → M (Option PV)) (xs ys : List PV) (Se : Sto) (i : Nat) (H' : Hp) (g' : Gh) (Si : Sto) (acc : List V) (ya yr : List PV) : Prop where
  ext : Ext g1 H1 g' H'
  sim : Sim L.K L.fa g' H' Si
  at' : H' D = some (.lst acc)
  rep : Reps L.K L.fa g' acc ya
  hv : g'.Hv D = none
  al : D ∉ g'.al
  len : acc.length ≤ i
  go : (lcGo f (xs.drop i)).go Si = .ok yr Se
  eq : ys = ya ++ yr
theorem e_lcF (G : Good X L Tt c C k Z) {m : Bool} {elt : E} {t : T} {it : It} {d : Oe} {own : List (Str × Nat)} {tg iter eltx : Expr} {ifs : List Expr} {scope : Scope} {pos : Pos}
    (hi : PI X tg iter (denM L (RIt L m) Z (evI c it))) (hb : blkC C.N C.sc scope own = true) (hv : ∀ j ∈ tvs t, j ∈ own.map (·.2)) (hg : chkT (C.blk scope) t tg = true) (hs : ∀ env x, foldedSetIterable iter env x = pure x)
    (ht : ∀ X', Good X' L Tt c (C.blk scope) k E0 → PTs X' ifs (denM L RpB E0 (evC c d))) (he : ∀ X', Good X' L Tt c (C.blk scope) k E0 → PE X' eltx (denM L (Rp L) E0 (ev c elt))) :
    PE X (.ListComp eltx [⟨tg, iter, ifs, 0⟩] scope pos) (denM L (RpF L) Z (ev c (.lc elt t it d own))) ∧ ∀ {σ : L2.St} {H : Hp} {Q : VK}, denM L (RpF L) Z (ev c (.lc elt t it d own)) σ H Q → tLc (denM L (RIt L m) Z (evI c it)) (gT L t) (denM L RpB E0 (evC c d)) (denM L (Rp L) E0 (ev c elt)) (own.map (·.2)) σ H Q := by
  have key : ∀ {σ : L2.St} {H : Hp} {Q : VK}, denM L (RpF L) Z (ev c (.lc elt t it d own)) σ H Q → tLc (denM L (RIt L m) Z (evI c it)) (gT L t) (denM L RpB E0 (evC c d)) (denM L (Rp L) E0 (ev c elt)) (own.map (·.2)) σ H Q := by
    intro σ H Q ⟨g0, H0, g, env, S, fr, o⟩
    have e0 : ev c (.lc elt t it d own) env = evI c it env >>= fun xs => noerr (lcGo (lcBody c elt t d (own.map (·.2)) env) xs) >>= fun ys => Pure.pure (.lst ys) := by rw [ev]; rfl
    rw [e0] at o
    refine seqM fr o fun xs J S1 H1 g1 fr1 ex ⟨pk, _, hpk, ok, hl⟩ o1 => ?_
    obtain ⟨ys, Se, hys, o2⟩ := noerr_bind o1
    intro D hD
    generalize own.map (·.2) = vs at hys hv ⊢
    generalize hf : lcBody c elt t d vs env = f at hys
    refine ⟨fun i n H' => n = xs.length - i ∧ i ≤ xs.length ∧ ∃ g' Si acc ya yr, LcI L g1 H1 D f xs ys Se i H' g' Si acc ya yr, ⟨xs.length, by simp, Nat.zero_le _, g1, S1, [], [], ys, Ext.new hD, fr1.sim.new hD, upd_same, .nil, fr1.sim.hvNone hD, fr1.sim.alNot hD, Nat.le_refl _, hys, rfl⟩, ?_⟩
    rintro i n H' ⟨rfl, hi, g', Si, acc, ya, yr, I⟩
    have st := stb_of hpk I.ext I.sim
    by_cases hlt : i < xs.length
    · refine .inr ⟨ok.go i g' H' hlt st, fun H'' => ∃ g' Si acc ya yr, LcI L g1 H1 D f xs ys Se (i + 1) H'' g' Si acc ya yr, fun H'' nx => ⟨xs.length - (i + 1), by omega, rfl, hlt, nx⟩, fun x H2 y => ?_⟩
      have hx : xs[i]? = some xs[i] := List.getElem?_eq_getElem hlt
      obtain ⟨g2, e2, s2, rx⟩ := ok.yld i g' H' x H2 xs[i] Si st I.sim hx y
      have hgo := I.go
      rw [List.drop_eq_getElem_cons hlt] at hgo
      obtain ⟨oo, S3, r3, hf1, hf2, hy⟩ := lcGo_split hgo
      rw [← hf] at hf1
      unfold lcBody at hf1
      obtain ⟨env2, ea, hf3⟩ := lift_bind hf1
      obtain ⟨b, Sb, hb1, hb2⟩ := ok_bind hf3
      have frw := (fr1.step (I.ext.trans e2) s2).wipe vs
      refine ⟨g0, H0, g2, wipeE env vs, Si, xs[i], env2, frw, rx, ea, fun σ2 f2 hj => ⟨?_, ?_⟩⟩
      · have l2 : σ2.length = σ.length := by
          rw [f2.len, (asgT_len (sizeOf t)).1 (Nat.le_refl _) ea, wipeE_len, fr1.len]
        refine wipe_eq (fun j hn => ?_) l2
        rw [hj j fun z => hn (hv j z), wipe_out hn]
      · refine den_ok f2 hb1 fun b' H3 g3 e3 s3 rb => ?_
        cases rb
        have e13 := I.ext.trans (e2.trans e3)
        have eD := e2.trans e3
        cases b with
        | false =>
          rw [if_neg Bool.false_ne_true] at hb2 ⊢
          cases hb2
          exact ⟨g3, _, acc, ya, yr, e13, s3, eD.keep _ _ I.at' I.al, I.rep.mono eD.le, eD.hv0 I.at' I.hv, eD.al0 I.at' I.al, Nat.le_succ_of_le I.len, by rw [hy]; exact hf2, I.eq⟩
        | true =>
          rw [if_pos rfl] at hb2 ⊢
          obtain ⟨yv, S4, hy1, hy2⟩ := ok_bind hb2
          cases hy2
          refine den_ok (f2.step e3 s3) hy1 fun v H4 g4 e4 s4 rv => ?_
          have eD4 := eD.trans e4
          have at4 := eD4.keep _ _ I.at' I.al
          have hv4 := eD4.hv0 I.at' I.hv
          have al4 := eD4.al0 I.at' I.al
          have hlen := I.len
          refine ⟨acc, at4, by omega, g4, _, acc ++ [v], ya ++ [yv], r3, (I.ext.trans eD4).hid hD, s4.hid2 hv4 al4, upd_same, (I.rep.mono eD4.le).append (.cons rv .nil), hv4, al4, by simpa using hlen, hf2, ?_⟩
          rw [I.eq, hy]
          simp
    · have ei : i = xs.length := by omega
      subst ei
      have hgo := I.go
      rw [List.drop_length] at hgo
      rw [lcGo] at hgo
      cases hgo
      refine .inl ⟨ok.stop g' H' st, ?_⟩
      have hlen := I.len
      refine o2 (.ref D) H' g' I.ext I.sim ⟨D, acc, ys, rfl, rfl, I.at', by omega, ?_, I.hv, I.al, ex.old D hD⟩
      rw [I.eq, List.append_nil]
      exact I.rep
  have ok : BlkOk X.N X.env.scope scope own := blkOk_by (by rw [G.N, G.sc]; exact hb)
  exact ⟨(pe_lc G.calm G.nd hi ok (fun s H Ca cl fp => pg_of (G.blk s H scope cl Ca fp ok.kind) hg) (fun s H Ca cl fp => ht _ (G.blk s H scope cl Ca fp ok.kind)) (fun s H Ca cl fp => he _ (G.blk s H scope cl Ca fp ok.kind)) (fun x => hs _ x)).imp fun σ H Q h => key h, key⟩
end
end Wt
/-! Stm: statements of the small language. -/
namespace Wt
open PySem PySem.Spec PyProof.Rows L2

/-! ### outcomes -/
theorem Le.refl (g : Gh) : Le g g := ⟨fun _ _ h => h, ⟨[], by simp⟩⟩
theorem Le.trans {a b d : Gh} (x : Le a b) (y : Le b d) : Le a d := ⟨fun p o h => y.hv p o (x.hv p o h), by
  obtain ⟨m1, e1⟩ := x.al
  obtain ⟨m2, e2⟩ := y.al
  exact ⟨m1 ++ m2, by rw [e2, e1, List.append_assoc]⟩⟩
def OutS (L : Pl) (Z : XK) (g0 : Gh) (H0 : Hp) (g : Gh) (o : Out Fl) (D : Ends) : Prop := match o with
  | .ok (.nx env') S' => ∀ σ' H' g', Le g g' → FR L g0 H0 g' H' σ' env' S' → D.nx σ' H'
  | .ok (.rt v) S' => ∀ w H' g', Ext g0 H0 g' H' → Sim L.K L.fa g' H' S' → Rep L.K L.fa g' w v → D.rt w H'
  | .err x S' => ∀ cl d H' g', Ext g0 H0 g' H' → Sim L.K L.fa g' H' S' → RepX L.K L.fa L.fc L.fld g' H' cl d x → Z cl d H'
  | .bad => False
def denS (L : Pl) (Z : XK) (m : Env → M Fl) : TS := fun D σ H => ∃ g0 H0 g env S, FR L g0 H0 g H σ env S ∧ OutS L Z g0 H0 g ((m env).go S) D
section
variable {X : Cx} {L : Pl} {Z : XK} {α β γ δ : Type} {Tt : Tb} {c : Cc} {C : Cn} {k : Nat} {g0 g g1 : Gh} {H0 H H1 : Hp} {σ : L2.St} {env : Env} {S : Sto} {D : Ends}
theorem OutS.from {o : Out Fl} (h : OutS L Z g0 H0 g o D) (e : Le g g1) : OutS L Z g0 H0 g1 o D := by
  cases o with
  | ok r S' =>
    cases r with
    | nx env' => exact fun σ' H' g' l f => h σ' H' g' (e.trans l) f
    | rt v => exact h
  | err x S' => exact h
  | bad => exact h
theorem seqE {R1 : Hp → Gh → Hp → β → α → Prop} {m : Env → M α} {f : α → M Fl} {Q : β → Hp → Prop}
    (fr : FR L g0 H0 g H σ env S) (o : OutS L Z g0 H0 g ((m env >>= f).go S) D)
    (k : ∀ r v S1 H1 g1, (m env).go S = .ok r S1 → FR L g0 H0 g1 H1 σ env S1 → Ext g H g1 H1 → R1 H g1 H1 v r → OutS L Z g0 H0 g1 ((f r).go S1) D → Q v H1) : denM L R1 Z m σ H Q := by
  refine ⟨g0, H0, g, env, S, fr, ?_⟩
  rw [bind_go] at o
  cases e : (m env).go S with
  | ok r S' =>
    rw [e] at o
    exact fun v H' g' ex sm rp => k r v S' H' g' e (fr.step ex sm) ex rp (o.from ex.le)
  | err x S' =>
    rw [e] at o
    exact fun cl d H' g' ex sm rx => o cl d H' g' (fr.ext.trans ex) sm rx
  | bad =>
    rw [e] at o
    exact o.elim
theorem OutS.lift {x : Option α} {f : α → M Fl} (o : OutS L Z g0 H0 g ((lift x >>= f).go S) D) : ∃ y, x = some y ∧ OutS L Z g0 H0 g ((f y).go S) D := by
  cases x with
  | none => exact (show False from o).elim
  | some y => exact ⟨y, rfl, o⟩
theorem OutS.asI {r : PV} {f : Int → M Fl} (o : OutS L Z g0 H0 g ((Wt.lift (asI r) >>= f).go S) D) : ∃ i, r = .int i ∧ OutS L Z g0 H0 g ((f i).go S) D := by
  obtain ⟨y, e, o2⟩ := o.lift
  cases r <;> simp only [Wt.asI] at e <;> first
    | (cases e; done)
    | skip
  cases e
  exact ⟨_, rfl, o2⟩
theorem OutS.own {i : Nat} {f : List PV → M Fl} (o : OutS L Z g0 H0 g ((ownOf env i >>= f).go S) D) : ∃ xs, env[i]? = some (.own xs) ∧ OutS L Z g0 H0 g ((f xs).go S) D := by
  unfold ownOf at o
  split at o
  · exact ⟨_, by assumption, o⟩
  · exact (show False from o).elim
theorem OutS.setI {i : Nat} {s : Slot} (o : OutS L Z g0 H0 g ((setI env i s).go S) D) : OutS L Z g0 H0 g (.ok (.nx (env.set i s)) S) D := by
  unfold Wt.setI at o
  split at o
  · exact o
  · exact o.elim

/-! ### what the compiler stores otherwise -/
def swE1 (C : Cn) (tg : Expr) (scope : Scope) (l : Nat) : Bool := match tg with
  | .Name t pos => C.sc.names.lookup t == some .local && pos.line == l && !(scope.names.any fun (n, k) => n == t && (k == .local || k == .cell))
  | _ => false
def swE (C : Cn) (tg ex : Expr) : Bool := match ex with
  | .ListComp _ _ s p => swE1 C tg s p.line
  | .SetComp _ _ s p => swE1 C tg s p.line
  | .DictComp _ _ _ s p => swE1 C tg s p.line
  | _ => false
theorem blockK (G : Good X L Tt c C k Z) : X.env.blockKind = .function := by
  unfold Env.blockKind
  rw [G.sc, G.kd]
  rfl
theorem sw_ok (G : Good X L Tt c C k Z) {tg ex : Expr} {l : Nat} : swapsWith ex (some tg) l X.env = pure (swE C tg ex) := by
  have key : ∀ t, X.env.kindOf t = C.sc.names.lookup t := fun t => by
    unfold Env.kindOf
    rw [G.sc]
  cases ex <;> first
    | rfl
    | (cases tg <;> first
        | rfl
        | (unfold swapsWith swE swE1
           dsimp only
           rw [blockK G, key]
           rfl))
def sw2 (C : Cn) (ts vs : List Expr) : Option (List Str) :=
  if !(ts.length == 2 || ts.length == 3) || vs.length != ts.length then none
  else if vs.any (fun | .Starred .. => true | _ => false) then none
  else
    let line := (ts.head?.map (·.pos.line)).getD 0
    let names := ts.filterMap fun
      | .Name id pos => if C.sc.names.lookup id == some .local && pos.line == line then some id else none
      | _ => none
    if names.length != ts.length || names.eraseDups.length != names.length then none
    else if vs.all (foldedForSure 8) then none
    else some names
def sw2Ok (C : Cn) (ts vs : List Expr) : Bool := !(vs.all (constantsAlone 8)) || vs.all (foldedForSure 8)
theorem ite_pure {α : Type} {q : Prop} [Decidable q] {a a' : Sem α} {b b' : α} (h : a = pure b) (h' : ¬ q → a' = pure b') : (if q then a else a') = pure (if q then b else b') := by
  by_cases e : q
  · rw [if_pos e, if_pos e, h]
  · rw [if_neg e, if_neg e, h' e]
theorem sw2_ok (G : Good X L Tt c C k Z) {ts vs : List Expr} {k1 k2 : Nat} {p1 p2 : Pos} (h : sw2Ok C ts vs = true) : swappedStores [.Tuple ts k1 p1] (.Tuple vs k2 p2) X.env = pure (sw2 C ts vs) := by
  have key : ∀ t, X.env.kindOf t = C.sc.names.lookup t := fun t => by
    unfold Env.kindOf
    rw [G.sc]
  unfold swappedStores sw2
  dsimp only
  simp only [key, blockK G]
  by_cases h1 : (!(ts.length == 2 || ts.length == 3) || vs.length != ts.length) = true
  · rw [if_pos h1, if_pos (by rw [h1]; rfl)]
  rw [if_neg h1, if_neg (by simpa using h1)]
  refine ite_pure rfl fun _ => ite_pure rfl fun _ => ite_pure rfl fun h4 => ?_
  unfold sw2Ok at h
  rw [Bool.eq_false_iff.mpr h4, Bool.or_false] at h
  rw [if_neg (by simpa using h)]
  rfl
def tupB : Expr → Bool
  | .Tuple _ _ _ => true
  | _ => false
theorem sw_none {ex tg : Expr} {env : PySem.Env} (h : tupB ex = false) : swappedStores [tg] ex env = pure none := by
  cases ex <;> first
    | (cases h; done)
    | (cases tg <;> rfl)
theorem sw_none2 {ex : Expr} {env : PySem.Env} {i : Expr} {a : Expr} {p : Pos} : swappedStores [.Subscript i a p] ex env = pure none := by
  cases ex <;> rfl

/-! ### name = value -/
def lineB (apos cpos : Pos) : Bool := apos.endLine == cpos.line
theorem limS2 {n : Nat} (h : n < LIM) : n < sizeLine := by rw [sizeLine_eq]; unfold LIM at h; omega
theorem set_of (G : Good X L Tt c C k Z) {i : Nat} {x : Str} {ex : Expr} {te : TE} {pos pos' : Pos} (hl : locB C i x = true) (hs : swE C (.Name x pos') ex = false) (he : PE X ex te) :
    PS X (.Assign [.Name x pos'] ex pos) (fun D σ H => te σ H fun v H1 => D.nx (σ.set i (some v)) H1) := by
  obtain ⟨h1, h2, h3⟩ := locB_ok G hl
  exact ps_set G.nd h1 h2 he (by rw [sw_ok G, hs]) h3
theorem s_set {st : Stmt} {i : Nat} {e : E} (h : PS X st (fun D σ H => denM L (Rp L) Z (ev c e) σ H fun v H1 => D.nx (σ.set i (some v)) H1)) : PS X st (denS L Z (evS c (.set i e))) := by
  refine h.imp fun D σ H ⟨g0, H0, g, env, S, fr, o⟩ => ?_
  rw [evS] at o
  refine seqE fr o fun r v S1 H1 g1 _ fr1 ex rp o1 => ?_
  exact o1.setI _ H1 g1 (Le.refl _) (fr1.setVal rp)
theorem own_apart (fr : FR L g0 H0 g H σ env S) {p : Addr} (hp : H p = none) {j : Nat} {ys : List PV} (h : env[j]? = some (.own ys)) (hs : σ[j]? = some (some (.ref p))) : False := by
  obtain ⟨q, vs, k1, k2, _⟩ := fr.own j ys h
  rw [k1] at hs
  cases hs
  rw [hp] at k2
  cases k2
theorem s_setO {st : Stmt} {i : Nat} {e : E} (h : PS X st (fun D σ H => denM L (RpF L) Z (ev c e) σ H fun v H1 => D.nx (σ.set i (some v)) H1)) : PS X st (denS L Z (evS c (.setO i e))) := by
  refine h.imp fun D σ H ⟨g0, H0, g, env, S, fr, o⟩ => ?_
  rw [evS] at o
  refine seqE fr o fun r v S1 H1 g1 _ fr1 ex ⟨p, vs, xs, e1, e2, k1, k2, k3, k4, k5, k6⟩ o1 => ?_
  subst e1 e2
  exact OutS.setI (s := .own xs) o1 _ H1 g1 (Le.refl _) (fr1.setOwn k1 k2 k3 k4 k5 (fr.ext.old _ k6) fun j ys hj hs => (own_apart fr k6 hj hs).elim)
/-- name = [..] on the name's line -/
theorem set_lc (G : Good X L Tt c C k Z) {m : Bool} {i : Nat} {y : Str} {py : Pos} {elt : E} {t : T} {it : It} {d : Oe} {own : List (Str × Nat)} {tg iter eltx : Expr} {ifs : List Expr} {scope : Scope} {pos spos : Pos}
    (hy : C.N[i]? = some y) (hyl : C.sc.names.lookup y = some .local) (hsw : swE C (.Name y py) (.ListComp eltx [⟨tg, iter, ifs, 0⟩] scope pos) = true)
    (hi : PI X tg iter (denM L (RIt L m) Z (evI c it))) (hb : blkC C.N C.sc scope own = true) (hv : ∀ j ∈ tvs t, j ∈ own.map (·.2)) (hg : chkT (C.blk scope) t tg = true) (hs : ∀ env x, foldedSetIterable iter env x = pure x)
    (ht : ∀ X', Good X' L Tt c (C.blk scope) k E0 → PTs X' ifs (denM L RpB E0 (evC c d))) (he : ∀ X', Good X' L Tt c (C.blk scope) k E0 → PE X' eltx (denM L (Rp L) E0 (ev c elt))) :
    PS X (.Assign [.Name y py] (.ListComp eltx [⟨tg, iter, ifs, 0⟩] scope pos) spos) (fun D σ H => denM L (RpF L) Z (ev c (.lc elt t it d own)) σ H fun v H1 => D.nx (σ.set i (some v)) H1) := by
  have ok : BlkOk X.N X.env.scope scope own := blkOk_by (by rw [G.N, G.sc]; exact hb)
  obtain ⟨_, key⟩ := e_lcF (pos := pos) G hi hb hv hg hs ht he
  exact (ps_setLc G.calm G.nd (by rw [G.N]; exact hy) (by rw [G.sc]; exact hyl) (by rw [sw_ok G, hsw]) hi ok (fun s H Ca cl fp => pg_of (G.blk s H scope cl Ca fp ok.kind) hg) (fun s H Ca cl fp => ht _ (G.blk s H scope cl Ca fp ok.kind)) (fun s H Ca cl fp => he _ (G.blk s H scope cl Ca fp ok.kind)) (fun x => hs _ x)).imp fun D σ H h => key h
/-- target = value -/
theorem s_asg (G : Good X L Tt c C k Z) {t : T} {e : E} {tg ex : Expr} {pos : Pos} (ht : chkT C t tg = true) (hs : swE C tg ex = false) (hw : swappedStores [tg] ex X.env = pure none) (he : PE X ex (denM L (Rp L) Z (ev c e))) :
    PS X (.Assign [tg] ex pos) (denS L Z (evS c (.asg t e))) := by
  refine (ps_asg he (pg_of G ht) (show swapsWith ex (some tg) pos.line X.env = pure false by rw [sw_ok G, hs]) hw (by rw [asgE (chkT_star ht)] <;> rfl)).imp fun D σ H ⟨g0, H0, g, env, S, fr, o⟩ => ?_
  rw [evS] at o
  refine seqE fr o fun r v S1 H1 g1 _ fr1 ex rp o1 => ?_
  obtain ⟨env', ea, o2⟩ := o1.lift
  exact ⟨g0, H0, g1, env, S1, r, env', fr1, rp, ea, fun σ' f _ => o2 σ' H1 g1 (Le.refl _) f⟩

/-! ### a, b = x, y -/
inductive RFs (L : Pl) : Hp → Gh → Hp → List Bool → List V → List PV → Prop
  | nil {H0 : Hp} {g : Gh} {H : Hp} : RFs L H0 g H [] [] []
  | val {H0 H1 : Hp} {g : Gh} {H : Hp} {v : V} {x : PV} {bs : List Bool} {vs : List V} {xs : List PV} : Rep L.K L.fa g v x → (∀ a, H1 a = none → H0 a = none) → RFs L H1 g H bs vs xs → RFs L H0 g H (false :: bs) (v :: vs) (x :: xs)
  | own {H0 H1 : Hp} {g : Gh} {H : Hp} {p : Addr} {x : PV} {bs : List Bool} {vs : List V} {xs : List PV} : RpF L H0 g H (.ref p) x → H1 p ≠ none → (∀ a, H1 a = none → H0 a = none) → RFs L H1 g H bs vs xs → RFs L H0 g H (true :: bs) (.ref p :: vs) (x :: xs)
def RF (L : Pl) (b : Bool) : Hp → Gh → Hp → V → PV → Prop := match b with
  | true => RpF L
  | false => Rp L
theorem RpF.step {H0 : Hp} {g1 g2 : Gh} {H1 H2 : Hp} {v : V} {x : PV} (h : RpF L H0 g1 H1 v x) (e : Ext g1 H1 g2 H2) : RpF L H0 g2 H2 v x := by
  obtain ⟨p, vs, xs, e1, e2, k1, k2, k3, k4, k5, k6⟩ := h
  exact ⟨p, vs, xs, e1, e2, e.keep _ _ k1 k5, k2, k3.mono e.le, e.hv0 k1 k4, e.al0 k1 k5, k6⟩
inductive AllX (X : Cx) (L : Pl) (c : Cc) (Z : XK) : List Bool → Es → List Expr → Prop
  | nil : AllX X L c Z [] .nil []
  | cons {b : Bool} {bs : List Bool} {e : E} {es : Es} {ex : Expr} {exs : List Expr} : PE X ex (denM L (RF L b) Z (ev c e)) → starB ex = false → AllX X L c Z bs es exs → AllX X L c Z (b :: bs) (.cons e es) (ex :: exs)
theorem AllX.pa {bs : List Bool} {es : Es} {exs : List Expr} (h : AllX X L c Z bs es exs) : PA X exs (denM L (fun H0 g H vs xs => RFs L H0 g H bs vs xs) Z (evs c es)) := by
  induction h with
  | nil =>
    refine pa_nil.imp fun σ H Q ⟨g0, H0, g, env, S, fr, o⟩ => ?_
    rw [evs] at o
    exact o [] H g (.refl _ _) fr.sim .nil
  | @cons b bs e es ex exs h1 hs _ ih =>
    refine (pa_cons h1 ih (star_no hs)).imp fun σ H Q ⟨g0, H0, g, env, S, fr, o⟩ => ?_
    rw [evs] at o
    refine seqM fr o fun r v S1 H1 g1 fr1 ex rp o1 => ?_
    refine seqM fr1 o1 fun rs vs S2 H2 g2 fr2 ex2 rps o2 => ?_
    refine o2 (v :: vs) H2 g2 (.refl _ _) fr2.sim ?_
    cases b with
    | false => exact .val (Rep.mono ex2.le (show Rep L.K L.fa g1 v r from rp)) ex.old rps
    | true =>
      have rp' : RpF L H g1 H1 v r := rp
      have st := rp'.step ex2
      obtain ⟨p, us, ys, e1, e2, k1, _⟩ := rp'
      subst e1
      exact .own st (by rw [k1]; simp) ex.old rps
def setAll : L2.St → List Nat → List V → L2.St
  | σ, [], _ => σ
  | σ, _ :: _, [] => σ
  | σ, i :: is, v :: vs => setAll (σ.set i (some v)) is vs
theorem par_fr : ∀ {ts : List (Nat × Bool)} {H1 : Hp} {σ : L2.St} {env env' : Env} {vs : List V} {xs : List PV}, FR L g0 H0 g H σ env S → (∀ (j : Nat) (p : Addr) (ys : List PV), env[j]? = some (Slot.own ys) → σ[j]? = some (some (V.ref p)) → H1 p ≠ none) → (∀ a, H1 a = none → H0 a = none) →
    RFs L H1 g H (ts.map (·.2)) vs xs → parE ts xs env = some env' → FR L g0 H0 g H (setAll σ (ts.map (·.1)) vs) env' S
  | [], H1, σ, env, env', vs, xs, fr, _, _, r, e => by
    cases r
    rw [parE] at e
    cases e
    exact fr
  | (i, false) :: ts, H1, σ, env, env', vs, xs, fr, ho, hn, r, e => by
    cases r with
    | @val _ H2 _ _ v x _ vs' xs' rv hn2 rr =>
      rw [parE] at e
      have z2 : ∀ (j : Nat) (p : Addr) (ys : List PV), (env.set i (.val x))[j]? = some (Slot.own ys) → (σ.set i (some v))[j]? = some (some (V.ref p)) → H2 p ≠ none := ?_
      · exact (show FR L g0 H0 g H (setAll (σ.set i (some v)) (ts.map (·.1)) vs') env' S from par_fr (σ := σ.set i (some v)) (fr.setVal rv) z2 (fun a ha => hn a (hn2 a ha)) rr e)
      refine fun j p ys hj hs => fun hz => ?_
      by_cases q : i = j
      · subst q
        by_cases hi : i < env.length
        · rw [List.getElem?_set_self hi] at hj; cases hj
        · rw [List.getElem?_eq_none (by simpa using hi)] at hj; cases hj
      · rw [List.getElem?_set_ne q] at hj hs
        exact ho j p ys hj hs (hn2 p hz)
  | (i, true) :: ts, H1, σ, env, env', vs, xs, fr, ho, hn, r, e => by
    cases r with
    | @own _ H2 _ _ p x _ vs' xs' rf hp hn2 rr =>
      obtain ⟨p', us, ys, e1, e2, k1, k2, k3, k4, k5, k6⟩ := rf
      cases e1
      subst e2
      rw [parE] at e
      have z2 : ∀ (j : Nat) (q : Addr) (zs : List PV), (env.set i (.own ys))[j]? = some (Slot.own zs) → (σ.set i (some (.ref p)))[j]? = some (some (V.ref q)) → H2 q ≠ none := ?_
      · exact (show FR L g0 H0 g H (setAll (σ.set i (some (.ref p))) (ts.map (·.1)) vs') env' S from par_fr (σ := σ.set i (some (.ref p))) (fr.setOwn k1 k2 k3 k4 k5 (hn p k6) fun j zs hj hs => absurd k6 (ho j p zs hj hs)) z2 (fun a ha => hn a (hn2 a ha)) rr e)
      refine fun j q zs hj hs => fun hz => ?_
      by_cases w : i = j
      · subst w
        by_cases hi : i < env.length
        · rw [List.getElem?_set_self (by rw [fr.len]; exact hi)] at hs
          cases hs
          exact hp hz
        · rw [List.getElem?_eq_none (by simpa using hi)] at hj; cases hj
      · rw [List.getElem?_set_ne w] at hj hs
        exact ho j q zs hj hs (hn2 q hz)
theorem own_there (fr : FR L g0 H0 g H σ env S) : ∀ (j : Nat) (p : Addr) (ys : List PV), env[j]? = some (Slot.own ys) → σ[j]? = some (some (V.ref p)) → H p ≠ none := fun j p ys h hs hz => own_apart fr hz h hs
theorem s_parM {ts : List (Nat × Bool)} {es : Es} {Q : Ends → L2.St → Hp → List V → Hp → Prop} (hq : ∀ D σ H vs H1, vs.length = ts.length → D.nx (setAll σ (ts.map (·.1)) vs) H1 → Q D σ H vs H1) {D : Ends} {σ : L2.St} {H : Hp} :
    denS L Z (evS c (.par ts es)) D σ H → denM L (fun H0 g H vs xs => RFs L H0 g H (ts.map (·.2)) vs xs) Z (evs c es) σ H (fun vs H1 => Q D σ H vs H1) := by
  intro ⟨g0, H0, g, env, S, fr, o⟩
  rw [evS] at o
  refine seqE fr o fun r v S1 H1 g1 _ fr1 ex rp o1 => ?_
  obtain ⟨env', ea, o2⟩ := o1.lift
  refine hq D σ H v H1 ?_ (o2 _ H1 g1 (Le.refl _) (par_fr fr1 (fun j p ys hj hs => own_there fr j p ys hj hs) fr.ext.old rp ea))
  have : ∀ {bs : List Bool} {Ha Hb : Hp} {g : Gh} {us : List V} {ys : List PV}, RFs L Ha g Hb bs us ys → us.length = bs.length := by
    intro bs Ha Hb g us ys h
    induction h with
    | nil => rfl
    | val _ _ _ ih => simp [ih]
    | own _ _ _ _ ih => simp [ih]
  rw [this rp, List.length_map]
def locN (C : Cn) (i : Nat) (x : Str) : Bool := decide (C.N[i]? = some x) && decide (C.sc.names.lookup x = some .local)
theorem locN_ok (G : Good X L Tt c C k Z) {i : Nat} {x : Str} (h : locN C i x = true) : X.N[i]? = some x ∧ X.env.scope.names.lookup x = some .local := by
  simp only [locN, Bool.and_eq_true, decide_eq_true_eq] at h
  exact ⟨by rw [G.N]; exact h.1, by rw [G.sc]; exact h.2⟩
theorem s_par2 (G : Good X L Tt c C k Z) {i j : Nat} {bi bj : Bool} {x y : Str} {a b : Expr} {es : Es} {px py pt pos : Pos} {kt k2 : Nat} {pt2 : Pos} (h : AllX X L c Z [bi, bj] es [a, b]) (hi : locN C i x = true) (hj : locN C j y = true) (hij : i ≠ j)
    (hok : sw2Ok C [.Name x px, .Name y py] [a, b] = true) (hw : sw2 C [.Name x px, .Name y py] [a, b] = some [x, y]) :
    PS X (.Assign [.Tuple [.Name x px, .Name y py] kt pt] (.Tuple [a, b] k2 pt2) pos) (denS L Z (evS c (.par [(i, bi), (j, bj)] es))) := by
  obtain ⟨i1, i2⟩ := locN_ok G hi
  obtain ⟨j1, j2⟩ := locN_ok G hj
  refine (ps_par G.calm G.nd i1 j1 hij i2 j2 h.pa (by rw [sw2_ok G hok, hw])).imp fun D σ H hd => ?_
  refine s_parM (Q := fun D σ H vs H1 => ∃ v w, vs = [v, w] ∧ D.nx ((σ.set i (some v)).set j (some w)) H1) (fun D σ H vs H1 hl q => ?_) hd
  match vs, hl, q with
  | [v, w], _, q => exact ⟨v, w, rfl, q⟩
theorem s_par3 (G : Good X L Tt c C k Z) {i j l : Nat} {bi bj bl : Bool} {x y z : Str} {a b d : Expr} {es : Es} {px py pz pt pos : Pos} {kt k2 : Nat} {pt2 : Pos} (h : AllX X L c Z [bi, bj, bl] es [a, b, d]) (hi : locN C i x = true) (hj : locN C j y = true) (hl : locN C l z = true) (hij : i ≠ j) (hil : i ≠ l) (hjl : j ≠ l)
    (hok : sw2Ok C [.Name x px, .Name y py, .Name z pz] [a, b, d] = true) (hw : sw2 C [.Name x px, .Name y py, .Name z pz] [a, b, d] = some [x, y, z]) :
    PS X (.Assign [.Tuple [.Name x px, .Name y py, .Name z pz] kt pt] (.Tuple [a, b, d] k2 pt2) pos) (denS L Z (evS c (.par [(i, bi), (j, bj), (l, bl)] es))) := by
  obtain ⟨i1, i2⟩ := locN_ok G hi
  obtain ⟨j1, j2⟩ := locN_ok G hj
  obtain ⟨l1, l2⟩ := locN_ok G hl
  refine (ps_par3 G.calm G.nd i1 j1 l1 hij hil hjl i2 j2 l2 h.pa (by rw [sw2_ok G hok, hw])).imp fun D σ H hd => ?_
  refine s_parM (Q := fun D σ H vs H1 => ∃ u v w, vs = [u, v, w] ∧ D.nx (((σ.set i (some u)).set j (some v)).set l (some w)) H1) (fun D σ H vs H1 hl q => ?_) hd
  match vs, hl, q with
  | [u, v, w], _, q => exact ⟨u, v, w, rfl, q⟩

/-! ### xs[i] = v -/
theorem sw_sub (G : Good X L Tt c C k Z) {o i ex : Expr} {p : Pos} {l : Nat} : swapsWithSole [.Subscript o i p] ex l X.env = pure false := by
  show swapsWith ex (some (.Subscript o i p)) l X.env = pure false
  rw [sw_ok G]
  cases ex <;> rfl
theorem asgSub {o i : Expr} {p : Pos} {env : PySem.Env} : (assignEach [.Subscript o i p] env).map (·.2) = [assign (.Subscript o i p) env] := rfl
theorem s_setix (G : Good X L Tt c C k Z) {i : Nat} {a e : E} {x : Str} {ea ex : Expr} {p p2 pos : Pos} (hn : sliceB ea = false) (hv : slotB C i x = true) (he : PE X ex (denM L (Rp L) Z (ev c e))) (ha : PE X ea (denM L (Rp L) Z (ev c a))) :
    PS X (.Assign [.Subscript (.Name x p) ea p2] ex pos) (denS L Z (evS c (.setix i a e))) := by
  obtain ⟨h1, h2, h3, h4⟩ := slotB_ok G hv
  refine (ps_asg he (pg_sub (pe_var h1 h2 h3 h4) ha set_list (fun v => by cases ea <;> first | rfl | cases hn)) (sw_sub G) sw_none2 asgSub).imp fun D σ H ⟨g0, H0, g, env, S, fr, o⟩ => ?_
  rw [evS] at o
  refine seqE fr o fun r v S1 H1 g1 _ fr1 ex rp o1 => ?_
  obtain ⟨xs, hx, o2⟩ := o1.own
  obtain ⟨q, vs, q1, q2, q3, q4, q5, q6, q7⟩ := fr1.own i xs hx
  refine ⟨_, q1, ?_⟩
  refine seqE fr1 o2 fun r2 v2 S2 H2 g2 _ fr2 ex2 rp2 o3 => ?_
  obtain ⟨n, rfl, o4⟩ := o3.asI
  obtain ⟨j, hj, o5⟩ := o4.lift
  cases rp2
  obtain ⟨q', vs', q1', q2', q3', q4', q5', q6', q7'⟩ := fr2.own i xs hx
  rw [q1] at q1'
  cases q1'
  refine ⟨q, vs', n, j, rfl, rfl, q2', ?_, ?_⟩
  · rw [ixN_eq, q4'.length]
    exact hj
  · exact o5 σ _ g2 (Le.refl _) (fr2.write hx q1 q2' (by rw [List.length_set]; exact q3') (q4'.set (rp.mono ex2.le) j) q5' q6' q7')
/-- a list by reference is written -/
theorem FR.writeR {n : Nat} {p : Addr} {vs' : List V} {xs' : List PV} (f : FR L g0 H0 g H σ env S) (hn : g.al[n]? = some p) (h3 : vs'.length ≤ sizeLine) (h4 : Reps L.K L.fa g vs' xs') : FR L g0 H0 g (upd H p (.lst vs')) σ env (S.set n xs') := by
  have hm : p ∈ g.al := List.mem_of_getElem? hn
  have hS : n < S.length := by
    rw [← f.sim.len]
    exact (List.getElem?_eq_some_iff.mp hn).1
  have hnv : g.Hv p = none := by
    cases q : g.Hv p with
    | none => rfl
    | some o => exact absurd hm (f.sim.hid p o q)
  have hsome : ∃ u, H p = some u := by
    obtain ⟨vs, e, _⟩ := f.sim.pool n p (S[n]) hn (List.getElem?_eq_getElem hS)
    exact ⟨_, e⟩
  refine ⟨⟨f.ext.hv, f.ext.al, fun a u h hna => ?_, fun a h => ?_, f.ext.newV, f.ext.newA⟩, ⟨fun a u h => ?_, by rw [List.length_set]; exact f.sim.len, f.sim.nd, fun j a ys q1 q2 => ?_, f.sim.hid⟩, f.len, f.val, fun j ys h => ?_, f.inj⟩
  · by_cases q : a = p
    · subst q
      rcases f.ext.newA a hm with z | z
      · exact absurd z hna
      · rw [h] at z; cases z
    · rw [upd_ne q]; exact f.ext.keep a u h hna
  · by_cases q : a = p
    · subst q
      rw [upd_same] at h; cases h
    · rw [upd_ne q] at h; exact f.ext.old a h
  · have ne : a ≠ p := fun q => by rw [q, hnv] at h; cases h
    rw [upd_ne ne]; exact f.sim.sub a u h
  · by_cases q : j = n
    · subst q
      rw [hn] at q1
      cases q1
      rw [List.getElem?_set_self hS] at q2
      cases q2
      exact ⟨vs', upd_same, h3, h4⟩
    · rw [List.getElem?_set_ne (Ne.symm q)] at q2
      obtain ⟨ws, e, l, r⟩ := f.sim.pool j a ys q1 q2
      have ne : a ≠ p := fun z => by
        subst z
        have hj := (List.getElem?_eq_some_iff.mp q1)
        have hk := (List.getElem?_eq_some_iff.mp hn)
        obtain ⟨hj1, hj2⟩ := hj
        obtain ⟨hk1, hk2⟩ := hk
        exact q ((List.getElem_inj f.sim.nd).mp (hj2.trans hk2.symm))
      exact ⟨ws, by rw [upd_ne ne]; exact e, l, r⟩
  · obtain ⟨q, ws, k1, k2, k3, k4, k5, k6, k7⟩ := f.own j ys h
    have ne : q ≠ p := fun z => k6 (z ▸ hm)
    exact ⟨q, ws, k1, by rw [upd_ne ne]; exact k2, k3, k4, k5, k6, k7⟩
theorem s_setixR (G : Good X L Tt c C k Z) {r a e : E} {er ea ex : Expr} {p2 pos : Pos} (hn : sliceB ea = false) (hr : PE X er (denM L (Rp L) Z (ev c r))) (he : PE X ex (denM L (Rp L) Z (ev c e))) (ha : PE X ea (denM L (Rp L) Z (ev c a))) :
    PS X (.Assign [.Subscript er ea p2] ex pos) (denS L Z (evS c (.setixR r a e))) := by
  refine (ps_asg he (pg_sub hr ha set_list (fun v => by cases ea <;> first | rfl | cases hn)) (sw_sub G) sw_none2 asgSub).imp fun D σ H ⟨g0, H0, g, env, S, fr, o⟩ => ?_
  rw [evS] at o
  refine seqE fr o fun w v S1 H1 g1 _ fr1 ex rp o1 => ?_
  refine seqE fr1 o1 fun w2 v2 S2 H2 g2 _ fr2 ex2 rp2 o2 => ?_
  refine seqE fr2 o2 fun w3 v3 S3 H3 g3 _ fr3 ex3 rp3 o3 => ?_
  cases rp2 with
  | @ref n q hq =>
    have o3' : OutS L Z g0 H0 g3 ((getRef n >>= fun xs => lift (asI w3) >>= fun k => lift (ixN xs.length k) >>= fun j => setRef n (xs.set j w) >>= fun _ => Pure.pure (Fl.nx env)).go S3) D := o3
    rw [bind_go] at o3'
    unfold getRef at o3'
    dsimp only at o3'
    cases e4 : S3[n]? with
    | none => rw [e4] at o3'; exact o3'.elim
    | some xs =>
      rw [e4] at o3'
      have hq3 : g3.al[n]? = some q := by
        obtain ⟨m, hm⟩ := ex3.al
        rw [hm, List.getElem?_append_left (List.getElem?_eq_some_iff.mp hq).1]
        exact hq
      obtain ⟨vs, h1, h2, h3⟩ := fr3.sim.pool n q xs hq3 e4
      obtain ⟨z, e5, o5⟩ := OutS.asI o3'
      subst e5
      obtain ⟨j, hj, o6⟩ := o5.lift
      cases rp3
      refine ⟨q, vs, z, j, rfl, rfl, h1, ?_, ?_⟩
      · rw [ixN_eq, h3.length]
        exact hj
      · have hS : n < S3.length := (List.getElem?_eq_some_iff.mp e4).1
        have o7 : OutS L Z g0 H0 g3 (.ok (.nx env) (S3.set n (xs.set j w))) D := by
          have : (setRef n (xs.set j w) >>= fun _ => Pure.pure (Fl.nx env)).go S3 = .ok (.nx env) (S3.set n (xs.set j w)) := by
            rw [bind_go]
            unfold setRef
            dsimp only
            rw [if_pos hS]
            rfl
          rw [this] at o6
          exact o6
        exact o7 σ _ g3 (Le.refl _) (fr3.writeR hq3 (by rw [List.length_set]; exact h2) (h3.set (rp.mono (ex2.le.trans ex3.le)) j))
  | _ => exact (show False from o3).elim

/-! ### xs.append(e) and the like -/
theorem s_app (G : Good X L Tt c C k Z) {i : Nat} {e : E} {x : Str} {ex : Expr} {p apos cpos pos : Pos} (hv : slotB C i x = true) (hl : lineB apos cpos = true) (hs : starB ex = false) (he : PE X ex (denM L (Rp L) Z (ev c e))) :
    PS X (.Expr (.Call (.Attribute (.Name x p) "append" apos) [ex] [] cpos) pos) (denS L Z (evS c (.app i e))) := by
  obtain ⟨h1, h2, h3, h4⟩ := slotB_ok G hv
  have hfew : ((backTo cpos (starEach [ex] X.env)).all (fun x => !x.1) && (backToKw cpos (keywordEach [] X.env)).all (fun x => x.1.isSome) && decide ([ex].length + ([] : List Keyword).length + (if ([] : List Keyword).isEmpty then 0 else 1) < 30)) = true := by rw [star_no hs]; rfl
  refine (ps_expr (pe_bm F.plainAttrs_list F.slot_list_append F.type_list_append mt_append (pe_var h1 h2 h3 h4) (pa1 (m := false) he hs) rfl hfew hl (star_no hs) rfl)).imp fun D σ H ⟨g0, H0, g, env, S, fr, o⟩ => ?_
  rw [evS] at o
  obtain ⟨xs, hx, o2⟩ := o.own
  obtain ⟨q, vs, q1, q2, q3, q4, q5, q6, q7⟩ := fr.own i xs hx
  refine ⟨_, q1, .inl ⟨rfl, _, .of q2⟩, ?_⟩
  refine seqE fr o2 fun w us S1 H1 g1 _ fr1 ex ⟨v, ev, rp⟩ o1 => ?_
  subst ev
  obtain ⟨q', vs', q1', q2', q3', q4', q5', q6', q7'⟩ := fr1.own i xs hx
  rw [q1] at q1'
  cases q1'
  split at o1
  · rename_i hlt
    have hz : vs'.length < sizeLine := by rw [q4'.length]; exact limS2 hlt
    exact ⟨q, vs', v, rfl, rfl, q2', hz, o1 σ _ g1 (Le.refl _) (fr1.write hx q1 q2' (by rw [List.length_append]; exact hz) (q4'.append (.cons rp .nil)) q5' q6' q7')⟩
  · exact o1.elim
theorem s_ext (G : Good X L Tt c C k Z) {i : Nat} {e : E} {x : Str} {ex : Expr} {p apos cpos pos : Pos} (hv : slotB C i x = true) (hl : lineB apos cpos = true) (hs : starB ex = false) (he : PE X ex (denM L (Rp L) Z (ev c e))) :
    PS X (.Expr (.Call (.Attribute (.Name x p) "extend" apos) [ex] [] cpos) pos) (denS L Z (evS c (.ext i e))) := by
  obtain ⟨h1, h2, h3, h4⟩ := slotB_ok G hv
  have hfew : ((backTo cpos (starEach [ex] X.env)).all (fun x => !x.1) && (backToKw cpos (keywordEach [] X.env)).all (fun x => x.1.isSome) && decide ([ex].length + ([] : List Keyword).length + (if ([] : List Keyword).isEmpty then 0 else 1) < 30)) = true := by rw [star_no hs]; rfl
  refine (ps_expr (pe_bm F.plainAttrs_list F.slot_list_extend F.type_list_extend mt_extend (pe_var h1 h2 h3 h4) (pa1 (m := false) he hs) rfl hfew hl (star_no hs) rfl)).imp fun D σ H ⟨g0, H0, g, env, S, fr, o⟩ => ?_
  rw [evS] at o
  obtain ⟨xs, hx, o2⟩ := o.own
  obtain ⟨q, vs, q1, q2, q3, q4, q5, q6, q7⟩ := fr.own i xs hx
  refine ⟨_, q1, .inl ⟨rfl, _, .of q2⟩, ?_⟩
  refine seqE fr o2 fun w us S1 H1 g1 _ fr1 ex ⟨v, ev, rp⟩ o1 => ?_
  subst ev
  obtain ⟨q', vs', q1', q2', q3', q4', q5', q6', q7'⟩ := fr1.own i xs hx
  rw [q1] at q1'
  cases q1'
  cases (show Rep L.K L.fa g1 v w from rp) with
  | @lst b ws ys b1 b2 b3 =>
    have o2 : OutS L Z g0 H0 g1 ((if xs.length + ys.length < LIM then Pure.pure (Fl.nx (env.set i (.own (xs ++ ys)))) else bad : M Fl).go S1) D := o1
    by_cases hlt : xs.length + ys.length < LIM
    · rw [if_pos hlt] at o2
      have hz : vs'.length + ws.length < sizeLine := by rw [q4'.length, b3.length]; exact limS2 hlt
      exact ⟨q, b, vs', ws, rfl, rfl, q2', fr1.sim.sub _ _ b1, Nat.le_of_lt hz, o2 σ _ g1 (Le.refl _) (fr1.write hx q1 q2' (by rw [List.length_append]; omega) (q4'.append b3) q5' q6' q7')⟩
    · rw [if_neg hlt] at o2
      exact o2.elim
  | _ => exact (show False from o1).elim

/-! ### the plain ones -/
theorem s_share {sts : List Stmt} {i : Nat} {b : B} (h : PSs X sts (denS L Z (evB c b))) : PSs X sts (denS L Z (evB c (.cons (.share i) b))) := by
  refine h.imp fun D σ H ⟨g0, H0, g, env, S, fr, o⟩ => ?_
  rw [evB, evS] at o
  have o' : OutS L Z g0 H0 g ((ownOf env i >>= fun xs => evB c b (env.set i (.val (.lst xs)))).go S) D := by
    have e : ((ownOf env i >>= fun xs => Pure.pure (Fl.nx (env.set i (.val (.lst xs))))) >>= fun r => match r with
      | .nx env' => evB c b env'
      | .rt v => Pure.pure (.rt v)) = (ownOf env i >>= fun xs => evB c b (env.set i (.val (.lst xs)))) := by
      rw [bind_assoc]
      rfl
    rw [← e]
    exact o
  obtain ⟨xs, hx, o2⟩ := o'.own
  obtain ⟨g', le, fr'⟩ := fr.share hx
  exact ⟨g0, H0, g', _, S, fr', o2.from le⟩
theorem s_nil : PSs X [] (denS L Z (evB c .nil)) := by
  refine pss_nil.imp fun D σ H ⟨g0, H0, g, env, S, fr, o⟩ => ?_
  rw [evB] at o
  exact o σ H g (Le.refl _) fr
theorem seqS {m : Env → M Fl} {f : Env → M Fl} (fr : FR L g0 H0 g H σ env S) (o : OutS L Z g0 H0 g ((m env >>= fun r => match r with
      | .nx env' => f env'
      | .rt v => Pure.pure (.rt v)).go S) D) {N : L2.St → Hp → Prop} (hN : ∀ g1 H1 σ1 env1 S1, Le g g1 → FR L g0 H0 g1 H1 σ1 env1 S1 → OutS L Z g0 H0 g1 ((f env1).go S1) D → N σ1 H1) {D' : Ends} (h1 : D'.nx = N) (h2 : D'.rt = D.rt) : OutS L Z g0 H0 g ((m env).go S) D' := by
  rw [bind_go] at o
  cases e : (m env).go S with
  | ok r S' =>
    rw [e] at o
    cases r with
    | nx env' => exact fun σ' H' g' l f => by rw [h1]; exact hN g' H' σ' env' S' l f (o.from l)
    | rt v => exact fun w H' g' ex sm rp => by rw [h2]; exact o w H' g' ex sm rp
  | err x S' => rw [e] at o; exact o
  | bad => rw [e] at o; exact o.elim
theorem s_cons {st : Stmt} {sts : List Stmt} {s : Wt.St} {b : B} (h : PS X st (denS L Z (evS c s))) (hs : PSs X sts (denS L Z (evB c b))) : PSs X (st :: sts) (denS L Z (evB c (.cons s b))) := by
  refine (pss_cons h hs).imp fun D σ H ⟨g0, H0, g, env, S, fr, o⟩ => ?_
  rw [evB] at o
  refine ⟨g0, H0, g, env, S, fr, seqS (f := evB c b) fr o (N := denS L Z (evB c b) D) (fun g1 H1 σ1 env1 S1 l f1 o1 => ⟨g0, H0, g1, env1, S1, f1, o1⟩) rfl rfl⟩
theorem s_never {st : Stmt} : PS X st (denS L Z (evS c .never)) := by
  refine ps_never.imp fun D σ H ⟨g0, H0, g, env, S, fr, o⟩ => ?_
  rw [evS] at o
  exact o
theorem s_pass {pos : Pos} : PS X (.Pass pos) (denS L Z (evS c .pass)) := by
  refine ps_pass.imp fun D σ H ⟨g0, H0, g, env, S, fr, o⟩ => ?_
  rw [evS] at o
  exact o σ H g (Le.refl _) fr
theorem s_ret {e : E} {ex : Expr} {pos : Pos} (he : PE X ex (denM L (Rp L) Z (ev c e))) : PS X (.Return (some ex) pos) (denS L Z (evS c (.ret e))) := by
  refine (ps_ret he).imp fun D σ H ⟨g0, H0, g, env, S, fr, o⟩ => ?_
  rw [evS] at o
  exact seqE fr o fun r v S1 H1 g1 _ fr1 ex rp o1 => o1 v H1 g1 fr1.ext fr1.sim rp
theorem s_retN {pos : Pos} : PS X (.Return none pos) (denS L Z (evS c .retN)) := by
  refine ps_retN.imp fun D σ H ⟨g0, H0, g, env, S, fr, o⟩ => ?_
  rw [evS] at o
  exact o .non H g fr.ext fr.sim .non
theorem s_expr {e : E} {ex : Expr} {pos : Pos} (hs : swapsWith ex none pos.line X.env = pure false) (he : PE X ex (denM L (Rp L) Z (ev c e))) : PS X (.Expr ex pos) (denS L Z (evS c (.expr e))) := by
  refine (ps_expr he hs).imp fun D σ H ⟨g0, H0, g, env, S, fr, o⟩ => ?_
  rw [evS] at o
  exact seqE fr o fun r v S1 H1 g1 _ fr1 ex rp o1 => o1 σ H1 g1 (Le.refl _) fr1
theorem s_ite {d : E} {b b' : B} {ex : Expr} {sa sb : List Stmt} {pos : Pos} (hd : PT X ex (denM L RpB Z fun env => ev c d env >>= asBM)) (ha : PSs X sa (denS L Z (evB c b))) (hb : PSs X sb (denS L Z (evB c b'))) : PS X (.If ex sa sb pos) (denS L Z (evS c (.ite d b b'))) := by
  refine (ps_if hd ha hb).imp fun D σ H ⟨g0, H0, g, env, S, fr, o⟩ => ?_
  rw [evS, ← bind_assoc] at o
  refine seqE (m := fun env => ev c d env >>= asBM) fr o fun r v S1 H1 g1 _ fr1 ex rp o1 => ?_
  cases rp
  cases r with
  | true => exact ⟨g0, H0, g1, env, S1, fr1, o1⟩
  | false => exact ⟨g0, H0, g1, env, S1, fr1, o1⟩
theorem s_while (G : Good X L Tt c C k Z) {i : Nat} {d : E} {b : B} {ex : Expr} {body : List Stmt} {pos : Pos} (hd : PT X ex (denM L RpB Z fun env => ev c d env >>= asBM)) (hb : PSs X body (denS L Z (evB c b))) : PS X (.While ex body [] pos) (denS L Z (evS c (.while_ i d b))) := by
  refine (ps_while G.po hd hb).imp fun D σ H ⟨g0, H0, g, env, S, fr, o⟩ => ?_
  rw [evS] at o
  split at o
  · rename_i n _
    refine ⟨fun m σ H => ∃ g1 env S, FR L g0 H0 g1 H σ env S ∧ OutS L Z g0 H0 g1 ((whileGo (fun env => ev c d env >>= fun x => asBM x) (fun env => evB c b env) m env).go S) D, ⟨_, g, env, S, fr, o⟩, ?_⟩
    rintro m σ1 H1 ⟨g1, env1, S1, fr1, o1⟩
    cases m with
    | zero => exact (show False from o1).elim
    | succ m =>
      rw [whileGo] at o1
      refine seqE (m := fun env => ev c d env >>= asBM) fr1 o1 fun r v S2 H2 g2 _ fr2 ex rp o2 => ?_
      cases rp
      cases r with
      | false => exact o2 σ1 H2 g2 (Le.refl _) fr2
      | true =>
        rw [if_pos rfl]
        refine ⟨_, fun σ' H' hn => ⟨m, Nat.lt_succ_self m, hn⟩, g0, H0, g2, env1, S2, fr2, ?_⟩
        exact seqS (m := evB c b) (f := whileGo (fun env => ev c d env >>= fun x => asBM x) (fun env => evB c b env) m) fr2 o2 (fun g3 H3 σ3 env3 S3 l f3 o3 => ⟨g3, env3, S3, f3, o3⟩) rfl rfl
  · exact o.elim
theorem s_for (G : Good X L Tt c C k Z) {t : T} {it : It} {b : B} {tg iter : Expr} {body : List Stmt} {pos : Pos} (hi : PI X tg iter (denM L (RIt L false) Z (evI c it))) (hg : chkT C t tg = true) (hs : ∀ env x, foldedSetIterable iter env x = pure x) (hb : PSs X body (denS L Z (evB c b))) :
    PS X (.For tg iter body [] pos) (denS L Z (evS c (.for_ t it b))) := by
  refine (ps_for G.po G.calm hi (pg_of G hg) hb (fun x => hs _ x)).imp fun D σ H ⟨g0, H0, g, env, S, fr, o⟩ => ?_
  rw [evS] at o
  refine seqE fr o fun xs J S1 H1 g1 _ fr1 ex ⟨pk, hpk, hpq, ok, hl⟩ o1 => ?_
  obtain rfl := hpk rfl
  generalize hf : (fun x env => lift (asgT t x env) >>= fun env' => evB c b env') = f at o1
  refine ⟨fun i m σ H' => m = xs.length - i ∧ i ≤ xs.length ∧ ∃ g2 env S, Le g1 g2 ∧ FR L g0 H0 g2 H' σ env S ∧ OutS L Z g0 H0 g2 ((forGo f (xs.drop i) env).go S) D, ⟨xs.length, by simp, Nat.zero_le _, g1, env, S1, Le.refl _, fr1, o1⟩, ?_⟩
  rintro i m σ2 H2 ⟨rfl, hi, g2, env2, S2, le2, fr2, o2⟩
  have st : Stb g1 g2 H2 [] := ⟨le2, fr2.sim.sub, by simp⟩
  by_cases hlt : i < xs.length
  · refine .inr ⟨ok.go i g2 H2 hlt st, fun σ' H' => ∃ g3 env S, Le g1 g3 ∧ FR L g0 H0 g3 H' σ' env S ∧ OutS L Z g0 H0 g3 ((forGo f (xs.drop (i + 1)) env).go S) D, fun σ' H' nx => ⟨xs.length - (i + 1), by omega, rfl, hlt, nx⟩, fun x H3 y => ?_⟩
    have hx : xs[i]? = some xs[i] := List.getElem?_eq_getElem hlt
    obtain ⟨g3, e3, s3, rx⟩ := ok.yld i g2 H2 x H3 xs[i] S2 st fr2.sim hx y
    rw [List.drop_eq_getElem_cons hlt, forGo, ← hf] at o2
    have o3 : OutS L Z g0 H0 g2 ((lift (asgT t xs[i] env2) >>= fun env' => evB c b env' >>= fun r => match r with
      | .nx env' => forGo f (xs.drop (i + 1)) env'
      | .rt v => Pure.pure (.rt v)).go S2) D := by
      rw [bind_assoc] at o2
      rw [← hf]
      exact o2
    obtain ⟨env3, ea, o4⟩ := o3.lift
    have fr3 := fr2.step e3 s3
    refine ⟨g0, H0, g3, env2, S2, xs[i], env3, fr3, rx, ea, fun σ' f' _ => ⟨g0, H0, g3, env3, S2, f', ?_⟩⟩
    exact seqS (m := evB c b) (f := forGo f (xs.drop (i + 1))) f' (o4.from e3.le) (fun g4 H4 σ4 env4 S4 l f4 o5 => ⟨g4, env4, S4, le2.trans (e3.le.trans l), f4, o5⟩) rfl rfl
  · have ei : i = xs.length := by omega
    subst ei
    rw [List.drop_length, forGo] at o2
    exact .inl ⟨ok.stop g2 H2 st, o2 σ2 H2 g2 (Le.refl _) fr2⟩
end
end Wt
/-! Chk: the checker, and that it is right. -/
namespace Wt
open PySem PySem.Spec PyProof.Rows L2

mutual
theorem PV.same_eq : ∀ (x y : PV), PV.same x y = true → x = y
  | .non, y, h => by cases y <;> simp [PV.same] at h <;> rfl
  | .bl a, y, h => by cases y <;> simp [PV.same] at h <;> simp [h]
  | .int a, y, h => by cases y <;> simp [PV.same] at h <;> simp [h]
  | .str a, y, h => by cases y <;> simp [PV.same] at h <;> simp [h]
  | .tup xs, y, h => by cases y <;> simp [PV.same] at h <;> rw [PV.sames_eq _ _ h]
  | .lst xs, y, h => by cases y <;> simp [PV.same] at h <;> rw [PV.sames_eq _ _ h]
  | .frz xs, y, h => by cases y <;> simp [PV.same] at h <;> rw [PV.sames_eq _ _ h]
  | .fn a, y, h => by cases y <;> simp [PV.same] at h <;> simp [h]
  | .ref a, y, h => by cases y <;> simp [PV.same] at h <;> simp [h]
theorem PV.sames_eq : ∀ (x y : List PV), PV.sames x y = true → x = y
  | [], y, h => by cases y <;> simp [PV.sames] at h <;> rfl
  | x :: xs, y, h => by
    cases y with
    | nil => simp [PV.sames] at h
    | cons y ys =>
      simp only [PV.sames, Bool.and_eq_true] at h
      rw [PV.same_eq _ _ h.1, PV.sames_eq _ _ h.2]
end
def conB (Tt : Tb) (x : Str) (v : PV) : Bool := Tt.con.any fun p => decide (p.1 = x) && PV.same p.2 v
theorem conB_ok {Tt : Tb} {x : Str} {v : PV} (h : conB Tt x v = true) : ∃ y, (x, y) ∈ Tt.con ∧ y = v := by
  unfold conB at h
  rw [List.any_eq_true] at h
  obtain ⟨⟨a, b⟩, hm, h⟩ := h
  simp only [Bool.and_eq_true, decide_eq_true_eq] at h
  obtain ⟨rfl, h2⟩ := h
  exact ⟨b, hm, PV.same_eq _ _ h2⟩
def fnB (Tt : Tb) (C : Cn) (f : Nat) (x : Str) : Bool := glB C x && (Tt.ok f && decide (Tt.nm f = x))
def shortB (es : Es) : Bool := noStar es && decide (esLen es ≤ 1000)
def tupT : Expr → Bool
  | .Tuple _ _ _ => true
  | _ => false
def setB : Expr → Bool
  | .Set _ _ _ => true
  | _ => false
def kwB (Tt : Tb) (f : Nat) (ks : List Str) (perm : List Nat) : Bool := Tt.kw.any fun p => decide (p = (f, ks, perm))
mutual
def chkE (Tt : Tb) (C : Cn) (m : Bool) : E → Expr → Bool
  | .non, ex => (match ex with
    | .Constant .none _ _ => true
    | _ => false)
  | .bl b, ex => (match ex with
    | .Constant (.bool b') _ _ => b == b'
    | _ => false)
  | .int i, ex => (match ex with
    | .Constant (.int j) _ _ => decide (i = j)
    | _ => false)
  | .str x, ex => (match ex with
    | .Constant (.str y) _ _ => decide (x = y)
    | _ => false)
  | .cst j, ex => (match ex with
    | .Constant (.int i) _ _ => decide (Tt.cst j = i)
    | _ => false)
  | .var i, ex => (match ex with
    | .Name x _ => slotB C i x
    | _ => false)
  | .pk i, ex => (match ex with
    | .Name x _ => m && slotB C i x
    | _ => false)
  | .con x v, ex => (match ex with
    | .Name y _ => decide (x = y) && (glB C x && conB Tt x v)
    | _ => false)
  | .fnv f, ex => (match ex with
    | .Name x _ => fnB Tt C f x
    | _ => false)
  | .tup es, ex => (match ex with
    | .Tuple exs _ _ => chkEs Tt C false es exs && shortB es
    | _ => false)
  | .lst es, ex => (match ex with
    | .List exs _ => chkEs Tt C false es exs && shortB es
    | _ => false)
  | .tupS es, ex => (match ex with
    | .Tuple exs _ _ => chkEs Tt C false es exs
    | _ => false)
  | .lstS es, ex => (match ex with
    | .List exs _ => chkEs Tt C false es exs
    | _ => false)
  | .poolN es, ex => (match ex with
    | .List exs _ => chkEs Tt C false es exs && shortB es
    | _ => false)
  | .op o a b, ex => (match ex with
    | .BinOp ea o' eb _ => decide (opOf o = o') && (chkE Tt C true a ea && chkE Tt C true b eb)
    | _ => false)
  | .neg a, ex => (match ex with
    | .UnaryOp .USub ea _ => chkE Tt C false a ea
    | _ => false)
  | .cmp o a b, ex => (match ex with
    | .Compare ea [o'] [eb] _ => decide (copOf o = o') && (!behindInMarks o' eb && (chkE Tt C true a ea && chkE Tt C true b eb))
    | _ => false)
  | .chain o1 o2 a b d, ex => (match ex with
    | .Compare ea [p1, p2] [eb, ed] _ => (decide (copOf o1 = p1) && decide (copOf o2 = p2)) && (!behindInMarks p2 ed && (chkE Tt C true a ea && (chkE Tt C true b eb && chkE Tt C true d ed)))
    | _ => false)
  | .and_ es, ex => (match ex with
    | .BoolOp .And exs _ => chkEs Tt C false es exs && (noStar es && decide (esLen es ≠ 0))
    | _ => false)
  | .or_ es, ex => (match ex with
    | .BoolOp .Or exs _ => chkEs Tt C false es exs && (noStar es && decide (esLen es ≠ 0))
    | _ => false)
  | .not_ a, ex => (match ex with
    | .UnaryOp .Not ea _ => chkE Tt C false a ea
    | _ => false)
  | .ite t a b, ex => (match ex with
    | .IfExp et ea eb _ => chkE Tt C false t et && (chkE Tt C false a ea && chkE Tt C false b eb)
    | _ => false)
  | .call f es, ex => (match ex with
    | .Call (.Name x _) exs [] _ => fnB Tt C f x && (chkEs Tt C false es exs && noStar es)
    | _ => false)
  | .callk f perm ks es, ex => (match ex with
    | .Call (.Name x _) [] kws _ => (fnB Tt C f x && (chkEs Tt C false es (kws.map kwVal) && shortB es)) && (decide (kws.map kwArg = ks.map some) && (decide (∀ j ∈ perm, j < esLen es) && kwB Tt f ks perm))
    | _ => false)
  | .callv i es, ex => (match ex with
    | .Call (.Name x _) exs [] _ => (slotB C i x && decide (esLen es ≠ 0)) && (chkEs Tt C false es exs && noStar es)
    | _ => false)
  | .bi b es, ex => (match ex with
    | .Call (.Name x _) exs [] _ => ((decide (x = biName b) && (biOk b && (!decide (b = .gcd) || Tt.gcd))) && (glB C (biName b) && decide (esLen es ≠ 0))) && (chkEs Tt C true es exs && noStar es)
    | _ => false)
  | .isi a t, ex => (match ex with
    | .Call (.Name f _) [ea, .Name x _] [] _ => ((decide (f = "isinstance") && decide (x = Str.ofString t)) && (decide (t ∈ clNames) && (glB C "isinstance" && glB C (Str.ofString t)))) && (chkE Tt C true a ea && !starB ea)
    | _ => false)
  | .ix a i, ex => (match ex with
    | .Subscript ea ei _ => !sliceB ei && (chkE Tt C true a ea && chkE Tt C false i ei)
    | _ => false)
  | .sl a lo hi, ex => (match ex with
    | .Subscript ea (.Slice elo ehi none _) _ => chkE Tt C true a ea && (chkO Tt C lo elo && chkO Tt C hi ehi)
    | _ => false)
  | .rev a, ex => (match ex with
    | .Subscript ea (.Slice none none (some (.UnaryOp .USub (.Constant (.int i) _ _) _)) _) _ => decide (i = 1) && chkE Tt C true a ea
    | _ => false)
  | .lc elt t it d own, ex => (match ex with
    | .ListComp eltx [⟨tg, iter, ifs, as⟩] scope _ => (decide (as = 0) && (blkC C.N C.sc scope own && (decide (∀ j ∈ tvs t, j ∈ own.map (·.2)) && chkT (C.blk scope) t tg))) && (chkI Tt C true it tg iter && (chkC Tt (C.blk scope) d ifs && chkE Tt (C.blk scope) false elt eltx))
    | _ => false)
  | .lc2 _ _ _ _ _ _ _, _ => false
def chkO (Tt : Tb) (C : Cn) : Oe → Option Expr → Bool
  | .no, ex => (match ex with
    | none => true
    | _ => false)
  | .yes e, ex => (match ex with
    | some x => chkE Tt C false e x
    | _ => false)
def chkC (Tt : Tb) (C : Cn) : Oe → List Expr → Bool
  | .no, ex => (match ex with
    | [] => true
    | _ => false)
  | .yes e, ex => (match ex with
    | [x] => chkE Tt C false e x
    | _ => false)
def chkEs (Tt : Tb) (C : Cn) (m : Bool) : Es → List Expr → Bool
  | .nil, exs => (match exs with
    | [] => true
    | _ => false)
  | .cons e es, exs => (match exs with
    | ex :: exs => !starB ex && (chkE Tt C m e ex && chkEs Tt C m es exs)
    | _ => false)
  | .star e es, exs => (match exs with
    | .Starred ex _ :: exs => chkE Tt C true e ex && chkEs Tt C m es exs
    | _ => false)
def chkI (Tt : Tb) (C : Cn) (m : Bool) : It → Expr → Expr → Bool
  | .seq e, _, ex => !setB ex && chkE Tt C m e ex
  | .rng1 a, _, ex => (match ex with
    | .Call (.Name f _) [ea] [] _ => (decide (f = "range") && glB C "range") && (chkE Tt C false a ea && !starB ea)
    | _ => false)
  | .rng2 a b, _, ex => (match ex with
    | .Call (.Name f _) [ea, eb] [] _ => (decide (f = "range") && glB C "range") && ((chkE Tt C false a ea && !starB ea) && (chkE Tt C false b eb && !starB eb))
    | _ => false)
  | .enum a, tg, ex => (match ex with
    | .Call (.Name f _) [ea] [] _ => tupT tg && ((decide (f = "enumerate") && glB C "enumerate") && (chkE Tt C m a ea && !starB ea))
    | _ => false)
  | .zip2 a b, tg, ex => (match ex with
    | .Call (.Name f _) [ea, eb] [] _ => tupT tg && ((decide (f = "zip") && glB C "zip") && ((chkE Tt C m a ea && !starB ea) && (chkE Tt C m b eb && !starB eb)))
    | _ => false)
  | .rng3 _ _ _, _, _ => false
  | .zip3 _ _ _, _, _ => false
  | .enumzip a b, tg, ex => (match ex with
    | .Call (.Name f _) [.Call (.Name f2 _) [ea, eb] [] _] [] _ => tupT tg && ((((decide (f = "enumerate") && glB C "enumerate") && (decide (f2 = "zip") && glB C "zip"))) && ((chkE Tt C m a ea && !starB ea) && (chkE Tt C m b eb && !starB eb)))
    | _ => false)
end
def frE : E → Bool
  | .lst _ => true
  | .lstS _ => true
  | .lc _ _ _ _ _ => true
  | _ => false
section
variable {L : Pl} {α β γ δ : Type} {Tt : Tb} {c : Cc} {k : Nat}
/-- an expression is right -/
structure OkE (X : Cx) (L : Pl) (Z : XK) (c : Cc) (m : Bool) (e : E) (ex : Expr) : Prop where
  pe : PE X ex (denM L (RM L m) Z (ev c e))
  pt : PT X ex (denM L RpB Z fun env => ev c e env >>= asBM)
  pf : frE e = true → PE X ex (denM L (RpF L) Z (ev c e))
theorem okOf {X : Cx} {Z : XK} {m : Bool} {e : E} {ex : Expr} (h : PE X ex (denM L (Rp L) Z (ev c e))) (ht : ∀ whole, isTrue ex X.env whole = (do let v ← whole; standAt ex.pos; holding [v] (truthy v))) (hf : frE e = false) : OkE X L Z c m e ex :=
  ⟨by cases m; exact h; exact h.rr, pt_of h ht, fun z => by rw [hf] at z; cases z⟩
theorem okOf2 {X : Cx} {Z : XK} {m : Bool} {e : E} {ex : Expr} (h : PE X ex (denM L (Rp L) Z (ev c e)) ∧ PT X ex (denM L RpB Z fun env => ev c e env >>= asBM)) (hf : frE e = false) : OkE X L Z c m e ex :=
  ⟨by cases m; exact h.1; exact h.1.rr, h.2, fun z => by rw [hf] at z; cases z⟩
theorem okOfF {X : Cx} {Z : XK} {m : Bool} {e : E} {ex : Expr} (h : PE X ex (denM L (RpF L) Z (ev c e))) (ht : ∀ whole, isTrue ex X.env whole = (do let v ← whole; standAt ex.pos; holding [v] (truthy v))) : OkE X L Z c m e ex :=
  ⟨by cases m; exact h.pubF; exact h.pubF.rr, pt_of h.pubF ht, fun _ => h⟩
theorem ev_lit {e : E} {v : PV} (h : ∀ env, ev c e env = Pure.pure v) : ∀ env, ev c e env = Pure.pure v := h
theorem Good.hu {X : Cx} {C : Cn} {Z : XK} (G : Good X L Tt c C k Z) : X.A.units + 65 < cLine := by
  have := G.room.un
  omega
theorem fnB_ok {C : Cn} {f : Nat} {x : Str} (h : fnB Tt C f x = true) : glB C x = true ∧ Tt.ok f = true ∧ Tt.nm f = x := by
  simp only [fnB, Bool.and_eq_true, decide_eq_true_eq] at h
  exact h
theorem shortB_ok {es : Es} (h : shortB es = true) : noStar es = true ∧ esLen es ≤ 1000 := by
  simp only [shortB, Bool.and_eq_true, decide_eq_true_eq] at h
  exact h
theorem folded_ok {ex : Expr} (h : setB ex = false) : ∀ env x, foldedSetIterable ex env x = pure x := by
  intro env x
  cases ex <;> first
    | rfl
    | cases h
mutual
theorem okE : ∀ (e : E) {X : Cx} {C : Cn} {Z : XK} (G : Good X L Tt c C k Z) {m : Bool} {ex : Expr}, chkE Tt C m e ex = true → OkE X L Z c m e ex
  | .non, X, C, Z, G, m, ex, h => by
    unfold chkE at h
    split at h
    · exact okOf (e_const (v := .non) ⟨fun _ _ _ H _ I h => Constant_none ⟨.non, H, I, rfl, h⟩⟩ (fun g => .non) fun env => by unfold ev; rfl) (fun _ => rfl) rfl
    · cases h
  | .bl b, X, C, Z, G, m, ex, h => by
    unfold chkE at h
    split at h
    · simp only [beq_iff_eq] at h
      subst h
      exact okOf (e_const pe_bl (fun g => .bl _) fun env => by unfold ev; rfl) (fun _ => rfl) rfl
    · cases h
  | .int i, X, C, Z, G, m, ex, h => by
    unfold chkE at h
    split at h
    · simp only [decide_eq_true_eq] at h
      subst h
      exact okOf (e_const pe_int (fun g => .int _) fun env => by unfold ev; rfl) (fun _ => rfl) rfl
    · cases h
  | .str x, X, C, Z, G, m, ex, h => by
    unfold chkE at h
    split at h
    · simp only [decide_eq_true_eq] at h
      subst h
      exact okOf (e_const pe_str (fun g => .str _) fun env => by unfold ev; rfl) (fun _ => rfl) rfl
    · cases h
  | .cst j, X, C, Z, G, m, ex, h => by
    unfold chkE at h
    split at h
    · simp only [decide_eq_true_eq] at h
      subst h
      exact okOf (e_const pe_int (fun g => .int _) fun env => by unfold ev; rw [G.cst]) (fun _ => rfl) rfl
    · cases h
  | .var i, X, C, Z, G, m, ex, h => by
    unfold chkE at h
    split at h
    · exact okOf (e_var G h) (fun _ => rfl) rfl
    · cases h
  | .pk i, X, C, Z, G, m, ex, h => by
    unfold chkE at h
    split at h
    · rename_i x pos
      simp only [Bool.and_eq_true] at h
      obtain ⟨rfl, h2⟩ := h
      refine ⟨e_pk G h2, (pt_of (m := fun _ => (bad : M PV)) (L := L) (Z := Z) ((e_pk (pos := pos) G h2).imp fun σ H Q ⟨g0, H0, g, env, S, fr, o⟩ => o.elim) fun _ => rfl).imp fun σ H Q ⟨g0, H0, g, env, S, fr, o⟩ => ?_, fun z => nomatch z⟩
      have e : (ev c (.pk i) env >>= asBM).go S = .bad := by
        unfold ev
        split <;> rfl
      dsimp only at o
      rw [e] at o
      exact o.elim
    · cases h
  | .con x v, X, C, Z, G, m, ex, h => by
    unfold chkE at h
    split at h
    · simp only [Bool.and_eq_true, decide_eq_true_eq] at h
      obtain ⟨rfl, h2, h3⟩ := h
      exact okOf (e_con G h2 (conB_ok h3)) (fun _ => rfl) rfl
    · cases h
  | .fnv f, X, C, Z, G, m, ex, h => by
    unfold chkE at h
    split at h
    · obtain ⟨h1, h2, h3⟩ := fnB_ok h
      exact okOf (e_fnv G h1 h2 h3) (fun _ => rfl) rfl
    · cases h
  | .tup es, X, C, Z, G, m, ex, h => by
    unfold chkE at h
    split at h
    · simp only [Bool.and_eq_true] at h
      obtain ⟨h2, h3⟩ := shortB_ok h.2
      exact okOf (e_tup G (okEs es G h.1) h2 h3) (fun _ => rfl) rfl
    · cases h
  | .lst es, X, C, Z, G, m, ex, h => by
    unfold chkE at h
    split at h
    · simp only [Bool.and_eq_true] at h
      obtain ⟨h2, h3⟩ := shortB_ok h.2
      exact okOfF (e_lstF G (okEs es G h.1) h2 h3) fun _ => rfl
    · cases h
  | .tupS es, X, C, Z, G, m, ex, h => by
    unfold chkE at h
    split at h
    · exact okOf (e_tupS G (okEs es G h)) (fun _ => rfl) rfl
    · cases h
  | .lstS es, X, C, Z, G, m, ex, h => by
    unfold chkE at h
    split at h
    · exact okOfF (e_lstSF G (okEs es G h)) fun _ => rfl
    · cases h
  | .poolN es, X, C, Z, G, m, ex, h => by
    unfold chkE at h
    split at h
    · simp only [Bool.and_eq_true] at h
      obtain ⟨h2, h3⟩ := shortB_ok h.2
      exact okOf (e_poolN G (okEs es G h.1) h2 h3) (fun _ => rfl) rfl
    · cases h
  | .op o a b, X, C, Z, G, m, ex, h => by
    unfold chkE at h
    split at h
    · simp only [Bool.and_eq_true, decide_eq_true_eq] at h
      obtain ⟨rfl, h1, h2⟩ := h
      exact okOf (e_op G (okE a G h1).pe (okE b G h2).pe) (fun _ => rfl) rfl
    · cases h
  | .neg a, X, C, Z, G, m, ex, h => by
    unfold chkE at h
    split at h
    · exact okOf (e_neg G (okE a G h).pe) (fun _ => rfl) rfl
    · cases h
  | .cmp o a b, X, C, Z, G, m, ex, h => by
    unfold chkE at h
    split at h
    · simp only [Bool.and_eq_true, decide_eq_true_eq, Bool.not_eq_true'] at h
      obtain ⟨rfl, h0, h1, h2⟩ := h
      exact okOf2 (e_cmp G G.hu h0 (okE a G h1).pe (okE b G h2).pe) rfl
    · cases h
  | .chain o1 o2 a b d, X, C, Z, G, m, ex, h => by
    unfold chkE at h
    split at h
    · simp only [Bool.and_eq_true, decide_eq_true_eq, Bool.not_eq_true'] at h
      obtain ⟨⟨rfl, rfl⟩, h0, h1, h2, h3⟩ := h
      exact okOf2 (e_chain G G.hu h0 (okE a G h1).pe (okE b G h2).pe (okE d G h3).pe) rfl
    · cases h
  | .and_ es, X, C, Z, G, m, ex, h => by
    unfold chkE at h
    split at h
    · simp only [Bool.and_eq_true, decide_eq_true_eq] at h
      obtain ⟨h1, h2, h3⟩ := h
      have hp := okEs es G h1
      cases hp with
      | nil => exact absurd rfl h3
      | cons p1 p2 p3 p4 =>
        obtain ⟨q1, q2⟩ := p4.andE h2 p1 p2
        refine okOf2 ⟨q1.imp fun σ H Q q => ?_, q2.pt.imp fun σ H Q q => ?_⟩ rfl
        · obtain ⟨g0, H0, g, env, S, fr, o⟩ := q
          rw [ev] at o
          exact ⟨g0, H0, g, env, S, fr, o⟩
        · obtain ⟨g0, H0, g, env, S, fr, o⟩ := q
          dsimp only at o
          rw [ev] at o
          exact ⟨g0, H0, g, env, S, fr, o⟩
      | star _ _ => cases h2
    · cases h
  | .or_ es, X, C, Z, G, m, ex, h => by
    unfold chkE at h
    split at h
    · simp only [Bool.and_eq_true, decide_eq_true_eq] at h
      obtain ⟨h1, h2, h3⟩ := h
      have hp := okEs es G h1
      cases hp with
      | nil => exact absurd rfl h3
      | cons p1 p2 p3 p4 =>
        obtain ⟨q1, q2⟩ := p4.orE h2 p1 p2
        refine okOf2 ⟨q1.imp fun σ H Q q => ?_, q2.pt.imp fun σ H Q q => ?_⟩ rfl
        · obtain ⟨g0, H0, g, env, S, fr, o⟩ := q
          rw [ev] at o
          exact ⟨g0, H0, g, env, S, fr, o⟩
        · obtain ⟨g0, H0, g, env, S, fr, o⟩ := q
          dsimp only at o
          rw [ev] at o
          exact ⟨g0, H0, g, env, S, fr, o⟩
      | star _ _ => cases h2
    · cases h
  | .not_ a, X, C, Z, G, m, ex, h => by
    unfold chkE at h
    split at h
    · exact okOf2 (e_not G (okE a G h).pe (okE a G h).pt) rfl
    · cases h
  | .ite t a b, X, C, Z, G, m, ex, h => by
    unfold chkE at h
    split at h
    · simp only [Bool.and_eq_true] at h
      obtain ⟨h1, h2, h3⟩ := h
      exact okOf2 ⟨e_ite G (okE t G h1).pt (okE a G h2).pe (okE b G h3).pe, e_iteT G (okE t G h1).pt (okE a G h2).pt (okE b G h3).pt⟩ rfl
    · cases h
  | .call f es, X, C, Z, G, m, ex, h => by
    unfold chkE at h
    split at h
    · simp only [Bool.and_eq_true] at h
      obtain ⟨h1, h2, h3⟩ := h
      obtain ⟨k1, k2, k3⟩ := fnB_ok h1
      exact okOf (e_call G (okEs es G h2) h3 k1 k2 k3) (fun _ => rfl) rfl
    · cases h
  | .callk f perm ks es, X, C, Z, G, m, ex, h => by
    unfold chkE at h
    split at h
    · simp only [Bool.and_eq_true, decide_eq_true_eq] at h
      obtain ⟨⟨h1, h2, h3⟩, h4, h5, h6⟩ := h
      obtain ⟨k1, k2, k3⟩ := fnB_ok h1
      obtain ⟨s1, s2⟩ := shortB_ok h3
      have hm : (f, ks, perm) ∈ Tt.kw := by
        unfold kwB at h6
        rw [List.any_eq_true] at h6
        obtain ⟨p, hp, hq⟩ := h6
        rw [decide_eq_true_eq] at hq
        rw [← hq]
        exact hp
      exact okOf (e_callk G (okEs es G h2) s1 s2 h4 h5 k1 k2 k3 hm) (fun _ => rfl) rfl
    · cases h
  | .callv i es, X, C, Z, G, m, ex, h => by
    unfold chkE at h
    split at h
    · simp only [Bool.and_eq_true, decide_eq_true_eq] at h
      obtain ⟨⟨h1, h2⟩, h3, h4⟩ := h
      exact okOf (e_callv G (okEs es G h3) h4 h2 h1) (fun _ => rfl) rfl
    · cases h
  | .bi b es, X, C, Z, G, m, ex, h => by
    unfold chkE at h
    split at h
    · simp only [Bool.and_eq_true, decide_eq_true_eq, Bool.or_eq_true, Bool.not_eq_true', decide_eq_false_iff_not] at h
      obtain ⟨⟨⟨rfl, h1, h2⟩, h3, h4⟩, h5, h6⟩ := h
      exact okOf (e_bi G h1 (fun e => h2.resolve_left fun z => z e) (okEs es G h5) h6 h4 h3) (fun _ => rfl) rfl
    · cases h
  | .isi a t, X, C, Z, G, m, ex, h => by
    unfold chkE at h
    split at h
    · simp only [Bool.and_eq_true, decide_eq_true_eq, Bool.not_eq_true'] at h
      obtain ⟨⟨⟨rfl, rfl⟩, h1, h2, h3⟩, h5, h6⟩ := h
      exact okOf (e_isi G (okE a G h5).pe h6 h2 h3 h1) (fun _ => rfl) rfl
    · cases h
  | .ix a i, X, C, Z, G, m, ex, h => by
    unfold chkE at h
    split at h
    · simp only [Bool.and_eq_true, Bool.not_eq_true'] at h
      obtain ⟨h1, h2, h3⟩ := h
      exact okOf (e_ix G h1 (okE a G h2).pe (okE i G h3).pe) (fun _ => rfl) rfl
    · cases h
  | .sl a lo hi, X, C, Z, G, m, ex, h => by
    unfold chkE at h
    split at h
    · simp only [Bool.and_eq_true] at h
      obtain ⟨h1, h2, h3⟩ := h
      exact okOf (e_sl G (okE a G h1).pe (okO lo G h2) (okO hi G h3)) (fun _ => rfl) rfl
    · cases h
  | .rev a, X, C, Z, G, m, ex, h => by
    unfold chkE at h
    split at h
    · simp only [Bool.and_eq_true, decide_eq_true_eq] at h
      obtain ⟨rfl, h1⟩ := h
      exact okOf (e_rev G (okE a G h1).pe) (fun _ => rfl) rfl
    · cases h
  | .lc elt t it d own, X, C, Z, G, m, ex, h => by
    unfold chkE at h
    split at h
    · simp only [Bool.and_eq_true, decide_eq_true_eq] at h
      obtain ⟨⟨rfl, h1, h2, h3⟩, h4, h5, h6⟩ := h
      obtain ⟨i1, i2⟩ := okI it G h4
      exact okOfF (e_lcF G i1 h1 h2 h3 (folded_ok i2) (fun X' G' => okC d G' h5) fun X' G' => (okE elt G' h6).pe).1 fun _ => rfl
    · cases h
  | .lc2 _ _ _ _ _ _ _, X, C, Z, G, m, ex, h => by
    unfold chkE at h
    cases h
theorem okO : ∀ (o : Oe) {X : Cx} {C : Cn} {Z : XK} (G : Good X L Tt c C k Z) {ex : Option Expr}, chkO Tt C o ex = true → OeP X L c Z o ex
  | .no, X, C, Z, G, ex, h => by
    unfold chkO at h
    split at h
    · exact .no
    · cases h
  | .yes e, X, C, Z, G, ex, h => by
    unfold chkO at h
    split at h
    · exact .yes (okE e G h).pe
    · cases h
theorem okC : ∀ (o : Oe) {X : Cx} {C : Cn} {Z : XK} (G : Good X L Tt c C k Z) {ex : List Expr}, chkC Tt C o ex = true → PTs X ex (denM L RpB Z (evC c o))
  | .no, X, C, Z, G, ex, h => by
    unfold chkC at h
    split at h
    · exact pts_of (.inl ⟨rfl, rfl⟩)
    · cases h
  | .yes e, X, C, Z, G, ex, h => by
    unfold chkC at h
    split at h
    · exact pts_of (.inr ⟨e, _, rfl, rfl, (okE e G h).pt⟩)
    · cases h
theorem okEs : ∀ (es : Es) {X : Cx} {C : Cn} {Z : XK} (G : Good X L Tt c C k Z) {m : Bool} {exs : List Expr}, chkEs Tt C m es exs = true → AllP X L c Z m es exs
  | .nil, X, C, Z, G, m, exs, h => by
    unfold chkEs at h
    split at h
    · exact .nil
    · cases h
  | .cons e es, X, C, Z, G, m, exs, h => by
    unfold chkEs at h
    split at h
    · simp only [Bool.and_eq_true, Bool.not_eq_true'] at h
      obtain ⟨h1, h2, h3⟩ := h
      exact .cons (okE e G h2).pe (okE e G h2).pt h1 (okEs es G h3)
    · cases h
  | .star e es, X, C, Z, G, m, exs, h => by
    unfold chkEs at h
    split at h
    · simp only [Bool.and_eq_true] at h
      exact .star (okE e G h.1).pe (okEs es G h.2)
    · cases h
theorem okI : ∀ (it : It) {X : Cx} {C : Cn} {Z : XK} (G : Good X L Tt c C k Z) {m : Bool} {tg ex : Expr}, chkI Tt C m it tg ex = true → PI X tg ex (denM L (RIt L m) Z (evI c it)) ∧ setB ex = false
  | .seq e, X, C, Z, G, m, tg, ex, h => by
    unfold chkI at h
    simp only [Bool.and_eq_true, Bool.not_eq_true'] at h
    exact ⟨i_seq G (okE e G h.2).pe, h.1⟩
  | .rng1 a, X, C, Z, G, m, tg, ex, h => by
    unfold chkI at h
    split at h
    · simp only [Bool.and_eq_true, Bool.not_eq_true', decide_eq_true_eq] at h
      obtain ⟨⟨rfl, h1⟩, h2, h3⟩ := h
      exact ⟨i_rng1 G h1 (okE a G h2).pe h3, rfl⟩
    · cases h
  | .rng2 a b, X, C, Z, G, m, tg, ex, h => by
    unfold chkI at h
    split at h
    · simp only [Bool.and_eq_true, Bool.not_eq_true', decide_eq_true_eq] at h
      obtain ⟨⟨rfl, h1⟩, ⟨h2, h3⟩, h4, h5⟩ := h
      exact ⟨i_rng2 G h1 (okE a G h2).pe (okE b G h4).pe h3 h5, rfl⟩
    · cases h
  | .enum a, X, C, Z, G, m, tg, ex, h => by
    unfold chkI at h
    split at h
    · simp only [Bool.and_eq_true, Bool.not_eq_true', decide_eq_true_eq] at h
      obtain ⟨ht, ⟨rfl, h1⟩, h2, h3⟩ := h
      cases tg <;> first
        | (cases ht; done)
        | exact ⟨i_enum G h1 (okE a G h2).pe h3, rfl⟩
    · cases h
  | .zip2 a b, X, C, Z, G, m, tg, ex, h => by
    unfold chkI at h
    split at h
    · simp only [Bool.and_eq_true, Bool.not_eq_true', decide_eq_true_eq] at h
      obtain ⟨ht, ⟨rfl, h1⟩, ⟨h2, h3⟩, h4, h5⟩ := h
      cases tg <;> first
        | (cases ht; done)
        | exact ⟨i_zip2 G h1 (okE a G h2).pe (okE b G h4).pe h3 h5, rfl⟩
    · cases h
  | .rng3 _ _ _, X, C, Z, G, m, tg, ex, h => by
    unfold chkI at h
    cases h
  | .zip3 _ _ _, X, C, Z, G, m, tg, ex, h => by
    unfold chkI at h
    cases h
  | .enumzip a b, X, C, Z, G, m, tg, ex, h => by
    unfold chkI at h
    split at h
    · simp only [Bool.and_eq_true, Bool.not_eq_true', decide_eq_true_eq] at h
      obtain ⟨ht, ⟨⟨rfl, h1⟩, rfl, h1'⟩, ⟨h2, h3⟩, h4, h5⟩ := h
      cases tg <;> first
        | (cases ht; done)
        | exact ⟨i_enumzip G h1 h1' (okE a G h2).pe (okE b G h4).pe h3 h5, rfl⟩
    · cases h
end
end
end Wt
/-! ChkS: the checker for statements. -/
namespace Wt
open PySem PySem.Spec PyProof.Rows L2

def compB : Expr → Bool
  | .ListComp _ _ _ _ => true
  | .SetComp _ _ _ _ => true
  | .DictComp _ _ _ _ _ => true
  | _ => false
def lcB : E → Bool
  | .lc _ _ _ _ _ => true
  | _ => false
def swOk (C : Cn) (i : Nat) (x : Str) (p : Pos) (e : E) (ex : Expr) : Bool := !swE C (.Name x p) ex || (lcB e && locN C i x)
def parN (C : Cn) (tg ex : Expr) : Bool := !tupB ex || (match tg, ex with
  | .Tuple ts _ _, .Tuple vs _ _ => sw2Ok C ts vs && decide (sw2 C ts vs = none)
  | _, _ => false)
def chkX (Tt : Tb) (C : Cn) : List Bool → Es → List Expr → Bool
  | [], .nil, [] => true
  | b :: bs, .cons e es, ex :: exs => (chkE Tt C false e ex && (!b || frE e)) && (!starB ex && chkX Tt C bs es exs)
  | _, _, _ => false
mutual
def chkS (Tt : Tb) (C : Cn) : St → Stmt → Bool
  | .set i e, st => (match st with
    | .Assign [.Name x p] ex _ => locB C i x && (chkE Tt C false e ex && swOk C i x p e ex)
    | _ => false)
  | .setO i e, st => (match st with
    | .Assign [.Name x p] ex _ => locB C i x && ((chkE Tt C false e ex && frE e) && swOk C i x p e ex)
    | _ => false)
  | .asg t e, st => (match st with
    | .Assign [tg] ex _ => (chkT C t tg && chkE Tt C false e ex) && (!swE C tg ex && parN C tg ex)
    | _ => false)
  | .par ts es, st => (match st with
    | .Assign [.Tuple tgs _ _] (.Tuple exs _ _) _ => sw2Ok C tgs exs && (match ts, tgs, exs with
      | [(i, bi), (j, bj)], [.Name x _, .Name y _], [_, _] => chkX Tt C [bi, bj] es exs && ((locN C i x && locN C j y) && (decide (i ≠ j) && decide (sw2 C tgs exs = some [x, y])))
      | [(i, bi), (j, bj), (l, bl)], [.Name x _, .Name y _, .Name z _], [_, _, _] => chkX Tt C [bi, bj, bl] es exs && ((locN C i x && (locN C j y && locN C l z)) && ((decide (i ≠ j) && (decide (i ≠ l) && decide (j ≠ l))) && decide (sw2 C tgs exs = some [x, y, z])))
      | _, _, _ => false)
    | _ => false)
  | .setix i a e, st => (match st with
    | .Assign [.Subscript (.Name x _) ea _] ex _ => (!sliceB ea && slotB C i x) && (chkE Tt C false e ex && chkE Tt C false a ea)
    | _ => false)
  | .setixR r a e, st => (match st with
    | .Assign [.Subscript er ea _] ex _ => (!sliceB ea && chkE Tt C false r er) && (chkE Tt C false e ex && chkE Tt C false a ea)
    | _ => false)
  | .app i e, st => (match st with
    | .Expr (.Call (.Attribute (.Name x _) at' apos) [ex] [] cpos) _ => (decide (at' = "append") && (slotB C i x && lineB apos cpos)) && (!starB ex && chkE Tt C false e ex)
    | _ => false)
  | .ext i e, st => (match st with
    | .Expr (.Call (.Attribute (.Name x _) at' apos) [ex] [] cpos) _ => (decide (at' = "extend") && (slotB C i x && lineB apos cpos)) && (!starB ex && chkE Tt C false e ex)
    | _ => false)
  | .ins _ _ _, _ => false
  | .never, _ => true
  | .share _, _ => false
  | .popcall _ _ _ _ _, _ => false
  | .ret e, st => (match st with
    | .Return (some ex) _ => chkE Tt C false e ex
    | _ => false)
  | .retN, st => (match st with
    | .Return none _ => true
    | _ => false)
  | .ite d b b', st => (match st with
    | .If ex sa sb _ => chkE Tt C false d ex && (chkB Tt C b sa && chkB Tt C b' sb)
    | _ => false)
  | .for_ t it b, st => (match st with
    | .For tg iter body [] _ => (chkI Tt C false it tg iter && chkT C t tg) && chkB Tt C b body
    | _ => false)
  | .while_ _ d b, st => (match st with
    | .While ex body [] _ => chkE Tt C false d ex && chkB Tt C b body
    | _ => false)
  | .expr e, st => (match st with
    | .Expr ex _ => !compB ex && chkE Tt C false e ex
    | _ => false)
  | .pass, st => (match st with
    | .Pass _ => true
    | _ => false)
  | .raise_ _ _, _ => false
def chkB (Tt : Tb) (C : Cn) : B → List Stmt → Bool
  | .nil, sts => (match sts with
    | [] => true
    | _ => false)
  | .cons s b, sts => (match s with
    | .share _ => chkB Tt C b sts
    | _ => (match sts with
      | st :: sts => chkS Tt C s st && chkB Tt C b sts
      | _ => false))
end
section
variable {L : Pl} {α β γ δ : Type} {Tt : Tb} {c : Cc} {k : Nat}
theorem okX {X : Cx} {C : Cn} {Z : XK} (G : Good X L Tt c C k Z) : ∀ {bs : List Bool} {es : Es} {exs : List Expr}, chkX Tt C bs es exs = true → AllX X L c Z bs es exs
  | [], .nil, [], _ => .nil
  | b :: bs, .cons e es, ex :: exs, h => by
    simp only [chkX, Bool.and_eq_true, Bool.or_eq_true, Bool.not_eq_true'] at h
    obtain ⟨⟨h1, h2⟩, h3, h4⟩ := h
    refine .cons ?_ h3 (okX G h4)
    cases b with
    | false => exact (okE e G h1).pe
    | true => exact (okE e G h1).pf (h2.resolve_left fun z => nomatch z)
  | [], .nil, _ :: _, h => by simp [chkX] at h
  | [], .cons _ _, _, h => by simp [chkX] at h
  | [], .star _ _, _, h => by simp [chkX] at h
  | _ :: _, .nil, _, h => by simp [chkX] at h
  | _ :: _, .star _ _, _, h => by simp [chkX] at h
  | _ :: _, .cons _ _, [], h => by simp [chkX] at h
/-- name = a new list -/
theorem setF {X : Cx} {C : Cn} {Z : XK} (G : Good X L Tt c C k Z) {i : Nat} {e : E} {x : Str} {p pos : Pos} {ex : Expr} (hl : locB C i x = true) (he : chkE Tt C false e ex = true) (hf : frE e = true) (hs : swOk C i x p e ex = true) :
    PS X (.Assign [.Name x p] ex pos) (fun D σ H => denM L (RpF L) Z (ev c e) σ H fun v H1 => D.nx (σ.set i (some v)) H1) := by
  cases hsw : swE C (.Name x p) ex with
  | false => exact set_of G hl hsw ((okE e G he).pf hf)
  | true =>
    unfold swOk at hs
    rw [hsw] at hs
    simp only [Bool.not_true, Bool.false_or, Bool.and_eq_true] at hs
    obtain ⟨hlc, hn⟩ := hs
    unfold lcB at hlc
    split at hlc
    · unfold chkE at he
      split at he
      · simp only [Bool.and_eq_true, decide_eq_true_eq] at he
        obtain ⟨⟨rfl, h1, h2, h3⟩, h4, h5, h6⟩ := he
        obtain ⟨i1, i2⟩ := okI _ G h4
        simp only [locN, Bool.and_eq_true, decide_eq_true_eq] at hn
        exact set_lc G hn.1 hn.2 hsw i1 h1 h2 h3 (folded_ok i2) (fun X' G' => okC _ G' h5) fun X' G' => (okE _ G' h6).pe
      · cases he
    · cases hlc
theorem setV {X : Cx} {C : Cn} {Z : XK} (G : Good X L Tt c C k Z) {i : Nat} {e : E} {x : Str} {p pos : Pos} {ex : Expr} (hl : locB C i x = true) (he : chkE Tt C false e ex = true) (hs : swOk C i x p e ex = true) :
    PS X (.Assign [.Name x p] ex pos) (fun D σ H => denM L (Rp L) Z (ev c e) σ H fun v H1 => D.nx (σ.set i (some v)) H1) := by
  cases hsw : swE C (.Name x p) ex with
  | false => exact set_of G hl hsw (okE e G he).pe
  | true =>
    have hf : frE e = true := by
      have hs' := hs
      unfold swOk at hs'
      rw [hsw] at hs'
      simp only [Bool.not_true, Bool.false_or, Bool.and_eq_true] at hs'
      have := hs'.1
      unfold lcB at this
      split at this
      · rfl
      · cases this
    exact (setF G hl he hf hs).imp fun D σ H h => pubF h
theorem exprSw {ex : Expr} {l : Nat} {env : PySem.Env} (h : compB ex = false) : swapsWith ex none l env = pure false := by
  cases ex <;> first
    | (cases h; done)
    | rfl
mutual
theorem okS : ∀ (s : Wt.St) {X : Cx} {C : Cn} {Z : XK} (G : Good X L Tt c C k Z) {st : Stmt}, chkS Tt C s st = true → PS X st (denS L Z (evS c s))
  | .set i e, X, C, Z, G, st, h => by
    unfold chkS at h
    split at h
    · simp only [Bool.and_eq_true] at h
      exact s_set (setV G h.1 h.2.1 h.2.2)
    · cases h
  | .setO i e, X, C, Z, G, st, h => by
    unfold chkS at h
    split at h
    · simp only [Bool.and_eq_true] at h
      exact s_setO (setF G h.1 h.2.1.1 h.2.1.2 h.2.2)
    · cases h
  | .asg t e, X, C, Z, G, st, h => by
    unfold chkS at h
    split at h
    · simp only [Bool.and_eq_true, Bool.not_eq_true'] at h
      obtain ⟨⟨h1, h2⟩, h3, h4⟩ := h
      refine s_asg G h1 h3 ?_ (okE e G h2).pe
      simp only [parN, Bool.or_eq_true, Bool.not_eq_true'] at h4
      rcases h4 with h4 | h4
      · exact sw_none h4
      · split at h4
        · simp only [Bool.and_eq_true, decide_eq_true_eq] at h4
          rw [sw2_ok G h4.1, h4.2]
        · cases h4
    · cases h
  | .par ts es, X, C, Z, G, st, h => by
    unfold chkS at h
    split at h
    · simp only [Bool.and_eq_true] at h
      obtain ⟨h1, h2⟩ := h
      split at h2
      · simp only [Bool.and_eq_true, decide_eq_true_eq] at h2
        obtain ⟨h3, ⟨h4, h5⟩, h6, h7⟩ := h2
        exact s_par2 G (okX G h3) h4 h5 h6 h1 h7
      · simp only [Bool.and_eq_true, decide_eq_true_eq] at h2
        obtain ⟨h3, ⟨h4, h5, h5'⟩, ⟨h6, h6', h6''⟩, h7⟩ := h2
        exact s_par3 G (okX G h3) h4 h5 h5' h6 h6' h6'' h1 h7
      · cases h2
    · cases h
  | .setix i a e, X, C, Z, G, st, h => by
    unfold chkS at h
    split at h
    · simp only [Bool.and_eq_true, Bool.not_eq_true'] at h
      obtain ⟨⟨h1, h2⟩, h3, h4⟩ := h
      exact s_setix G h1 h2 (okE e G h3).pe (okE a G h4).pe
    · cases h
  | .setixR r a e, X, C, Z, G, st, h => by
    unfold chkS at h
    split at h
    · simp only [Bool.and_eq_true, Bool.not_eq_true'] at h
      obtain ⟨⟨h1, h2⟩, h3, h4⟩ := h
      exact s_setixR G h1 (okE r G h2).pe (okE e G h3).pe (okE a G h4).pe
    · cases h
  | .app i e, X, C, Z, G, st, h => by
    unfold chkS at h
    split at h
    · simp only [Bool.and_eq_true, Bool.not_eq_true', decide_eq_true_eq] at h
      obtain ⟨⟨rfl, h1, h2⟩, h3, h4⟩ := h
      exact s_app G h1 h2 h3 (okE e G h4).pe
    · cases h
  | .ext i e, X, C, Z, G, st, h => by
    unfold chkS at h
    split at h
    · simp only [Bool.and_eq_true, Bool.not_eq_true', decide_eq_true_eq] at h
      obtain ⟨⟨rfl, h1, h2⟩, h3, h4⟩ := h
      exact s_ext G h1 h2 h3 (okE e G h4).pe
    · cases h
  | .ins _ _ _, X, C, Z, G, st, h => by
    unfold chkS at h
    cases h
  | .never, X, C, Z, G, st, h => s_never
  | .share _, X, C, Z, G, st, h => by
    unfold chkS at h
    cases h
  | .popcall _ _ _ _ _, X, C, Z, G, st, h => by
    unfold chkS at h
    cases h
  | .ret e, X, C, Z, G, st, h => by
    unfold chkS at h
    split at h
    · exact s_ret (okE e G h).pe
    · cases h
  | .retN, X, C, Z, G, st, h => by
    unfold chkS at h
    split at h
    · exact s_retN
    · cases h
  | .ite d b b', X, C, Z, G, st, h => by
    unfold chkS at h
    split at h
    · simp only [Bool.and_eq_true] at h
      exact s_ite (okE d G h.1).pt (okB b G h.2.1) (okB b' G h.2.2)
    · cases h
  | .for_ t it b, X, C, Z, G, st, h => by
    unfold chkS at h
    split at h
    · simp only [Bool.and_eq_true] at h
      obtain ⟨⟨h1, h2⟩, h3⟩ := h
      obtain ⟨i1, i2⟩ := okI it G h1
      exact s_for G i1 h2 (folded_ok i2) (okB b G h3)
    · cases h
  | .while_ i d b, X, C, Z, G, st, h => by
    unfold chkS at h
    split at h
    · simp only [Bool.and_eq_true] at h
      exact s_while G (okE d G h.1).pt (okB b G h.2)
    · cases h
  | .expr e, X, C, Z, G, st, h => by
    unfold chkS at h
    split at h
    · simp only [Bool.and_eq_true, Bool.not_eq_true'] at h
      exact s_expr (exprSw h.1) (okE e G h.2).pe
    · cases h
  | .pass, X, C, Z, G, st, h => by
    unfold chkS at h
    split at h
    · exact s_pass
    · cases h
  | .raise_ _ _, X, C, Z, G, st, h => by
    unfold chkS at h
    cases h
theorem okB : ∀ (b : B) {X : Cx} {C : Cn} {Z : XK} (G : Good X L Tt c C k Z) {sts : List Stmt}, chkB Tt C b sts = true → PSs X sts (denS L Z (evB c b))
  | .nil, X, C, Z, G, sts, h => by
    unfold chkB at h
    split at h
    · exact s_nil
    · cases h
  | .cons s b, X, C, Z, G, sts, h => by
    unfold chkB at h
    split at h
    · exact s_share (okB b G h)
    · split at h
      · simp only [Bool.and_eq_true] at h
        exact s_cons (okS s G h.1) (okB b G h.2)
      · cases h
end
end
end Wt
/-! Bnd: how arguments are bound. -/
namespace Wt
open PySem PySem.Spec PyProof.Rows L2
theorem look_zip {α : Type} : ∀ {ps : List Str} {us : List α} {i : Nat} {x : Str} {u : α}, ps.Nodup → ps[i]? = some x → us[i]? = some u → (ps.zip us).lookup x = some u
  | [], _, _, _, _, _, h, _ => by simp at h
  | _ :: _, [], _, _, _, _, _, h => by simp at h
  | p :: ps, v :: us, 0, x, u, _, h1, h2 => by
    simp at h1 h2
    subst h1 h2
    simp [List.lookup_cons]
  | p :: ps, v :: us, i + 1, x, u, nd, h1, h2 => by
    simp at h1 h2
    have hm : x ∈ ps := List.mem_of_getElem? h1
    have ne : (x == p) = false := by
      rw [beq_eq_false_iff_ne]
      intro e
      subst e
      exact (List.nodup_cons.mp nd).1 hm
    rw [List.zip_cons_cons, List.lookup_cons, ne]
    exact look_zip (List.nodup_cons.mp nd).2 h1 h2
theorem filterMap_zip {α : Type} {f : Str → Option (Str × α)} : ∀ {ps : List Str} {us : List α}, ps.length = us.length → (∀ (i : Nat) x u, ps[i]? = some x → us[i]? = some u → f x = some (x, u)) → ps.filterMap f = ps.zip us
  | [], [], _, _ => rfl
  | [], _ :: _, h, _ => by simp at h
  | _ :: _, [], h, _ => by simp at h
  | p :: ps, u :: us, h, hf => by
    rw [List.filterMap_cons, hf 0 p u rfl rfl, List.zip_cons_cons, filterMap_zip (by simpa using h) fun i x v a b => hf (i + 1) x v (by simpa using a) (by simpa using b)]
section
variable {x qual : Str} {as : List Arg} {body : List Stmt} {scope : Scope} {kV doc pm : Value} {an : Option Addr} {cdv ct : Value} {us : List Value}
def plainArgs (as : List Arg) : Arguments := { posonlyargs := [], args := as, vararg := none, kwonlyargs := [], kw_defaults := [], kwarg := none, defaults := [] }
theorem bindPos (nd : (as.map (·.arg)).Nodup) (hl : us.length = (as.map (·.arg)).length) : bindArgs (PySem.W.fnOf x qual (plainArgs as) body scope .none kV doc pm an cdv ct) ⟨us, []⟩ = pure ((as.map (·.arg)).zip us) := by
  have hn : notAStandIn Value.none = pure () := rfl
  have hl2 : us.length = as.length := by simpa using hl
  have hlk : ∀ (i : Nat) (y : Str) (u : Value), (as.map (·.arg))[i]? = some y → us[i]? = some u → ((as.map (·.arg)).zip us).lookup y = some u := fun i y u h1 h2 => look_zip nd h1 h2
  have hall : ∀ y ∈ as.map (·.arg), (((as.map (·.arg)).zip us).lookup y).isNone = false := fun y hy => by
    obtain ⟨i, hi, e⟩ := List.mem_iff_getElem.mp hy
    have h1 : (as.map (·.arg))[i]? = some y := by rw [List.getElem?_eq_getElem hi, e]
    have h2 : us[i]? = some (us[i]'(by rw [hl]; exact hi)) := List.getElem?_eq_getElem _
    rw [hlk i y _ h1 h2]
    rfl
  have hz := filterMap_zip (f := fun n => (((as.map (·.arg)).zip us).lookup n).map (n, ·)) hl.symm fun i y u h1 h2 => by
    simp only [hlk i y u h1 h2, Option.map_some]
  unfold bindArgs
  simp [PySem.W.fnOf, plainArgs, seqItems?, hn]
  refine (if_neg (by omega)).trans ?_
  rw [List.filterMap_map] at hz
  refine (if_neg ?_).trans ?_
  · simp only [Bool.not_eq_true', Bool.not_eq_false, List.isEmpty_iff, List.filter_eq_nil_iff]
    intro y hy
    rw [hall y (by simpa using List.mem_of_mem_take hy)]
    exact Bool.false_ne_true
  · rw [hz]
theorem kw_loop {ps : List Str} (f : Str × Value → List (Str × Value) × List (Str × Value) → Sem (ForInStep (List (Str × Value) × List (Str × Value)))) (hf : ∀ (q : Str × Value) (acc : List (Str × Value)), q.1 ∈ ps → acc.lookup q.1 = none → f q (acc, []) = pure (.yield (acc ++ [q], []))) :
    ∀ (l acc : List (Str × Value)), (∀ q ∈ l, q.1 ∈ ps) → ((acc ++ l).map (·.1)).Nodup → forIn l (acc, []) f = pure (acc ++ l, [])
  | [], acc, _, _ => by
    rw [List.forIn_nil, List.append_nil]
  | q :: l, acc, hm, nd => by
    have hn : acc.lookup q.1 = none := by
      rw [List.map_append, List.map_cons] at nd
      have := (List.nodup_append.mp nd).2.2
      cases e : acc.lookup q.1 with
      | none => rfl
      | some v =>
        have hm2 : (q.1, v) ∈ acc := PySem.mem_of_lookup e
        exact absurd rfl (this q.1 (List.mem_map.mpr ⟨_, hm2, rfl⟩) q.1 (by simp))
    rw [List.forIn_cons, hf q acc (hm q (by simp)) hn]
    have ih := kw_loop f hf l (acc ++ [q]) (fun r hr => hm r (by simp [hr])) (by simpa using nd)
    rw [List.append_assoc] at ih
    exact ih
theorem bindKw {ks : List Str} {ws : List Value} {perm : List Nat} (nd : (as.map (·.arg)).Nodup) (ndk : ks.Nodup) (hl : ws.length = ks.length) (hp : ∀ y ∈ ks, y ∈ as.map (·.arg)) (hlp : perm.length = (as.map (·.arg)).length)
    (hk : ∀ (i : Nat) (j : Nat) (y : Str), perm[i]? = some j → (as.map (·.arg))[i]? = some y → ks[j]? = some y) :
    bindArgs (PySem.W.fnOf x qual (plainArgs as) body scope .none kV doc pm an cdv ct) ⟨[], ks.zip ws⟩ = pure ((as.map (·.arg)).zip (perm.map fun j => ws.getD j .none)) := by
  have hn : notAStandIn Value.none = pure () := rfl
  have hlk : ∀ (i : Nat) (y : Str) (u : Value), (as.map (·.arg))[i]? = some y → (perm.map fun j => ws.getD j .none)[i]? = some u → (ks.zip ws).lookup y = some u := fun i y u h1 h2 => by
    rw [List.getElem?_map] at h2
    cases e : perm[i]? with
    | none => rw [e] at h2; cases h2
    | some j =>
      rw [e] at h2
      cases h2
      have h3 := hk i j y e h1
      have hj : j < ws.length := by rw [hl]; exact (List.getElem?_eq_some_iff.mp h3).1
      refine look_zip ndk h3 ?_
      show ws[j]? = some (ws.getD j .none)
      rw [List.getD_eq_getElem?_getD, List.getElem?_eq_getElem hj]
      rfl
  have hl3 : (perm.map fun j => ws.getD j Value.none).length = (as.map (·.arg)).length := by rw [List.length_map]; exact hlp
  have hall : ∀ y ∈ as.map (·.arg), ((ks.zip ws).lookup y).isNone = false := fun y hy => by
    obtain ⟨i, hi, e⟩ := List.mem_iff_getElem.mp hy
    have h1 : (as.map (·.arg))[i]? = some y := by rw [List.getElem?_eq_getElem hi, e]
    have h2 := List.getElem?_eq_getElem (l := perm.map fun j => ws.getD j Value.none) (i := i) (by rw [hl3]; exact hi)
    rw [hlk i y _ h1 h2]
    rfl
  have hz := filterMap_zip (f := fun n => ((ks.zip ws).lookup n).map (n, ·)) hl3.symm fun i y u h1 h2 => by
    simp only [hlk i y u h1 h2, Option.map_some]
  rw [List.filterMap_map] at hz
  unfold bindArgs
  simp [PySem.W.fnOf, plainArgs, seqItems?, hn]
  have fin : ∀ {t : Sem (List (Str × Value) × List (Str × Value))} {kk : List (Str × Value) × List (Str × Value) → Sem (List (Str × Value))} {r : Sem (List (Str × Value))}, t = pure (ks.zip ws, []) → kk (ks.zip ws, []) = r → (t >>= kk) = r := fun h1 h2 => by rw [h1]; exact h2
  refine fin (kw_loop (ps := as.map (·.arg)) _ ?_ (ks.zip ws) [] ?_ ?_) ?_
  · intro q acc hq hn
    have h1 : ∃ a, a ∈ as ∧ a.arg = q.1 := by simpa using hq
    dsimp only
    rw [if_pos h1, if_neg (by rw [hn]; exact Bool.false_ne_true)]
  · intro q hq
    exact hp _ (List.of_mem_zip (a := q.1) (b := q.2) hq).1
  · rw [List.nil_append, List.map_fst_zip (Nat.le_of_eq hl.symm)]
    exact ndk
  · dsimp only
    refine (if_neg ?_).trans ?_
    · simp only [Bool.not_eq_true', Bool.not_eq_false, List.isEmpty_iff, List.filter_eq_nil_iff]
      intro y hy
      rw [hall y (by simpa using List.mem_of_mem_take hy)]
      exact Bool.false_ne_true
    · rw [hz]
      simp
end
end Wt
/-! Prg: a whole program of the small language; a law's end. -/
namespace Wt
open PySem PySem.Spec PyProof.Rows L2

/-! ### what is checked of one def -/
def argB (ps : List Str) (a : Arguments) : Bool := match a with
  | ⟨[], as, none, [], [], none, []⟩ => decide (as.map (·.arg) = ps) && decide ((as.map (·.arg)).Nodup)
  | _ => false
theorem argB_ok {ps : List Str} {a : Arguments} (h : argB ps a = true) : ∃ as : List Arg, a = plainArgs as ∧ as.map (·.arg) = ps ∧ ps.Nodup := by
  unfold argB at h
  split at h
  · simp only [Bool.and_eq_true, decide_eq_true_eq] at h
    obtain ⟨h1, h2⟩ := h
    exact ⟨_, rfl, h1, h1 ▸ h2⟩
  · cases h
def scopeB (N ps : List Str) (sc : Scope) : Bool := decide (sc.kind = .function) && (decide (sc.isCoroutine = false) && (decide (sc.isGenerator = false) && (decide N.Nodup && (decide (N.take ps.length = ps) &&
  (decide (∀ x ∈ ps, sc.names.lookup x = some .local ∨ sc.names.lookup x = some .cell) && sc.names.all fun y => !decide (y.2 = .free))))))
theorem scopeB_ok {N ps : List Str} {sc : Scope} (h : scopeB N ps sc = true) : FnScope N ps sc := by
  simp only [scopeB, Bool.and_eq_true, decide_eq_true_eq, List.all_eq_true, Bool.not_eq_true', decide_eq_false_iff_not] at h
  obtain ⟨h1, h2, h3, h4, h5, h6, h7⟩ := h
  exact ⟨h1, h2, h3, h4, h5, h6, fun y hy => h7 y hy⟩
def defB (Tt : Tb) (f : Nat) (d : Def) (st : Stmt) : Bool := argB (Tt.ps f) (defArgs st) && (scopeB d.nms (Tt.ps f) (defScope st) && (decide ((Tt.ps f).length = d.np) && chkB Tt ⟨d.nms, defScope st, fun _ => true⟩ d.body (defBody st)))
def kwOkB (ps ks : List Str) (perm : List Nat) : Bool := decide ks.Nodup && (ks.all (fun y => decide (y ∈ ps)) && decide (perm.map (fun j => ks[j]?) = ps.map some))
structure FnD' (K : PySem.W.Frag) (mg : Str → Option Value) (x : Str) (st : Stmt) (a : Addr) (fd : FuncData) : Prop where
  d : FunD K x x (defArgs st) (defBody st) (defScope st) [] [] a fd
  hm : mg x = some (.ref a)
theorem kwOk_of {K : PySem.W.Frag} {x : Str} {st : Stmt} {a : Addr} {fd : FuncData} {ps ks : List Str} {perm : List Nat} (F : FunD K x x (defArgs st) (defBody st) (defScope st) [] [] a fd) (h : argB ps (defArgs st) = true) (hk : kwOkB ps ks perm = true) : KwOk K fd ps ks perm := by
  obtain ⟨as, e1, e2, nd⟩ := argB_ok h
  simp only [kwOkB, Bool.and_eq_true, decide_eq_true_eq, List.all_eq_true] at hk
  obtain ⟨k1, k2, k3⟩ := hk
  have hlp : perm.length = ps.length := by
    have := congrArg List.length k3
    simpa using this
  obtain ⟨oc, od, dV, kV, doc, pm, an, cdv, ct, osl, rfl, lk, hcd, hD, hK⟩ := F.ex
  rcases hD with ⟨_, rfl⟩ | ⟨e, _⟩
  · refine ⟨⟨fun s us ws X hl => ?_, fun {vs us zs ws} r rz => ?_⟩⟩
    · by_cases hc : us.length = 0 ∧ ws.length = ks.length
      · have e : kg ks.length perm Value.none us ws = perm.map fun j => ws.getD j .none := if_pos hc
        rw [e]
        have eu : us = [] := List.eq_nil_of_length_eq_zero hc.1
        subst eu
        rw [e1, ← e2]
        refine .of_eq (bindKw (by rw [e2]; exact nd) k1 hc.2 (fun y hy => by rw [e2]; exact k2 y hy) (by rw [e2]; exact hlp) fun i j y h1 h2 => ?_)
        rw [e2] at h2
        have h3 : (perm.map fun j => ks[j]?)[i]? = (ps.map some)[i]? := by rw [k3]
        rw [List.getElem?_map, List.getElem?_map, h1, h2] at h3
        exact Option.some.inj h3
      · have e : kg ks.length perm Value.none us ws = List.replicate (perm.length + 1) .none := if_neg hc
        rw [e, List.length_replicate] at hl
        omega
    · have l1 := r.length
      have l2 := rz.length
      unfold kg
      rw [l1, l2]
      by_cases hc : us.length = 0 ∧ ws.length = ks.length
      · rw [if_pos hc, if_pos hc]
        have key : ∀ l : List Nat, Vals (l.map fun j => zs.getD j V.non) (l.map fun j => ws.getD j Value.none) := by
          intro l
          induction l with
          | nil => exact .nil
          | cons j l ih =>
            refine .cons ?_ ih
            show RelV (zs.getD j V.non) (ws.getD j Value.none)
            rw [List.getD_eq_getElem?_getD, List.getD_eq_getElem?_getD]
            cases e : zs[j]? with
            | none => rw [rz.none_of e]; exact rfl
            | some z =>
              obtain ⟨u, hu, ru⟩ := rz.get e
              rw [hu]
              exact ru
        exact key perm
      · rw [if_neg hc, if_neg hc]
        have key : ∀ n, Vals (List.replicate n V.non) (List.replicate n Value.none) := by
          intro n
          induction n with
          | zero => exact .nil
          | succ n ih => exact .cons rfl ih
        exact key _
  · exact absurd rfl e
theorem binds_of {K : PySem.W.Frag} {x : Str} {st : Stmt} {a : Addr} {fd : FuncData} {ps : List Str} (F : FunD K x x (defArgs st) (defBody st) (defScope st) [] [] a fd) (h : argB ps (defArgs st) = true) : Binds K fd ps [] := by
  obtain ⟨as, e1, e2, nd⟩ := argB_ok h
  refine FunD.bindsN F fun kV doc pm an cdv ct us hl => ?_
  rw [e1, ← e2]
  exact bindPos (by rw [e2]; exact nd) (by rw [e2]; exact hl)

/-! ### all of them -/
/-- what the head tells -/
structure Told (K : PySem.W.Frag) (mg : Str → Option Value) (L : Pl) (Tt : Tb) (p : Prg) (st : Nat → Stmt) : Prop where
  hK : L.K = K
  okf : ∀ f, Tt.ok f = true → ∃ a, L.fa f = some a
  defs : ∀ f a, L.fa f = some a → ∃ fd d, p.dt f = some d ∧ FnD' K mg (Tt.nm f) (st f) a fd ∧ defB Tt f d (st f) = true
  kw : ∀ f ks perm, (f, ks, perm) ∈ Tt.kw → kwOkB (Tt.ps f) ks perm = true
  con : ∀ x v, (x, v) ∈ Tt.con → ∃ u w, mg x = some u ∧ RelV w u ∧ ∀ g, Rep L.K L.fa g w v
  cst : p.cst = Tt.cst
  blt : ∀ x ∈ bltNames, mg x = none
  gcd : Tt.gcd = true → mg "gcd" = some (.builtin "math.gcd")
section
variable {P : Program} {w : World} {K : PySem.W.Frag} {mg : Str → Option Value} {base : Heap} {L : Pl} {Tt : Tb} {p : Prg} {st : Nat → Stmt}
theorem defB_ok {f : Nat} {d : Def} {s : Stmt} (h : defB Tt f d s = true) : argB (Tt.ps f) (defArgs s) = true ∧ FnScope d.nms (Tt.ps f) (defScope s) ∧ (Tt.ps f).length = d.np ∧ chkB Tt ⟨d.nms, defScope s, fun _ => true⟩ d.body (defBody s) = true := by
  simp only [defB, Bool.and_eq_true, decide_eq_true_eq] at h
  exact ⟨h.1, scopeB_ok h.2.1, h.2.2.1, h.2.2.2⟩
theorem fr_start {g : Gh} {H : Hp} {S : Sto} {vs : List V} {args : List PV} {d : Def} (s : Sim L.K L.fa g H S) (r : Reps L.K L.fa g vs args) : FR L g H g H (L2.start d.nms vs) (start0 d args) S := by
  have hl := r.length
  refine ⟨Ext.refl g H, s, ?_, fun i x h => ?_, fun i xs h => ?_, fun i j p xs ys h => ?_⟩
  · unfold L2.start start0
    rw [List.length_append, List.length_append, List.length_map, List.length_map, List.length_replicate, List.length_replicate, hl]
  · unfold start0 at h
    unfold L2.start
    by_cases hi : i < args.length
    · rw [List.getElem?_append_left (by simpa using hi), List.getElem?_map, List.getElem?_eq_getElem hi] at h
      cases h
      obtain ⟨v, e, rv⟩ := r.get (List.getElem?_eq_getElem hi)
      rw [List.getElem?_append_left (by rw [List.length_map, hl]; exact hi), List.getElem?_map, e]
      exact ⟨v, rfl, rv⟩
    · rw [List.getElem?_append_right (by simpa using hi), List.getElem?_replicate] at h
      split at h <;> cases h
  · unfold start0 at h
    by_cases hi : i < args.length
    · rw [List.getElem?_append_left (by simpa using hi), List.getElem?_map, List.getElem?_eq_getElem hi] at h
      cases h
    · rw [List.getElem?_append_right (by simpa using hi), List.getElem?_replicate] at h
      split at h <;> cases h
  · unfold start0 at h
    by_cases hi : i < args.length
    · rw [List.getElem?_append_left (by simpa using hi), List.getElem?_map, List.getElem?_eq_getElem hi] at h
      cases h
    · rw [List.getElem?_append_right (by simpa using hi), List.getElem?_replicate] at h
      split at h <;> cases h
theorem fns (Td : Told K mg L Tt p st) (hb : K.In base) : ∀ (n f : Nat) (a : Addr), L.fa f = some a → ∃ fd, FnD' K mg (Tt.nm f) (st f) a fd ∧ Binds K fd (Tt.ps f) [] ∧ (∀ ks perm, (f, ks, perm) ∈ Tt.kw → KwOk K fd (Tt.ps f) ks perm) ∧
    FnOk P w K mg base (L2.CX P w) n a fd (Tt.ps f) (spF L ⟨run p n, p.cst⟩ f)
  | 0, f, a, ha => by
    obtain ⟨fd, d, _, F, hd⟩ := Td.defs f a ha
    obtain ⟨h1, _⟩ := defB_ok hd
    refine ⟨fd, F, binds_of F.d h1, fun ks perm hm => kwOk_of F.d h1 (Td.kw f ks perm hm), ⟨fun vs H Q E h => ?_, fun A outer s H args us vs Q E hr e b hv h => ?_⟩⟩
    · obtain ⟨g, S, args, _, _, o⟩ := h
      exact o.elim
    · obtain ⟨g, S, args, _, _, o⟩ := h
      exact o.elim
  | n + 1, f, a, ha => by
    obtain ⟨fd, d, hdt, F, hd⟩ := Td.defs f a ha
    obtain ⟨h1, h2, h3, h4⟩ := defB_ok hd
    have unf : ∀ {args : List PV} {S : Sto} {g : Gh} {H : Hp} {Z : XK} {Q : VK}, OutG L (fun g' _ v r => Rep L.K L.fa g' v r) Z g H ((run p (n + 1) f args).go S) Q → args.length = d.np ∧ OutG L (fun g' _ v r => Rep L.K L.fa g' v r) Z g H ((evB ⟨run p n, p.cst⟩ d.body (start0 d args) >>= fun r => Pure.pure (retF r)).go S) Q := by
      intro args S g H Z Q o
      rw [run, hdt] at o
      dsimp only at o
      split at o
      · exact ⟨by assumption, o⟩
      · exact o.elim
    refine ⟨fd, F, binds_of F.d h1, fun ks perm hm => kwOk_of F.d h1 (Td.kw f ks perm hm), FunD.ok F.d h2 (fun vs H Q E h => ?_) fun cdv A outer s H vs Q E hr h => ?_⟩
    · obtain ⟨g, S, args, _, r, o⟩ := h
      rw [r.length, (unf o).1, h3]
    · obtain ⟨g, S, args, sm, r, o⟩ := h
      obtain ⟨_, o2⟩ := unf o
      have tk := takes_of (X := cxOf (L2.CX P w) P w K mg base d.nms (Tt.nm f) (defScope (st f)) a cdv A outer s H E) rfl rfl rfl rfl
      have G : Good (cxOf (L2.CX P w) P w K mg base d.nms (Tt.nm f) (defScope (st f)) a cdv A outer s H E) L Tt ⟨run p n, p.cst⟩ ⟨d.nms, defScope (st f), fun _ => true⟩ n E :=
        { K := Td.hK.symm, N := rfl, sc := rfl, fn := rfl, kd := h2.kind, nd := h2.nd, calm := rfl, room := hr, pas := passes_call tk fun _ _ _ _ h => h, po := passes_of rfl, okf := Td.okf, defs := fun f' a' ha' => by
            obtain ⟨fd', F', b', k', ok'⟩ := fns Td hb n f' a' ha'
            exact ⟨fd', F'.hm, F'.d.kp, b', ok', k'⟩
          con := Td.con, cst := Td.cst, blt := Td.blt, gcd := Td.gcd }
      refine ⟨denS L E (evB ⟨run p n, p.cst⟩ d.body), okB d.body G h4, g, H, g, start0 d args, S, fr_start sm r, ?_⟩
      rw [bind_go] at o2
      cases e : (evB ⟨run p n, p.cst⟩ d.body (start0 d args)).go S with
      | ok r2 S' =>
        rw [e] at o2
        cases r2 with
        | nx env' => exact fun σ' H' g' _ f' => o2 .non H' g' f'.ext f'.sim .non
        | rt v => exact fun w' H' g' ex sm' rp => o2 w' H' g' ex sm' rp
      | err x S' =>
        rw [e] at o2
        exact fun cl dd H' g' ex sm' rx => o2 cl dd H' g' ex sm' rx
      | bad =>
        rw [e] at o2
        exact o2.elim
end

/-! ### constants of the module -/
mutual
def relP (K : PySem.W.Frag) : PV → Value → Bool
  | .non, u => (match u with
    | .none => true
    | _ => false)
  | .bl b, u => (match u with
    | .bool c => b == c
    | _ => false)
  | .int i, u => (match u with
    | .int j _ => decide (i = j)
    | _ => false)
  | .str x, u => (match u with
    | .str y _ => decide (x = y)
    | _ => false)
  | .tup xs, u => (match u with
    | .ref a => (match K.lookup a with
      | some ⟨.type c, _, .seq its _, _⟩ => decide (c = "tuple") && (decide (its.size ≤ sizeLine) && relPs K xs its.toList)
      | _ => false)
    | _ => false)
  | .frz xs, u => (match u with
    | .ref a => (match K.lookup a with
      | some ⟨.type c, none, .seq its _, _⟩ => decide (c = "list") && (decide (its.size ≤ sizeLine) && relPs K xs its.toList)
      | _ => false)
    | _ => false)
  | .lst _, _ => false
  | .fn _, _ => false
  | .ref _, _ => false
def relPs (K : PySem.W.Frag) : List PV → List Value → Bool
  | [], us => (match us with
    | [] => true
    | _ => false)
  | x :: xs, us => (match us with
    | u :: us => relP K x u && relPs K xs us
    | _ => false)
end
mutual
theorem relP_ok {K : PySem.W.Frag} {fa : Nat → Option Addr} : ∀ {x : PV} {u : Value}, relP K x u = true → ∃ v, RelV v u ∧ ∀ g, Rep K fa g v x
  | .non, u, h => by
    unfold relP at h
    split at h
    · exact ⟨.non, rfl, fun g => .non⟩
    · cases h
  | .bl b, u, h => by
    unfold relP at h
    split at h
    · simp only [beq_iff_eq] at h
      subst h
      exact ⟨.bl _, rfl, fun g => .bl _⟩
    · cases h
  | .int i, u, h => by
    unfold relP at h
    split at h
    · simp only [decide_eq_true_eq] at h
      subst h
      exact ⟨.int _, ⟨_, rfl⟩, fun g => .int _⟩
    · cases h
  | .str x, u, h => by
    unfold relP at h
    split at h
    · simp only [decide_eq_true_eq] at h
      subst h
      exact ⟨.str _, ⟨_, rfl⟩, fun g => .str _⟩
    · cases h
  | .tup xs, u, h => by
    unfold relP at h
    split at h
    · rename_i a
      split at h
      · rename_i c od its n sl q
        simp only [Bool.and_eq_true, decide_eq_true_eq] at h
        obtain ⟨rfl, h1, h2⟩ := h
        obtain ⟨vs, hv, hr⟩ := relPs_ok (fa := fa) h2
        refine ⟨.ref a, rfl, fun g => .tup (.inr ⟨_, its, n, q, rfl, rfl, h1, hv⟩) ?_ (hr g)⟩
        rw [hv.length]
        simpa using h1
      · cases h
    · cases h
  | .frz xs, u, h => by
    unfold relP at h
    split at h
    · rename_i a
      split at h
      · rename_i c its n sl q
        simp only [Bool.and_eq_true, decide_eq_true_eq] at h
        obtain ⟨rfl, h1, h2⟩ := h
        obtain ⟨vs, hv, hr⟩ := relPs_ok (fa := fa) h2
        refine ⟨.ref a, rfl, fun g => .frz (.inr ⟨_, its, n, q, rfl, rfl, rfl, h1, hv⟩) ?_ (hr g)⟩
        rw [hv.length]
        simpa using h1
      · cases h
    · cases h
  | .lst _, u, h => by
    unfold relP at h
    cases h
  | .fn _, u, h => by
    unfold relP at h
    cases h
  | .ref _, u, h => by
    unfold relP at h
    cases h
theorem relPs_ok {K : PySem.W.Frag} {fa : Nat → Option Addr} : ∀ {xs : List PV} {us : List Value}, relPs K xs us = true → ∃ vs, Vals vs us ∧ ∀ g, Reps K fa g vs xs
  | [], us, h => by
    unfold relPs at h
    split at h
    · exact ⟨[], .nil, fun g => .nil⟩
    · cases h
  | x :: xs, us, h => by
    unfold relPs at h
    split at h
    · simp only [Bool.and_eq_true] at h
      obtain ⟨v, h1, h2⟩ := relP_ok (fa := fa) h.1
      obtain ⟨vs, h3, h4⟩ := relPs_ok (fa := fa) h.2
      exact ⟨v :: vs, .cons h1 h3, fun g => .cons (h2 g) (h4 g)⟩
    · cases h
end
def conOk (K : PySem.W.Frag) (q : Str × PV) : Bool := match PySem.W.nsIn K mainGlobals q.1 with
  | some (some u) => relP K q.2 u
  | _ => false
def gcdOk (K : PySem.W.Frag) : Bool := match PySem.W.nsIn K mainGlobals "gcd" with
  | some (some (.builtin id)) => decide (id = "math.gcd")
  | _ => false
/-- what more is looked at: constants, gcd -/
def moreB (cs : List (Str × PV)) (gc : Bool) (K : PySem.W.Frag) : Bool := cs.all (conOk K) && (!gc || gcdOk K)
def hookC (n : Nat) (fa : List He.Fa) (fn : List He.DefD) (cs : List (Str × PV)) (gc : Bool) : PySem.W.Hook where
  α := He.AlD × Bool
  obs := fun s => (He.obsDG n fa fn s.heap.get?, moreB cs gc (He.frG s.heap.get? (He.asD s.heap.get? n)))
  val := fun _ => (He.valD fn, true)
  says := fun _ h => ∃ K : PySem.W.Frag, K.In h ∧ He.SaysD fa fn K ∧ moreB cs gc K = true
  of := fun _ _ e => ⟨_, He.frG_in, congrArg (fun z : He.AlD × Bool => z.1) e, congrArg (fun z : He.AlD × Bool => z.2) e⟩
  keeps := fun _ _ _ ⟨K, hK, c⟩ k => ⟨K, PySem.W.Frag.In.keeps hK k, c⟩
def obC (n : Nat) (fa : List He.Fa) (fn : List He.DefD) (cs : List (Str × PV)) (gc : Bool) (g : Addr → Option Obj) : He.AlD × Bool := (He.obsDG n fa fn g, moreB cs gc (He.frG g (He.asD g n)))
theorem obC_eq {n : Nat} {fa : List He.Fa} {fn : List He.DefD} {cs : List (Str × PV)} {gc : Bool} {g : Addr → Option Obj} {s : Shared} (h : ∀ a, g a = s.heap.get? a) : obC n fa fn cs gc g = (hookC n fa fn cs gc).obs s := by
  have e : g = s.heap.get? := funext h
  rw [e] <;> rfl
/-- a def of the row: its number, name, place -/
structure Ent where
  f : Nat
  nm : Str
  st : Stmt
def Ent.d (e : Ent) : He.DefD := ⟨(e.nm, none), e.nm, e.nm, defArgs e.st, defBody e.st, defScope e.st, [], []⟩
def factsOf (es : List Ent) : List He.Fa := es.map (fun e => He.Fa.glo e.nm) ++ bltNames.map .free
def defsOf (es : List Ent) : List He.DefD := es.map Ent.d
def findE (es : List Ent) (f : Nat) : Option Ent := es.find? fun e => e.f == f
def plOf (K : PySem.W.Frag) (es : List Ent) : Pl := ⟨K, fun f => (findE es f).map fun e => He.ga K e.nm, fun _ => 0, fun _ => Str.empty⟩
def tbOf (es : List Ent) (ps : Nat → List Str) (cst : Nat → Int) (cs : List (Str × PV)) (gc : Bool) (kw : List (Nat × List Str × List Nat)) : Tb where
  nm := fun f => ((findE es f).map Ent.nm).getD Str.empty
  ok := fun f => (findE es f).isSome
  ps := ps
  cst := cst
  con := cs
  gcd := gc
  kw := kw
def entB (Tt : Tb) (p : Prg) (e : Ent) : Bool := match p.dt e.f with
  | some d => defB Tt e.f d e.st
  | none => false
theorem told_of {K : PySem.W.Frag} {h : Heap} {mg : Str → Option Value} {es : List Ent} {p : Prg} {ps : Nat → List Str} {cs : List (Str × PV)} {gc : Bool} {kw : List (Nat × List Str × List Nat)} (X : K.In h) (G : h.Ns mainGlobals mg) (c : He.SaysD (factsOf es) (defsOf es) K) (m : moreB cs gc K = true)
    (hd : ∀ e ∈ es, entB (tbOf es ps p.cst cs gc kw) p e = true) (hkw : ∀ q ∈ kw, kwOkB (ps q.1) q.2.1 q.2.2 = true) :
    Told K mg (plOf K es) (tbOf es ps p.cst cs gc kw) p fun f => ((findE es f).map Ent.st).getD (.Pass ⟨0, 0, 0, 0⟩) where
  hK := rfl
  okf := fun f h => by
    have h' : (findE es f).isSome = true := h
    obtain ⟨e, he⟩ := Option.isSome_iff_exists.mp h'
    exact ⟨He.ga K e.nm, by show (findE es f).map _ = _; rw [he]; rfl⟩
  defs := fun f a ha => by
    have ha' : (findE es f).map (fun e => He.ga K e.nm) = some a := ha
    cases he : findE es f with
    | none => rw [he] at ha'; cases ha'
    | some e =>
      rw [he] at ha'
      cases ha'
      have hm : e ∈ es := List.mem_of_find?_eq_some he
      have hf : e.f = f := by
        have := List.find?_some he
        simpa using this
      obtain ⟨fd, F⟩ := c.defs (d := e.d) (List.mem_map.mpr ⟨e, hm, rfl⟩)
      have hg : mg e.nm = some (.ref (He.ga K e.nm)) := He.glo_ok X G (c.facts (f := .glo e.nm) (List.mem_append_left _ (List.mem_map.mpr ⟨e, hm, rfl⟩)))
      have hb := hd e hm
      unfold entB at hb
      cases hp : p.dt e.f with
      | none => rw [hp] at hb; cases hb
      | some d =>
        rw [hp] at hb
        have n1 : (tbOf es ps p.cst cs gc kw).nm f = e.nm := by
          show ((findE es f).map Ent.nm).getD Str.empty = e.nm
          rw [he]; rfl
        refine ⟨fd, d, hf ▸ hp, ?_, ?_⟩
        · rw [n1, Option.map_some, Option.getD_some]
          exact ⟨F, hg⟩
        · rw [Option.map_some, Option.getD_some, ← hf]
          exact hb
  kw := fun f ks perm hm => hkw (f, ks, perm) hm
  con := fun x v hm => by
    have h1 := (Bool.and_eq_true_iff.mp (show (cs.all (conOk K) && (!gc || gcdOk K)) = true from m)).1
    have h2 := List.all_eq_true.mp h1 (x, v) hm
    unfold conOk at h2
    split at h2
    · rename_i u e
      obtain ⟨w, r1, r2⟩ := relP_ok (fa := (plOf K es).fa) h2
      exact ⟨u, w, PySem.W.mg_of X G e, r1, r2⟩
    · cases h2
  cst := rfl
  blt := fun x hx => He.free_ok X G (c.facts (f := .free x) (List.mem_append_right _ (List.mem_map.mpr ⟨x, hx, rfl⟩)))
  gcd := fun hg => by
    have hg' : gc = true := hg
    have h1 := (Bool.and_eq_true_iff.mp (show (cs.all (conOk K) && (!gc || gcdOk K)) = true from m)).2
    rw [hg'] at h1
    have h2 : gcdOk K = true := h1
    unfold gcdOk at h2
    split at h2
    · rename_i id e
      simp only [decide_eq_true_eq] at h2
      subst h2
      exact PySem.W.mg_of X G e
    · cases h2

/-! ### a law's end -/
theorem law_walk {l : PySem.W.OpenLaw} {n k : Nat} {q : Program} {loose : List Str} {XP : (Str → Option Value) → Heap → Prop} {d : DefRec} {es : List Ent} {p : Prg} {ps : Nat → List Str} {cs : List (Str × PV)} {gc : Bool} {kw : List (Nat × List Str × List Nat)} {fl : Nat} {el : Ent} {m : Nat}
    (hn : l.most = some n) (hn2 : n ≤ sizeLine) (hdf : d.params.defaults = []) (hr : Room k callerA) (hel : findE es fl = some el) (hnm : d.name = el.nm) (hx : ps fl = [("script" : Str)])
    (hd : ∀ e ∈ es, entB (tbOf es ps p.cst cs gc kw) p e = true) (hkw : ∀ q ∈ kw, kwOkB (ps q.1) q.2.1 q.2.2 = true)
    (hlaw : ∀ ns : List Int, ns.length ≤ n → ∃ S, (run p k fl [.frz (ns.map .int)]).go [] = .ok (.bl true) S) :
    PySem.W.WalkO q loose XP (hookC m (factsOf es) (defsOf es) cs gc).says l.row.toRowW d [] (fun f vs => PySem.call f vs) := by
  refine LamX.walk_ofTsE (l := l) (n := n) (k := k) (x := "script") (CX := fun w => L2.CX l.prog w) hn hn2 hdf hr (fun w mg fa h Y G hmg => ?_) fun w H s e s' hc => ?_
  · obtain ⟨K, X, c, mo⟩ := Y
    have Td := told_of (p := p) (ps := ps) (kw := kw) X G c mo hd hkw
    have hfa : (plOf K es).fa fl = some (He.ga K el.nm) := by
      show (findE es fl).map _ = _
      rw [hel] <;> rfl
    have hg : mg el.nm = some (.ref (He.ga K el.nm)) := He.glo_ok X G (c.facts (f := .glo el.nm) (List.mem_append_left _ (List.mem_map.mpr ⟨el, List.mem_of_find?_eq_some hel, rfl⟩)))
    rw [hnm, hg] at hmg
    cases hmg
    obtain ⟨fd, dd, _, F, hde⟩ := Td.defs fl _ hfa
    obtain ⟨a1, _⟩ := defB_ok hde
    obtain ⟨as, e1, e2, nd⟩ := argB_ok a1
    have hps : (tbOf es ps p.cst cs gc kw).ps fl = [("script" : Str)] := hx
    rw [hps] at e2
    refine ⟨K, X, fd, [], spF (plOf K es) ⟨run p k, p.cst⟩ fl, by simp, by simp, by simp, fun s u => ?_, fun H a ns hl _ _ hS => ?_, fun base hb hbm _ => ?_⟩
    · have b := FunD.bindsA (ps := [("script" : Str)]) F.d (fun kV doc pm an cdv ct us hl => ?_) s [u] rfl
      · exact b
      · rw [e1, ← e2]
        exact bindPos (by rw [e2, ← hps]; exact nd) (by rw [e2]; exact hl)
    · refine ⟨⟨H, []⟩, [], [.frz (ns.map .int)], ⟨fun _ _ h => h, rfl, List.nodup_nil, fun n a xs h => by simp at h, fun _ _ _ h => by simp at h⟩, .cons (.frz hS ?_ (Reps.ofInts ns)) .nil, ?_⟩
      · rw [List.length_map]
        exact Nat.le_trans hl hn2
      · obtain ⟨S, e⟩ := hlaw ns hl
        show OutG _ _ _ _ _ ((run p k fl [.frz (ns.map .int)]).go []) _
        rw [e]
        intro v H' g' _ _ rp
        cases rp
        rfl
    · obtain ⟨fd', F', _, _, ok⟩ := fns (P := l.prog) (w := w) Td hb k fl _ hfa
      have efd : fd' = fd := by
        obtain ⟨oc, od, dV, kV, doc, pm, an, cdv, ct, osl, h1, lk, _⟩ := F.d.ex
        obtain ⟨oc', od', dV', kV', doc', pm', an', cdv', ct', osl', h1', lk', _⟩ := F'.d.ex
        rw [lk] at lk'
        cases lk'
        rfl
      rw [efd, hps] at ok
      exact ok
  · obtain ⟨a, B, H', cls, dd, _, _, _, _, _, _, _, z⟩ := hc
    exact z
end Wt
/-! Sim: the evaluator, step by step, for simp. -/
namespace Wt
open PySem (Str)
variable {c : Cc} {env : Env}
@[simp] theorem ev_non : ev c .non env = pure .non := by rw [ev]
@[simp] theorem ev_bl {b : Bool} : ev c (.bl b) env = pure (.bl b) := by rw [ev]
@[simp] theorem ev_int {i : Int} : ev c (.int i) env = pure (.int i) := by rw [ev]
@[simp] theorem ev_str {x : Str} : ev c (.str x) env = pure (.str x) := by rw [ev]
@[simp] theorem ev_cst {j : Nat} : ev c (.cst j) env = pure (.int (c.cst j)) := by rw [ev]
def varM : Option Slot → M PV
  | some (.val v) => pure v
  | _ => bad
@[simp] theorem varM_val {v : PV} : varM (some (.val v)) = pure v := rfl
@[simp] theorem ev_var {i : Nat} : ev c (.var i) env = varM env[i]? := by
  rw [ev]
  unfold varM
  rfl
def pkM : Option Slot → M PV
  | some (.own v) => pure (.lst v)
  | _ => bad
@[simp] theorem pkM_own {v : List PV} : pkM (some (.own v)) = pure (.lst v) := rfl
@[simp] theorem ev_pk {i : Nat} : ev c (.pk i) env = pkM env[i]? := by
  rw [ev]
  unfold pkM
  rfl
@[simp] theorem ev_con {x : Str} {v : PV} : ev c (.con x v) env = pure v := by rw [ev]
@[simp] theorem ev_fnv {f : Nat} : ev c (.fnv f) env = pure (.fn f) := by rw [ev]
@[simp] theorem ev_tup {es : Es} : ev c (.tup es) env = (evs c es env >>= fun vs => pure (.tup vs)) := by rw [ev]
@[simp] theorem ev_lst {es : Es} : ev c (.lst es) env = (evs c es env >>= fun vs => pure (.lst vs)) := by rw [ev]
@[simp] theorem ev_tupS {es : Es} : ev c (.tupS es) env = (evs c es env >>= fun vs => if vs.length ≤ LIM then pure (.tup vs) else bad) := by rw [ev]
@[simp] theorem ev_lstS {es : Es} : ev c (.lstS es) env = (evs c es env >>= fun vs => if vs.length ≤ LIM then pure (.lst vs) else bad) := by rw [ev]
@[simp] theorem ev_op {o : BOp} {a b : E} : ev c (.op o a b) env = (ev c a env >>= fun x => ev c b env >>= fun y => lift (bopE o x y)) := by rw [ev]
@[simp] theorem ev_neg {a : E} : ev c (.neg a) env = (ev c a env >>= fun x => lift ((asI x).map fun i => .int (-i))) := by rw [ev]
@[simp] theorem ev_cmp {o : COp} {a b : E} : ev c (.cmp o a b) env = (ev c a env >>= fun x => ev c b env >>= fun y => lift ((copE o x y).map .bl)) := by rw [ev]
@[simp] theorem ev_chain {o o' : COp} {a b d : E} : ev c (.chain o o' a b d) env = (ev c a env >>= fun x => ev c b env >>= fun y => lift (copE o x y) >>= fun r => if r = true then ev c d env >>= fun z => lift ((copE o' y z).map .bl) else pure (.bl false)) := by rw [ev]
@[simp] theorem ev_and {es : Es} : ev c (.and_ es) env = evAnd c es env := by rw [ev]
@[simp] theorem ev_or {es : Es} : ev c (.or_ es) env = evOr c es env := by rw [ev]
@[simp] theorem ev_not {a : E} : ev c (.not_ a) env = (ev c a env >>= fun x => asBM x >>= fun b => pure (.bl (!b))) := by rw [ev]
@[simp] theorem ev_ite {d a b : E} : ev c (.ite d a b) env = (ev c d env >>= fun x => asBM x >>= fun t => if t = true then ev c a env else ev c b env) := by rw [ev]
@[simp] theorem ev_call {f : Nat} {es : Es} : ev c (.call f es) env = (evs c es env >>= fun vs => c.call f vs) := by rw [ev]
@[simp] theorem ev_callk {f : Nat} {perm : List Nat} {ks : List Str} {es : Es} : ev c (.callk f perm ks es) env = (evs c es env >>= fun vs => c.call f (perm.map fun j => vs.getD j .non)) := by rw [ev]
def fnM : Option Slot → M Nat
  | some (.val (.fn f)) => pure f
  | _ => bad
@[simp] theorem fnM_fn {f : Nat} : fnM (some (.val (.fn f))) = pure f := rfl
@[simp] theorem ev_callv {i : Nat} {es : Es} : ev c (.callv i es) env = (fnM env[i]? >>= fun f => evs c es env >>= fun vs => c.call f vs) := by
  rw [ev]
  unfold fnM
  generalize env[i]? = o
  cases o with
  | none => rfl
  | some s =>
    cases s with
    | val v => cases v <;> rfl
    | _ => rfl
@[simp] theorem ev_bi {b : BI} {es : Es} : ev c (.bi b es) env = (evs c es env >>= fun vs => lift (biE b vs)) := by rw [ev]
@[simp] theorem ev_isi {a : E} {t : String} : ev c (.isi a t) env = (ev c a env >>= fun x => lift ((isiE x t).map .bl)) := by rw [ev]
@[simp] theorem ev_ix {a i : E} : ev c (.ix a i) env = (ev c a env >>= fun x => ev c i env >>= fun j => ixM c x j) := by rw [ev]
@[simp] theorem ev_sl {a : E} {lo hi : Oe} : ev c (.sl a lo hi) env = (ev c a env >>= fun x => evO c lo env >>= fun l => evO c hi env >>= fun h => lift (slE x l h)) := by rw [ev]
@[simp] theorem ev_rev {a : E} : ev c (.rev a) env = (ev c a env >>= fun x => lift (revE x)) := by rw [ev]
@[simp] theorem ev_poolN {es : Es} : ev c (.poolN es) env = (evs c es env >>= fun vs => newRef vs) := by rw [ev]
@[simp] theorem ev_lc {elt : E} {t : T} {it : It} {d : Oe} {own : List (Str × Nat)} : ev c (.lc elt t it d own) env = (evI c it env >>= fun xs => noerr (lcGo (lcBody c elt t d (own.map (·.2)) env) xs) >>= fun ys => pure (.lst ys)) := by
  rw [ev]
  rfl
@[simp] theorem evO_no : evO c .no env = pure none := by rw [evO]
@[simp] theorem evO_yes {e : E} : evO c (.yes e) env = (ev c e env >>= fun x => lift ((asI x).map some)) := by rw [evO]
@[simp] theorem evC_no : evC c .no env = pure true := by rw [evC]
@[simp] theorem evC_yes {e : E} : evC c (.yes e) env = (ev c e env >>= fun x => asBM x) := by rw [evC]
@[simp] theorem evs_nil : evs c .nil env = pure [] := by rw [evs]
@[simp] theorem evs_cons {e : E} {es : Es} : evs c (.cons e es) env = (ev c e env >>= fun x => evs c es env >>= fun xs => pure (x :: xs)) := by rw [evs]
@[simp] theorem evs_star {e : E} {es : Es} : evs c (.star e es) env = (ev c e env >>= fun x => lift (items x) >>= fun ys => evs c es env >>= fun xs => pure (ys ++ xs)) := by rw [evs]
@[simp] theorem evAnd_one {e : E} : evAnd c (.cons e .nil) env = ev c e env := by rw [evAnd]
@[simp] theorem evAnd_cons {e e' : E} {es : Es} : evAnd c (.cons e (.cons e' es)) env = (ev c e env >>= fun x => asBM x >>= fun b => if b = true then evAnd c (.cons e' es) env else pure (.bl false)) := by
  rw [evAnd]
  intro z
  cases z
@[simp] theorem evOr_one {e : E} : evOr c (.cons e .nil) env = ev c e env := by rw [evOr]
@[simp] theorem evOr_cons {e e' : E} {es : Es} : evOr c (.cons e (.cons e' es)) env = (ev c e env >>= fun x => asBM x >>= fun b => if b = true then pure (.bl true) else evOr c (.cons e' es) env) := by
  rw [evOr]
  intro z
  cases z
@[simp] theorem evI_seq {e : E} : evI c (.seq e) env = (ev c e env >>= fun x => lift (items x)) := by rw [evI]
@[simp] theorem evI_rng1 {a : E} : evI c (.rng1 a) env = (ev c a env >>= fun x => lift (asI x) >>= fun n => rngM 0 n) := by rw [evI]
@[simp] theorem evI_rng2 {a b : E} : evI c (.rng2 a b) env = (ev c a env >>= fun x => ev c b env >>= fun y => lift (asI x) >>= fun lo => lift (asI y) >>= fun hi => rngM lo hi) := by rw [evI]
@[simp] theorem evI_enum {e : E} : evI c (.enum e) env = (ev c e env >>= fun x => lift (items x) >>= fun xs => pure (enumE xs)) := by rw [evI]
@[simp] theorem evI_zip2 {a b : E} : evI c (.zip2 a b) env = (ev c a env >>= fun x => ev c b env >>= fun y => lift (items x) >>= fun xs => lift (items y) >>= fun ys => pure (zip2E xs ys)) := by rw [evI]
@[simp] theorem evI_zip3 {a b d : E} : evI c (.zip3 a b d) env = (ev c a env >>= fun x => ev c b env >>= fun y => ev c d env >>= fun z => lift (items x) >>= fun xs => lift (items y) >>= fun ys => lift (items z) >>= fun zs => pure (zip3E xs ys zs)) := by rw [evI]
@[simp] theorem evI_enumzip {a b : E} : evI c (.enumzip a b) env = (ev c a env >>= fun x => ev c b env >>= fun y => lift (items x) >>= fun xs => lift (items y) >>= fun ys => pure (enumE (zip2E xs ys))) := by rw [evI]
@[simp] theorem items_tup {xs : List PV} : items (.tup xs) = some xs := rfl
@[simp] theorem items_lst {xs : List PV} : items (.lst xs) = some xs := rfl
@[simp] theorem items_frz {xs : List PV} : items (.frz xs) = some xs := rfl
@[simp] theorem asI_int {i : Int} : asI (.int i) = some i := rfl
@[simp] theorem asBM_bl {b : Bool} : asBM (.bl b) = pure b := rfl

/-! statements -/
def andThen (k : Env → M Fl) : Fl → M Fl
  | .nx env => k env
  | .rt v => pure (.rt v)
@[simp] theorem andThen_nx {k : Env → M Fl} : andThen k (.nx env) = k env := rfl
@[simp] theorem andThen_rt {k : Env → M Fl} {v : PV} : andThen k (.rt v) = pure (.rt v) := rfl
def forBody (c : Cc) (t : T) (b : B) : PV → Env → M Fl := fun x env => lift (asgT t x env) >>= fun env' => evB c b env'
@[simp] theorem evB_nil : evB c .nil env = pure (.nx env) := by rw [evB]
@[simp] theorem evB_cons {s : St} {b : B} : evB c (.cons s b) env = (evS c s env >>= andThen (evB c b)) := by
  rw [evB]
  congr 1
theorem forGo_nil {f : PV → Env → M Fl} : forGo f [] env = pure (.nx env) := by rw [forGo]
theorem forGo_cons {f : PV → Env → M Fl} {x : PV} {xs : List PV} : forGo f (x :: xs) env = (f x env >>= andThen (forGo f xs)) := by
  rw [forGo]
  congr 1
theorem whileGo_succ {t : Env → M Bool} {f : Env → M Fl} {n : Nat} : whileGo t f (n + 1) env = (t env >>= fun b => if b = true then f env >>= andThen (whileGo t f n) else pure (.nx env)) := by
  rw [whileGo]
  congr 1
@[simp] theorem evS_set {i : Nat} {e : E} : evS c (.set i e) env = (ev c e env >>= fun v => setI env i (.val v)) := by rw [evS]
def lstM : PV → M (List PV)
  | .lst xs => pure xs
  | _ => bad
@[simp] theorem lstM_lst {xs : List PV} : lstM (.lst xs) = pure xs := rfl
@[simp] theorem evS_setO {i : Nat} {e : E} : evS c (.setO i e) env = (ev c e env >>= fun v => lstM v >>= fun xs => setI env i (.own xs)) := by
  rw [evS]
  congr 1
  funext v
  cases v <;> rfl
@[simp] theorem evS_asg {t : T} {e : E} : evS c (.asg t e) env = (ev c e env >>= fun v => lift (asgT t v env) >>= fun env' => pure (.nx env')) := by rw [evS]
@[simp] theorem evS_par {ts : List (Nat × Bool)} {es : Es} : evS c (.par ts es) env = (evs c es env >>= fun vs => lift (parE ts vs env) >>= fun env' => pure (.nx env')) := by rw [evS]
@[simp] theorem evS_setix {i : Nat} {a e : E} : evS c (.setix i a e) env = (ev c e env >>= fun v => ownOf env i >>= fun xs => ev c a env >>= fun x => lift (asI x) >>= fun k => lift (ixN xs.length k) >>= fun j => pure (.nx (env.set i (.own (xs.set j v))))) := by rw [evS]
def refM : PV → M Nat
  | .ref n => pure n
  | _ => bad
@[simp] theorem refM_ref {n : Nat} : refM (.ref n) = pure n := rfl
@[simp] theorem evS_setixR {r a e : E} : evS c (.setixR r a e) env = (ev c e env >>= fun v => ev c r env >>= fun q => ev c a env >>= fun x => refM q >>= fun n => getRef n >>= fun xs => lift (asI x) >>= fun k => lift (ixN xs.length k) >>= fun j => setRef n (xs.set j v) >>= fun _ => pure (.nx env)) := by
  rw [evS]
  congr 1
  funext v
  congr 1
  funext q
  congr 1
  funext x
  cases q <;> rfl
@[simp] theorem evS_app {i : Nat} {e : E} : evS c (.app i e) env = (ownOf env i >>= fun xs => ev c e env >>= fun v => if xs.length < LIM then pure (.nx (env.set i (.own (xs ++ [v])))) else bad) := by rw [evS]
@[simp] theorem evS_ext {i : Nat} {e : E} : evS c (.ext i e) env = (ownOf env i >>= fun xs => ev c e env >>= fun v => lstM v >>= fun ys => if xs.length + ys.length < LIM then pure (.nx (env.set i (.own (xs ++ ys)))) else bad) := by
  rw [evS]
  congr 1
  funext xs
  congr 1
  funext v
  cases v <;> rfl
@[simp] theorem evS_share {i : Nat} : evS c (.share i) env = (ownOf env i >>= fun xs => pure (.nx (env.set i (.val (.lst xs))))) := by rw [evS]
@[simp] theorem evS_ret {e : E} : evS c (.ret e) env = (ev c e env >>= fun v => pure (.rt v)) := by rw [evS]
@[simp] theorem evS_retN : evS c .retN env = pure (.rt .non) := by rw [evS]
@[simp] theorem evS_ite {d : E} {b b' : B} : evS c (.ite d b b') env = (ev c d env >>= fun x => asBM x >>= fun t => if t = true then evB c b env else evB c b' env) := by rw [evS]
@[simp] theorem evS_for {t : T} {it : It} {b : B} : evS c (.for_ t it b) env = (evI c it env >>= fun xs => forGo (forBody c t b) xs env) := by
  rw [evS]
  rfl
def intM : Option Slot → M Int
  | some (.val (.int k)) => pure k
  | _ => bad
@[simp] theorem intM_int {k : Int} : intM (some (.val (.int k))) = pure k := rfl
def testM (c : Cc) (d : E) : Env → M Bool := fun env => ev c d env >>= fun x => asBM x
def bodyM (c : Cc) (b : B) : Env → M Fl := fun env => evB c b env
@[simp] theorem evS_while {i : Nat} {d : E} {b : B} : evS c (.while_ i d b) env = (intM env[i]? >>= fun k => whileGo (testM c d) (bodyM c b) (k.toNat + 1) env) := by
  rw [evS]
  unfold intM
  generalize env[i]? = o
  cases o with
  | none => rfl
  | some s =>
    cases s with
    | val v => cases v <;> rfl
    | _ => rfl
@[simp] theorem evS_expr {e : E} : evS c (.expr e) env = (ev c e env >>= fun _ => pure (.nx env)) := by rw [evS]
@[simp] theorem evS_pass : evS c .pass env = pure (.nx env) := by rw [evS]
@[simp] theorem ownOf_own {i : Nat} {xs : List PV} (h : env[i]? = some (.own xs)) : ownOf env i = pure xs := by
  unfold ownOf
  rw [h]
/-! comprehensions -/
theorem lcGo_map {f : PV → M (Option PV)} {g : PV → PV} : ∀ {xs : List PV}, (∀ x ∈ xs, f x = pure (some (g x))) → lcGo f xs = pure (xs.map g)
  | [], _ => by rw [lcGo]; rfl
  | x :: xs, h => by
    rw [lcGo, h x (by simp), lcGo_map fun y hy => h y (by simp [hy])]
    rfl
theorem lcGo_filter {f : PV → M (Option PV)} {g : PV → Option PV} : ∀ {xs : List PV}, (∀ x ∈ xs, f x = pure (g x)) → lcGo f xs = pure (xs.filterMap g)
  | [], _ => by rw [lcGo]; rfl
  | x :: xs, h => by
    rw [lcGo, h x (by simp), lcGo_filter fun y hy => h y (by simp [hy])]
    cases e : g x <;> simp [e]
@[simp] theorem setI_lt {i : Nat} {s : Slot} (h : i < env.length) : setI env i s = pure (.nx (env.set i s)) := by
  unfold setI
  rw [if_pos h]
@[simp] theorem lift_bind_some {α β : Type} {a : α} {f : α → M β} : (lift (some a) >>= f) = f a := rfl
end Wt
namespace Wt
open PySem (Str)
/-- plain_of -/
def D0 : Def := ⟨2, ["top", "bottom", "common"], (.cons (.set 2 (.ite (.cmp .gt (.var 1) (.int 0)) (.bi .gcd (.cons (.var 0) (.cons (.var 1) .nil))) (.neg (.bi .gcd (.cons (.var 0) (.cons (.var 1) .nil)))))) (.cons (.ret (.tup (.cons (.op .fdiv (.var 0) (.var 2)) (.cons (.op .fdiv (.var 1) (.var 2)) .nil)))) .nil))⟩
/-- plus -/
def D1 : Def := ⟨2, ["one", "other"], (.cons (.ret (.call 0 (.cons (.op .add (.op .mul (.ix (.var 0) (.int 0)) (.ix (.var 1) (.int 1))) (.op .mul (.ix (.var 1) (.int 0)) (.ix (.var 0) (.int 1)))) (.cons (.op .mul (.ix (.var 0) (.int 1)) (.ix (.var 1) (.int 1))) .nil)))) .nil)⟩
/-- minus -/
def D2 : Def := ⟨2, ["one", "other"], (.cons (.ret (.call 0 (.cons (.op .sub (.op .mul (.ix (.var 0) (.int 0)) (.ix (.var 1) (.int 1))) (.op .mul (.ix (.var 1) (.int 0)) (.ix (.var 0) (.int 1)))) (.cons (.op .mul (.ix (.var 0) (.int 1)) (.ix (.var 1) (.int 1))) .nil)))) .nil)⟩
/-- times -/
def D3 : Def := ⟨2, ["one", "other"], (.cons (.ret (.call 0 (.cons (.op .mul (.ix (.var 0) (.int 0)) (.ix (.var 1) (.int 0))) (.cons (.op .mul (.ix (.var 0) (.int 1)) (.ix (.var 1) (.int 1))) .nil)))) .nil)⟩
/-- is_less -/
def D5 : Def := ⟨2, ["one", "other"], (.cons (.ret (.cmp .lt (.op .mul (.ix (.var 0) (.int 0)) (.ix (.var 1) (.int 1))) (.op .mul (.ix (.var 1) (.int 0)) (.ix (.var 0) (.int 1))))) .nil)⟩
/-- greater_of -/
def D7 : Def := ⟨2, ["one", "other"], (.cons (.ret (.ite (.call 5 (.cons (.var 0) (.cons (.var 1) .nil))) (.var 1) (.var 0))) .nil)⟩
/-- above_of -/
def D8 : Def := ⟨1, ["fraction"], (.cons (.ret (.call 7 (.cons (.var 0) (.cons (.con "NOUGHT" (.tup [(.int 0), (.int 1)])) .nil)))) .nil)⟩
/-- sum_of -/
def D11_1 : B := (.cons (.set 1 (.call 1 (.cons (.var 1) (.cons (.var 2) .nil)))) .nil)
def D11 : Def := ⟨1, ["fractions", "found", "fraction"], (.cons (.set 1 (.con "NOUGHT" (.tup [(.int 0), (.int 1)]))) (.cons (.for_ (.nm 2) (.seq (.var 0)) D11_1) (.cons (.ret (.var 1)) .nil)))⟩
/-- is_whole -/
def D20 : Def := ⟨1, ["value"], (.cons (.ret (.and_ (.cons (.isi (.var 0) "int") (.cons (.not_ (.isi (.var 0) "bool")) .nil)))) .nil)⟩
/-- is_from -/
def D23 : Def := ⟨2, ["value", "least"], (.cons (.ret (.and_ (.cons (.call 20 (.cons (.var 0) .nil)) (.cons (.cmp .ge (.var 0) (.var 1)) .nil)))) .nil)⟩
/-- is_tuple_up_to -/
def D26 : Def := ⟨3, ["value", "low", "high"], (.cons (.ret (.and_ (.cons (.isi (.var 0) "tuple") (.cons (.chain .le .le (.var 1) (.bi .len (.cons (.var 0) .nil)) (.var 2)) .nil)))) .nil)⟩
/-- is_tuple_of -/
def D27 : Def := ⟨2, ["value", "many"], (.cons (.ret (.call 26 (.cons (.var 0) (.cons (.var 1) (.cons (.var 1) .nil))))) .nil)⟩
/-- is_pair -/
def D28 : Def := ⟨1, ["value"], (.cons (.ret (.call 27 (.cons (.var 0) (.cons (.int 2) .nil)))) .nil)⟩
/-- wrong_in -/
def D30 : Def := ⟨4, ["value", "low", "high", "is_one", "at", "each"], (.cons (.ite (.not_ (.call 26 (.cons (.var 0) (.cons (.var 1) (.cons (.var 2) .nil))))) (.cons (.ret (.lst (.cons .non .nil))) .nil) .nil) (.cons (.ret (.sl (.lc (.var 4) (.tp [(.nm 4), (.nm 5)]) (.enum (.var 0)) (.yes (.not_ (.callv 3 (.cons (.var 5) .nil)))) [("at", 4), ("each", 5)]) .no (.yes (.int 1)))) .nil))⟩
/-- is_fraction_of -/
def D31 : Def := ⟨1, ["value"], (.cons (.ite (.or_ (.cons (.not_ (.call 28 (.cons (.var 0) .nil))) (.cons (.not_ (.call 20 (.cons (.ix (.var 0) (.int 0)) .nil))) (.cons (.not_ (.call 23 (.cons (.ix (.var 0) (.int 1)) (.cons (.int 1) .nil)))) .nil)))) (.cons (.ret (.bl false)) .nil) .nil) (.cons (.ret (.cmp .eq (.bi .gcd (.cons (.ix (.var 0) (.int 0)) (.cons (.ix (.var 0) (.int 1)) .nil))) (.int 1))) .nil))⟩
/-- is_from_nought -/
def D32 : Def := ⟨1, ["value"], (.cons (.ret (.and_ (.cons (.call 31 (.cons (.var 0) .nil)) (.cons (.cmp .ge (.ix (.var 0) (.int 0)) (.int 0)) .nil)))) .nil)⟩
/-- is_above_nought -/
def D33 : Def := ⟨1, ["value"], (.cons (.ret (.and_ (.cons (.call 31 (.cons (.var 0) .nil)) (.cons (.cmp .gt (.ix (.var 0) (.int 0)) (.int 0)) .nil)))) .nil)⟩
/-- is_tap -/
def D34 : Def := ⟨1, ["value"], (.cons (.ret (.and_ (.cons (.call 28 (.cons (.var 0) .nil)) (.cons (.call 33 (.cons (.ix (.var 0) (.int 0)) .nil)) (.cons (.call 31 (.cons (.ix (.var 0) (.int 1)) .nil)) .nil))))) .nil)⟩
/-- is_board_of -/
def D35 : Def := ⟨1, ["value", "each"], (.cons (.ret (.and_ (.cons (.call 26 (.cons (.var 0) (.cons (.int 1) (.cons (.con "MOST_TAPS" (.int 8)) .nil)))) (.cons (.bi .all (.cons (.lc (.call 34 (.cons (.var 1) .nil)) (.nm 1) (.seq (.var 0)) .no [("each", 1)]) .nil)) .nil)))) .nil)⟩
/-- is_flow -/
def D36 : Def := ⟨2, ["tap", "value"], (.cons (.ret (.and_ (.cons (.call 32 (.cons (.var 1) .nil)) (.cons (.not_ (.call 5 (.cons (.ix (.var 0) (.int 0)) (.cons (.var 1) .nil)))) .nil)))) .nil)⟩
/-- wrong_in_setting -/
def D37 : Def := ⟨2, ["board", "value", "index", "tap", "each"], (.cons (.ite (.not_ (.call 27 (.cons (.var 1) (.cons (.bi .len (.cons (.var 0) .nil)) .nil)))) (.cons (.ret (.lst (.cons .non .nil))) .nil) .nil) (.cons (.ret (.sl (.lc (.var 2) (.tp [(.nm 2), (.tp [(.nm 3), (.nm 4)])]) (.enumzip (.var 0) (.var 1)) (.yes (.not_ (.call 36 (.cons (.var 3) (.cons (.var 4) .nil))))) [("index", 2), ("tap", 3), ("each", 4)]) .no (.yes (.int 1)))) .nil))⟩
/-- is_mix_of -/
def D39 : Def := ⟨1, ["value"], (.cons (.ret (.and_ (.cons (.call 28 (.cons (.var 0) .nil)) (.cons (.call 32 (.cons (.ix (.var 0) (.int 0)) .nil)) (.cons (.call 31 (.cons (.ix (.var 0) (.int 1)) .nil)) .nil))))) .nil)⟩
/-- check_board -/
def D45 : Def := ⟨1, ["board"], (.cons (.ite (.not_ (.call 35 (.cons (.var 0) .nil))) (.cons (.never) .nil) .nil) .nil)⟩
/-- wrong_in_prices -/
def D124 : Def := ⟨2, ["board", "value"], (.cons (.ret (.call 30 (.cons (.var 1) (.cons (.bi .len (.cons (.var 0) .nil)) (.cons (.bi .len (.cons (.var 0) .nil)) (.cons (.fnv 32) .nil)))))) .nil)⟩
/-- setting_cost_by -/
def D125 : Def := ⟨2, ["prices", "setting", "price", "volume"], (.cons (.ret (.call 11 (.cons (.lc (.call 3 (.cons (.var 2) (.cons (.var 3) .nil))) (.tp [(.nm 2), (.nm 3)]) (.zip2 (.var 0) (.var 1)) .no [("price", 2), ("volume", 3)]) .nil))) .nil)⟩
/-- worth_at -/
def D126 : Def := ⟨2, ["rates", "warmth"], (.cons (.ret (.call 1 (.cons (.ix (.var 0) (.int 0)) (.cons (.call 3 (.cons (.ix (.var 0) (.int 1)) (.cons (.var 1) .nil))) .nil)))) .nil)⟩
/-- gain_at -/
def D127 : Def := ⟨3, ["rates", "tap", "price"], (.cons (.ret (.call 2 (.cons (.call 126 (.cons (.var 0) (.cons (.ix (.var 1) (.int 1)) .nil))) (.cons (.var 2) .nil)))) .nil)⟩
/-- rated_by -/
def D128 : Def := ⟨4, ["board", "prices", "mix", "rates", "gains", "worth", "tap", "price"], (.cons (.set 4 (.lc (.call 3 (.cons (.ix (.var 6) (.int 0)) (.cons (.call 8 (.cons (.call 127 (.cons (.var 3) (.cons (.var 6) (.cons (.var 7) .nil)))) .nil)) .nil))) (.tp [(.nm 6), (.nm 7)]) (.zip2 (.var 0) (.var 1)) .no [("tap", 6), ("price", 7)])) (.cons (.set 5 (.call 1 (.cons (.call 3 (.cons (.ix (.var 3) (.int 0)) (.cons (.ix (.var 2) (.int 0)) .nil))) (.cons (.call 3 (.cons (.ix (.var 3) (.int 1)) (.cons (.ix (.var 2) (.int 1)) .nil))) .nil)))) (.cons (.ret (.call 2 (.cons (.var 5) (.cons (.call 11 (.cons (.var 4) .nil)) .nil)))) .nil)))⟩
/-- check_fraction -/
def D274 : Def := ⟨1, ["value"], (.cons (.ite (.not_ (.call 31 (.cons (.var 0) .nil))) (.cons (.never) .nil) .nil) .nil)⟩
/-- check_mix -/
def D360 : Def := ⟨1, ["mix"], (.cons (.ite (.not_ (.call 39 (.cons (.var 0) .nil))) (.cons (.never) .nil) .nil) .nil)⟩
/-- _law_pool -/
def D434_1 : B := (.cons (.set 3 (.op .mod (.bi .int (.cons (.op .add (.op .add (.op .mul (.var 3) (.int 48271)) (.op .mod (.bi .int (.cons (.var 4) .nil)) (.int 2147483629))) (.int 11)) .nil)) (.int 2147483647))) .nil)
def D434 : Def := ⟨2, ["script", "lap", "cell", "stirred", "each"], (.cons (.set 2 (.ite (.cmp .lt (.var 1) (.bi .len (.cons (.var 0) .nil))) (.bi .int (.cons (.ix (.var 0) (.var 1)) .nil)) (.op .add (.op .mul (.cst 6944) (.var 1)) (.cst 6945)))) (.cons (.set 3 (.op .add (.cst 6946) (.op .mul (.int 7919) (.var 1)))) (.cons (.for_ (.nm 4) (.seq (.sl (.var 0) .no (.yes (.int 63)))) D434_1) (.cons (.set 3 (.op .mod (.bi .int (.cons (.op .add (.op .add (.op .mul (.var 3) (.int 69621)) (.op .mul (.op .mod (.bi .int (.cons (.var 2) .nil)) (.int 2147483629)) (.int 16807))) (.int 7)) .nil)) (.int 2147483647))) (.cons (.ret (.poolN (.cons (.ite (.or_ (.cons (.cmp .lt (.var 2) (.int 0)) (.cons (.cmp .ge (.var 2) (.op .pow (.int 10) (.int 18))) .nil))) (.bi .abs (.cons (.var 2) .nil)) (.int 0)) (.cons (.var 3) (.cons (.int 0) .nil))))) .nil)))))⟩
/-- _law_board -/
def D441 : Def := ⟨2, ["pool", "most", "wide", "tap"], (.cons (.set 2 (.call 458 (.cons (.var 0) (.cons (.tup (.cons (.int 2) (.cons (.int 6) (.cons (.int 9) .nil)))) .nil)))) (.cons (.ret (.bi .tuple (.cons (.lc (.tup (.cons (.call 444 (.cons (.var 0) .nil)) (.cons (.call 443 (.cons (.var 0) (.cons (.neg (.int 2)) (.cons (.var 2) .nil)))) .nil))) (.nm 3) (.rng1 (.op .add (.int 1) (.call 457 (.cons (.var 0) (.cons (.var 1) .nil))))) .no [("tap", 3)]) .nil))) .nil))⟩
/-- _law_fraction -/
def D443 : Def := ⟨3, ["pool", "low", "high", "part"], (.cons (.set 3 (.call 458 (.cons (.var 0) (.cons (.tup (.cons (.int 1) (.cons (.int 1) (.cons (.int 2) (.cons (.int 3) .nil))))) .nil)))) (.cons (.ret (.call 450 (.cons (.op .add (.op .mul (.var 1) (.var 3)) (.call 457 (.cons (.var 0) (.cons (.op .add (.op .mul (.op .sub (.var 2) (.var 1)) (.var 3)) (.int 1)) .nil)))) (.cons (.var 3) .nil)))) .nil))⟩
/-- _law_flow -/
def D444 : Def := ⟨1, ["pool", "part"], (.cons (.set 1 (.call 458 (.cons (.var 0) (.cons (.tup (.cons (.int 1) (.cons (.int 1) (.cons (.int 2) (.cons (.int 3) .nil))))) .nil)))) (.cons (.ret (.call 450 (.cons (.op .add (.int 1) (.call 457 (.cons (.var 0) (.cons (.op .mul (.int 5) (.var 1)) .nil)))) (.cons (.var 1) .nil)))) .nil))⟩
/-- _law_times -/
def D449 : Def := ⟨2, ["one", "two"], (.cons (.ret (.call 450 (.cons (.op .mul (.ix (.var 0) (.int 0)) (.ix (.var 1) (.int 0))) (.cons (.op .mul (.ix (.var 0) (.int 1)) (.ix (.var 1) (.int 1))) .nil)))) .nil)⟩
/-- _law_ratio -/
def D450_1 : B := (.cons (.par [(2, false), (3, false)] (.cons (.var 3) (.cons (.op .mod (.bi .int (.cons (.var 2) .nil)) (.var 3)) .nil))) .nil)
def D450 : Def := ⟨2, ["top", "low", "one", "two"], (.cons (.par [(2, false), (3, false)] (.cons (.bi .abs (.cons (.var 0) .nil)) (.cons (.bi .abs (.cons (.var 1) .nil)) .nil))) (.cons (.while_ 3 (.cmp .gt (.var 3) (.int 0)) D450_1) (.cons (.ret (.ite (.cmp .gt (.var 1) (.int 0)) (.tup (.cons (.op .fdiv (.var 0) (.var 2)) (.cons (.op .fdiv (.var 1) (.var 2)) .nil))) (.tup (.cons (.op .sub (.int 0) (.op .fdiv (.var 0) (.var 2))) (.cons (.op .sub (.int 0) (.op .fdiv (.var 1) (.var 2))) .nil))))) .nil)))⟩
/-- _law_sum -/
def D451_1 : B := (.cons (.set 1 (.call 455 (.cons (.var 1) (.cons (.var 2) .nil)))) .nil)
def D451 : Def := ⟨1, ["some", "found", "each"], (.cons (.set 1 (.tup (.cons (.int 0) (.cons (.int 1) .nil)))) (.cons (.for_ (.nm 2) (.seq (.var 0)) D451_1) (.cons (.ret (.var 1)) .nil)))⟩
/-- _law_less -/
def D453 : Def := ⟨2, ["one", "two"], (.cons (.ret (.call 450 (.cons (.op .sub (.op .mul (.ix (.var 0) (.int 0)) (.ix (.var 1) (.int 1))) (.op .mul (.ix (.var 1) (.int 0)) (.ix (.var 0) (.int 1)))) (.cons (.op .mul (.ix (.var 0) (.int 1)) (.ix (.var 1) (.int 1))) .nil)))) .nil)⟩
/-- _law_plus -/
def D455 : Def := ⟨2, ["one", "two"], (.cons (.ret (.call 450 (.cons (.op .add (.op .mul (.ix (.var 0) (.int 0)) (.ix (.var 1) (.int 1))) (.op .mul (.ix (.var 1) (.int 0)) (.ix (.var 0) (.int 1)))) (.cons (.op .mul (.ix (.var 0) (.int 1)) (.ix (.var 1) (.int 1))) .nil)))) .nil)⟩
/-- _law_below -/
def D457 : Def := ⟨2, ["pool", "many", "mixed", "figure"], (.cons (.ite (.cmp .gt (.ix (.var 0) (.int 0)) (.int 0)) (.cons (.set 3 (.op .mod (.bi .int (.cons (.ix (.var 0) (.int 0)) .nil)) (.var 1))) (.cons (.setixR (.var 0) (.int 0) (.op .fdiv (.ix (.var 0) (.int 0)) (.var 1))) (.cons (.ret (.var 3)) .nil))) .nil) (.cons (.setixR (.var 0) (.int 2) (.op .add (.ix (.var 0) (.int 2)) (.int 1))) (.cons (.set 2 (.op .mod (.bi .int (.cons (.op .add (.op .add (.op .mul (.ix (.var 0) (.int 1)) (.cst 7312)) (.op .mul (.ix (.var 0) (.int 2)) (.cst 7313))) (.int 5)) .nil)) (.int 2147483647))) (.cons (.setixR (.var 0) (.int 1) (.op .mod (.bi .int (.cons (.op .add (.op .mul (.var 2) (.op .add (.op .mod (.bi .int (.cons (.var 2) .nil)) (.int 4093)) (.cst 7314))) (.ix (.var 0) (.int 2))) .nil)) (.int 2147483563))) (.cons (.ret (.op .mod (.bi .int (.cons (.op .fdiv (.ix (.var 0) (.int 1)) (.int 61)) .nil)) (.var 1))) .nil)))))⟩
/-- _law_one -/
def D458 : Def := ⟨2, ["pool", "some"], (.cons (.ret (.ix (.var 1) (.call 457 (.cons (.var 0) (.cons (.bi .len (.cons (.var 1) .nil)) .nil))))) .nil)⟩
/-- check_setting -/
def D466_1 : B := (.cons (.never) .nil)
def D466 : Def := ⟨2, ["board", "setting", "index"], (.cons (.for_ (.nm 2) (.seq (.call 37 (.cons (.var 0) (.cons (.var 1) .nil)))) D466_1) .nil)⟩
/-- check_priced -/
def D474_1 : B := (.cons (.never) .nil)
def D474 : Def := ⟨2, ["board", "prices", "index"], (.cons (.expr (.call 45 (.cons (.var 0) .nil))) (.cons (.for_ (.nm 2) (.seq (.call 124 (.cons (.var 0) (.cons (.var 1) .nil)))) D474_1) .nil))⟩
/-- check_priced_mix -/
def D475 : Def := ⟨3, ["board", "prices", "mix"], (.cons (.expr (.call 474 (.cons (.var 0) (.cons (.var 1) .nil)))) (.cons (.expr (.call 360 (.cons (.var 2) .nil))) .nil))⟩
/-- setting_cost -/
def D476 : Def := ⟨3, ["board", "prices", "setting"], (.cons (.expr (.call 474 (.cons (.var 0) (.cons (.var 1) .nil)))) (.cons (.expr (.call 466 (.cons (.var 0) (.cons (.var 2) .nil)))) (.cons (.ret (.call 125 (.cons (.var 1) (.cons (.var 2) .nil)))) .nil)))⟩
/-- rated -/
def D480 : Def := ⟨5, ["board", "prices", "mix", "warmth", "number"], (.cons (.expr (.call 475 (.cons (.var 0) (.cons (.var 1) (.cons (.var 2) .nil))))) (.cons (.expr (.call 274 (.cons (.var 3) .nil))) (.cons (.expr (.call 274 (.cons (.var 4) .nil))) (.cons (.ret (.call 128 (.cons (.var 0) (.cons (.var 1) (.cons (.var 2) (.cons (.tup (.cons (.var 3) (.cons (.var 4) .nil))) .nil)))))) .nil))))⟩
/-- _law_same -/
def D570 : Def := ⟨2, ["told", "due", "x", "y"], (.cons (.ite (.cmp .is (.var 1) .non) (.cons (.ret (.cmp .is (.var 0) .non)) .nil) .nil) (.cons (.ite (.isi (.var 1) "bool") (.cons (.ret (.and_ (.cons (.isi (.var 0) "bool") (.cons (.cmp .eq (.var 0) (.var 1)) .nil)))) .nil) .nil) (.cons (.ite (.isi (.var 1) "int") (.cons (.ret (.and_ (.cons (.isi (.var 0) "int") (.cons (.not_ (.isi (.var 0) "bool")) (.cons (.cmp .eq (.var 0) (.var 1)) .nil))))) .nil) .nil) (.cons (.ite (.isi (.var 1) "str") (.cons (.ret (.and_ (.cons (.isi (.var 0) "str") (.cons (.cmp .eq (.var 0) (.var 1)) .nil)))) .nil) .nil) (.cons (.ite (.or_ (.cons (.not_ (.isi (.var 0) "tuple")) (.cons (.cmp .ne (.bi .len (.cons (.var 0) .nil)) (.bi .len (.cons (.var 1) .nil))) .nil))) (.cons (.ret (.bl false)) .nil) .nil) (.cons (.ret (.bi .all (.cons (.lc (.call 570 (.cons (.var 2) (.cons (.var 3) .nil))) (.tp [(.nm 2), (.nm 3)]) (.zip2 (.var 0) (.var 1)) .no [("x", 2), ("y", 3)]) .nil))) .nil))))))⟩
/-- _law_is_less -/
def D572 : Def := ⟨2, ["one", "two"], (.cons (.ret (.cmp .lt (.op .mul (.ix (.var 0) (.int 0)) (.ix (.var 1) (.int 1))) (.op .mul (.ix (.var 1) (.int 0)) (.ix (.var 0) (.int 1))))) .nil)⟩
/-- _law_rated -/
def D588_1 : B := (.cons (.set 7 (.call 453 (.cons (.call 455 (.cons (.var 3) (.cons (.call 449 (.cons (.var 4) (.cons (.var 9) .nil))) .nil))) (.cons (.var 6) .nil)))) (.cons (.set 5 (.ite (.cmp .gt (.ix (.var 7) (.int 0)) (.int 0)) (.call 453 (.cons (.var 5) (.cons (.call 449 (.cons (.var 8) (.cons (.var 7) .nil))) .nil))) (.var 5))) .nil))
def D588 : Def := ⟨5, ["board", "prices", "mix", "one", "two", "found", "price", "over", "flow", "warmth"], (.cons (.set 5 (.call 455 (.cons (.call 449 (.cons (.var 3) (.cons (.ix (.var 2) (.int 0)) .nil))) (.cons (.call 449 (.cons (.var 4) (.cons (.ix (.var 2) (.int 1)) .nil))) .nil)))) (.cons (.for_ (.tp [(.tp [(.nm 8), (.nm 9)]), (.nm 6)]) (.zip2 (.var 0) (.var 1)) D588_1) (.cons (.ret (.var 5)) .nil)))⟩
/-- _law_right -/
def D589_1 : B := (.cons (.par [(14, false), (15, false)] (.cons (.call 443 (.cons (.var 0) (.cons (.neg (.int 9)) (.cons (.int 9) .nil)))) (.cons (.call 443 (.cons (.var 0) (.cons (.neg (.int 3)) (.cons (.int 3) .nil)))) .nil))) (.cons (.set 12 (.ite (.cmp .eq (.call 457 (.cons (.var 0) (.cons (.int 3) .nil))) (.int 0)) (.callk 480 [4, 3, 2, 1, 0] ["number", "warmth", "mix", "prices", "board"] (.cons (.var 15) (.cons (.var 14) (.cons (.var 7) (.cons (.var 3) (.cons (.var 2) .nil)))))) (.call 480 (.cons (.var 2) (.cons (.var 3) (.cons (.var 7) (.cons (.var 14) (.cons (.var 15) .nil)))))))) (.cons (.ite (.or_ (.cons (.not_ (.call 570 (.cons (.var 12) (.cons (.call 588 (.cons (.var 2) (.cons (.var 3) (.cons (.var 7) (.cons (.var 14) (.cons (.var 15) .nil)))))) .nil)))) (.cons (.call 572 (.cons (.var 5) (.cons (.var 12) .nil))) .nil))) (.cons (.ret (.bl false)) .nil) .nil) (.cons (.set 13 (.tup (.cons (.call 444 (.cons (.var 0) .nil)) (.cons (.call 443 (.cons (.var 0) (.cons (.neg (.int 9)) (.cons (.int 9) .nil)))) .nil)))) (.cons (.ite (.not_ (.call 570 (.cons (.call 480 (.cons (.var 2) (.cons (.var 3) (.cons (.var 13) (.cons (.var 14) (.cons (.var 15) .nil)))))) (.cons (.call 588 (.cons (.var 2) (.cons (.var 3) (.cons (.var 13) (.cons (.var 14) (.cons (.var 15) .nil)))))) .nil)))) (.cons (.ret (.bl false)) .nil) .nil) .nil)))))
def D589_2 : B := (.cons (.set 2 (.call 441 (.cons (.var 0) (.cons (.int 8) .nil)))) (.cons (.set 3 (.bi .tuple (.cons (.lc (.call 443 (.cons (.var 0) (.cons (.int 0) (.cons (.int 6) .nil)))) (.nm 16) (.seq (.var 2)) .no [("tap", 16)]) .nil))) (.cons (.set 4 (.bi .tuple (.cons (.lc (.call 449 (.cons (.var 17) (.cons (.tup (.cons (.call 458 (.cons (.var 0) (.cons (.tup (.cons (.int 0) (.cons (.int 1) (.cons (.int 2) (.cons (.int 4) .nil))))) .nil))) (.cons (.int 4) .nil))) .nil))) (.tp [(.nm 17), (.nm 18)]) (.seq (.var 2)) .no [("flow", 17), ("warmth", 18)]) .nil))) (.cons (.set 5 (.call 451 (.cons (.lc (.call 449 (.cons (.var 19) (.cons (.var 20) .nil))) (.tp [(.nm 19), (.nm 20)]) (.zip2 (.var 4) (.var 3)) .no [("part", 19), ("price", 20)]) .nil))) (.cons (.set 6 (.ite (.cmp .eq (.call 457 (.cons (.var 0) (.cons (.int 2) .nil))) (.int 0)) (.callk 476 [2, 1, 0] ["setting", "prices", "board"] (.cons (.var 4) (.cons (.var 3) (.cons (.var 2) .nil)))) (.call 476 (.cons (.var 2) (.cons (.var 3) (.cons (.var 4) .nil)))))) (.cons (.par [(10, false), (11, false)] (.cons (.bi .tuple (.cons (.lc (.call 449 (.cons (.var 19) (.cons (.tup (.cons (.int 1) (.cons (.int 2) .nil))) .nil))) (.nm 19) (.seq (.var 4)) .no [("part", 19)]) .nil)) (.cons (.bi .tuple (.cons (.lc (.call 455 (.cons (.var 20) (.cons (.tup (.cons (.int 2) (.cons (.int 3) .nil))) .nil))) (.nm 20) (.seq (.var 3)) .no [("price", 20)]) .nil)) .nil))) (.cons (.ite (.or_ (.cons (.not_ (.call 570 (.cons (.var 6) (.cons (.var 5) .nil)))) (.cons (.not_ (.call 570 (.cons (.call 476 (.cons (.var 2) (.cons (.var 3) (.cons (.var 10) .nil)))) (.cons (.call 449 (.cons (.var 5) (.cons (.tup (.cons (.int 1) (.cons (.int 2) .nil))) .nil))) .nil)))) .nil))) (.cons (.ret (.bl false)) .nil) .nil) (.cons (.ite (.or_ (.cons (.cmp .ne (.call 476 (.cons (.var 2) (.cons (.var 3) (.cons (.op .mul (.tup (.cons (.tup (.cons (.int 0) (.cons (.int 1) .nil))) .nil)) (.bi .len (.cons (.var 2) .nil))) .nil)))) (.tup (.cons (.int 0) (.cons (.int 1) .nil)))) (.cons (.cmp .ne (.call 476 (.cons (.var 2) (.cons (.var 11) (.cons (.var 4) .nil)))) (.call 455 (.cons (.var 5) (.cons (.call 449 (.cons (.call 451 (.cons (.var 4) .nil)) (.cons (.tup (.cons (.int 2) (.cons (.int 3) .nil))) .nil))) .nil)))) .nil))) (.cons (.ret (.bl false)) .nil) .nil) (.cons (.set 7 (.tup (.cons (.call 451 (.cons (.var 4) .nil)) (.cons (.call 451 (.cons (.lc (.call 449 (.cons (.var 19) (.cons (.var 18) .nil))) (.tp [(.nm 19), (.tp [(.nm 17), (.nm 18)])]) (.zip2 (.var 4) (.var 2)) .no [("part", 19), ("flow", 17), ("warmth", 18)]) .nil)) .nil)))) (.cons (.for_ (.nm 8) (.rng1 (.int 3)) D589_1) .nil))))))))))
def D589 : Def := ⟨1, ["pool", "lap", "board", "prices", "setting", "due", "told", "mix", "turn", "dear", "half", "more", "some", "other", "one", "two", "tap", "flow", "warmth", "part", "price"], (.cons (.for_ (.nm 1) (.rng1 (.int 16)) D589_2) (.cons (.asg (.tp [(.nm 2), (.nm 9)]) (.tup (.cons (.tup (.cons (.tup (.cons (.tup (.cons (.int 3) (.cons (.int 1) .nil))) (.cons (.tup (.cons (.int 60) (.cons (.int 1) .nil))) .nil))) (.cons (.tup (.cons (.tup (.cons (.int 2) (.cons (.int 1) .nil))) (.cons (.tup (.cons (.int 20) (.cons (.int 1) .nil))) .nil))) (.cons (.tup (.cons (.tup (.cons (.int 5) (.cons (.int 1) .nil))) (.cons (.tup (.cons (.int 10) (.cons (.int 1) .nil))) .nil))) .nil)))) (.cons (.tup (.cons (.tup (.cons (.int 5) (.cons (.int 1) .nil))) (.cons (.tup (.cons (.int 2) (.cons (.int 1) .nil))) (.cons (.tup (.cons (.int 0) (.cons (.int 1) .nil))) .nil)))) .nil)))) (.cons (.ret (.and_ (.cons (.cmp .eq (.call 476 (.cons (.var 2) (.cons (.var 9) (.cons (.tup (.cons (.tup (.cons (.int 3) (.cons (.int 2) .nil))) (.cons (.tup (.cons (.int 2) (.cons (.int 1) .nil))) (.cons (.tup (.cons (.int 0) (.cons (.int 1) .nil))) .nil)))) .nil)))) (.tup (.cons (.int 23) (.cons (.int 2) .nil)))) (.cons (.cmp .eq (.call 480 (.cons (.var 2) (.cons (.var 9) (.cons (.tup (.cons (.tup (.cons (.int 4) (.cons (.int 1) .nil))) (.cons (.tup (.cons (.int 120) (.cons (.int 1) .nil))) .nil))) (.cons (.tup (.cons (.neg (.int 1)) (.cons (.int 1) .nil))) (.cons (.tup (.cons (.int 1) (.cons (.int 10) .nil))) .nil)))))) (.tup (.cons (.int 8) (.cons (.int 1) .nil)))) .nil)))) .nil)))⟩
/-- law -/
def D590 : Def := ⟨1, ["script", "lap"], (.cons (.ret (.bi .all (.cons (.lc (.call 589 (.cons (.call 434 (.cons (.var 0) (.cons (.var 1) .nil))) .nil)) (.nm 1) (.rng1 (.bi .max (.cons (.int 1) (.cons (.bi .min (.cons (.bi .len (.cons (.var 0) .nil)) (.cons (.int 3) .nil))) .nil)))) .no [("lap", 1)]) .nil))) .nil)⟩
end Wt
/-! Lib: what the defs compute, in plain Lean. -/
namespace Wt
open PySem (Str)

/-! ### fractions -/
def fr (q : Rat) : PV := .tup [.int q.num, .int (q.den : Int)]
structure Sm (k : Nat) (q : Rat) : Prop where
  n : q.num.natAbs < 2 ^ k
  d : q.den < 2 ^ k
theorem Sm.mono {a b : Nat} {q : Rat} (h : Sm a q) (l : a ≤ b) : Sm b q := ⟨Nat.lt_of_lt_of_le h.n (Nat.pow_le_pow_right (by decide) l), Nat.lt_of_lt_of_le h.d (Nat.pow_le_pow_right (by decide) l)⟩
theorem pow2 (a b : Nat) : (2 : Nat) ^ (a + b) = 2 ^ a * 2 ^ b := Nat.pow_add 2 a b
theorem mul_lt2 {x y a b : Nat} (h : x < 2 ^ a) (h' : y < 2 ^ b) : x * y < 2 ^ (a + b) := by
  rw [pow2]
  exact Nat.mul_lt_mul'' h h'
theorem sm_divInt {a b : Int} {k : Nat} (hb : b ≠ 0) (ha : a.natAbs < 2 ^ k) (hb' : b.natAbs < 2 ^ k) : Sm k (Rat.divInt a b) := by
  constructor
  · rw [Rat.num_divInt]
    refine Nat.lt_of_le_of_lt ?_ ha
    have hg : (Int.gcd b a : Int) ∣ b.sign * a := Int.dvd_mul_of_dvd_right (Int.gcd_dvd_right ..)
    rw [Int.natAbs_ediv_of_dvd hg, Int.natAbs_mul, Int.natAbs_sign_of_ne_zero hb, Nat.one_mul]
    exact Nat.div_le_self _ _
  · rw [Rat.den_divInt, if_neg hb]
    exact Nat.lt_of_le_of_lt (Nat.div_le_self _ _) hb'
theorem Sm.add {a b : Nat} {x y : Rat} (h : Sm a x) (h' : Sm b y) : Sm (a + b + 1) (x + y) := by
  have e : x + y = Rat.divInt (x.num * y.den + y.num * x.den) (x.den * y.den) := by
    rw [Rat.add_def', ← Rat.divInt_ofNat]
    simp
  rw [e]
  have hd := Nat.mul_ne_zero x.den_nz y.den_nz
  have e1 := mul_lt2 h.n h'.d
  have e2 := mul_lt2 h'.n h.d
  have e3 := mul_lt2 h.d h'.d
  refine sm_divInt (by exact_mod_cast hd) ?_ ?_
  · refine Nat.lt_of_le_of_lt (Int.natAbs_add_le _ _) ?_
    rw [Int.natAbs_mul, Int.natAbs_mul, Int.natAbs_natCast, Int.natAbs_natCast, Nat.pow_succ]
    rw [Nat.add_comm b a] at e2
    omega
  · have : ((x.den : Int) * (y.den : Int)).natAbs = x.den * y.den := by rw [Int.natAbs_mul]; rfl
    rw [this, Nat.pow_succ]
    omega
theorem Sm.neg {a : Nat} {x : Rat} (h : Sm a x) : Sm a (-x) := ⟨by rw [Rat.neg_num, Int.natAbs_neg]; exact h.n, by rw [Rat.neg_den]; exact h.d⟩
theorem Sm.sub {a b : Nat} {x y : Rat} (h : Sm a x) (h' : Sm b y) : Sm (a + b + 1) (x - y) := by
  rw [Rat.sub_eq_add_neg]
  exact h.add h'.neg
theorem Sm.mul {a b : Nat} {x y : Rat} (h : Sm a x) (h' : Sm b y) : Sm (a + b) (x * y) := by
  have e : x * y = Rat.divInt (x.num * y.num) (x.den * y.den) := by
    rw [Rat.mul_def', ← Rat.divInt_ofNat]
    simp
  rw [e]
  have hd := Nat.mul_ne_zero x.den_nz y.den_nz
  refine sm_divInt (by exact_mod_cast hd) ?_ ?_
  · rw [Int.natAbs_mul]
    exact mul_lt2 h.n h'.n
  · have : ((x.den : Int) * (y.den : Int)).natAbs = x.den * y.den := by rw [Int.natAbs_mul]; rfl
    rw [this]
    exact mul_lt2 h.d h'.d
theorem log_lt {n k : Nat} (h : n < 2 ^ k) (hk : 0 < k) : n.log2 < k := by
  by_cases e : n = 0
  · subst e
    simpa using hk
  · exact (Nat.log2_lt e).mpr h
theorem mulOk_of {i j : Int} {a b : Nat} (h : i.natAbs < 2 ^ a) (h' : j.natAbs < 2 ^ b) (l : a + b ≤ 900000) : mulOk i j = true := by
  have h1 := log_lt (Nat.lt_of_lt_of_le h (Nat.pow_le_pow_right (by decide) (Nat.le_succ a))) (Nat.succ_pos _)
  have h2 := log_lt (Nat.lt_of_lt_of_le h' (Nat.pow_le_pow_right (by decide) (Nat.le_succ b))) (Nat.succ_pos _)
  unfold mulOk
  rw [decide_eq_true_eq]
  omega
/-! ### the simplest steps -/
@[simp] theorem ixM_fr0 (c : Cc) (q : Rat) : ixM c (fr q) (.int 0) = pure (.int q.num) := rfl
@[simp] theorem ixM_fr1 (c : Cc) (q : Rat) : ixM c (fr q) (.int 1) = pure (.int (q.den : Int)) := rfl
class Arith (p : Prg) : Prop where
  d0 : p.dt 0 = some D0
  d1 : p.dt 1 = some D1
  d2 : p.dt 2 = some D2
  d3 : p.dt 3 = some D3
  d5 : p.dt 5 = some D5
  d7 : p.dt 7 = some D7
  d8 : p.dt 8 = some D8
  d11 : p.dt 11 = some D11
section
variable {p : Prg} [A : Arith p] {n : Nat}
theorem fdiv_exact {a g : Int} (hg : 0 < g) : Int.fdiv a g = a / g := Int.fdiv_eq_ediv_of_nonneg a (Int.le_of_lt hg)
theorem plain_run {a b : Int} (hb : b ≠ 0) (hs : b.natAbs.log2 < 9000) : run p (n + 1) 0 [.int a, .int b] = pure (fr (Rat.divInt a b)) := by
  have hg : 0 < Nat.gcd a.natAbs b.natAbs := Nat.gcd_pos_of_pos_right _ (Int.natAbs_pos.mpr hb)
  have hle : Nat.gcd a.natAbs b.natAbs ≤ b.natAbs := Nat.gcd_le_right _ (Int.natAbs_pos.mpr hb)
  have hlog : (Nat.gcd a.natAbs b.natAbs).log2 < 9000 := by
    refine Nat.lt_of_le_of_lt ?_ hs
    by_cases e : (Nat.gcd a.natAbs b.natAbs) = 0
    · omega
    · exact (Nat.le_log2 (by omega)).mpr (Nat.le_trans (Nat.log2_self_le e) hle)
  have hgc : Int.gcd b a = Nat.gcd a.natAbs b.natAbs := Nat.gcd_comm _ _
  rw [run, A.d0]
  by_cases hp : 0 < b
  · have ok : divOk ((Nat.gcd a.natAbs b.natAbs : Nat) : Int) = true := by
      simp only [divOk, Bool.and_eq_true, decide_eq_true_eq, Int.natAbs_natCast]
      exact ⟨by omega, hlog⟩
    have e : fr (Rat.divInt a b) = .tup [.int (Int.fdiv a ((Nat.gcd a.natAbs b.natAbs : Nat) : Int)), .int (Int.fdiv b ((Nat.gcd a.natAbs b.natAbs : Nat) : Int))] := by
      unfold fr
      rw [Rat.num_divInt, Rat.den_divInt, if_neg hb, hgc, Int.sign_eq_one_of_pos hp, Int.one_mul, fdiv_exact (by omega), fdiv_exact (by omega)]
      congr 4
      rw [Int.natCast_ediv, Int.natAbs_of_nonneg (Int.le_of_lt hp)]
    rw [e]
    simp [D0, start0, copE, biE, bopE, hp, ok, setI, asBM, retF]
  · have hneg : b < 0 := by omega
    have ok : divOk (-((Nat.gcd a.natAbs b.natAbs : Nat) : Int)) = true := by
      simp only [divOk, Bool.and_eq_true, decide_eq_true_eq, Int.natAbs_neg, Int.natAbs_natCast]
      exact ⟨by omega, hlog⟩
    have flip : ∀ z : Int, Int.fdiv z (-((Nat.gcd a.natAbs b.natAbs : Nat) : Int)) = (-z) / ((Nat.gcd a.natAbs b.natAbs : Nat) : Int) := fun z => by
      have : Int.fdiv z (-((Nat.gcd a.natAbs b.natAbs : Nat) : Int)) = Int.fdiv (- -z) (-((Nat.gcd a.natAbs b.natAbs : Nat) : Int)) := by rw [Int.neg_neg]
      rw [this, Int.neg_fdiv_neg, fdiv_exact (by omega)]
    have e : fr (Rat.divInt a b) = .tup [.int (Int.fdiv a (-((Nat.gcd a.natAbs b.natAbs : Nat) : Int))), .int (Int.fdiv b (-((Nat.gcd a.natAbs b.natAbs : Nat) : Int)))] := by
      unfold fr
      rw [Rat.num_divInt, Rat.den_divInt, if_neg hb, hgc, Int.sign_eq_neg_one_of_neg hneg, flip, flip, Int.neg_one_mul]
      congr 4
      rw [Int.natCast_ediv, Int.ofNat_natAbs_of_nonpos (Int.le_of_lt hneg)]
    rw [e]
    simp [D0, start0, copE, biE, bopE, hp, ok, setI, asBM, retF, asI]
theorem den_pos (q : Rat) : (0 : Int) < q.den := by
  have := q.den_nz
  omega
/-- two fractions that may be worked with -/
theorem den_log {a b : Nat} {x y : Rat} (h : Sm a x) (h' : Sm b y) (l : a + b ≤ 8000) : ((x.den : Int) * (y.den : Int)).natAbs.log2 < 9000 := by
  have : ((x.den : Int) * (y.den : Int)).natAbs = x.den * y.den := by rw [Int.natAbs_mul]; rfl
  rw [this]
  have := log_lt (Nat.lt_of_lt_of_le (mul_lt2 h.d h'.d) (Nat.pow_le_pow_right (by decide) (Nat.le_succ (a + b)))) (Nat.succ_pos _)
  omega
theorem mul_nd {a b : Nat} {x y : Rat} (h : Sm a x) (h' : Sm b y) (l : a + b ≤ 8000) : mulOk x.num y.den = true := mulOk_of h.n (b := b) (by simpa using h'.d) (by omega)
theorem mul_dd {a b : Nat} {x y : Rat} (h : Sm a x) (h' : Sm b y) (l : a + b ≤ 8000) : mulOk x.den y.den = true := mulOk_of (a := a) (by simpa using h.d) (b := b) (by simpa using h'.d) (by omega)
theorem mul_nn {a b : Nat} {x y : Rat} (h : Sm a x) (h' : Sm b y) (l : a + b ≤ 8000) : mulOk x.num y.num = true := mulOk_of h.n h'.n (by omega)
theorem mul_dn {a b : Nat} {x y : Rat} (h : Sm a x) (h' : Sm b y) (l : a + b ≤ 8000) : mulOk x.den y.num = true := mulOk_of (a := a) (by simpa using h.d) h'.n (by omega)
theorem add_divInt (x y : Rat) : x + y = Rat.divInt (x.num * y.den + y.num * x.den) (x.den * y.den) := by
  rw [Rat.add_def', ← Rat.divInt_ofNat]
  simp
theorem sub_divInt (x y : Rat) : x - y = Rat.divInt (x.num * y.den - y.num * x.den) (x.den * y.den) := by
  rw [Rat.sub_def', ← Rat.divInt_ofNat]
  simp
theorem mul_divInt (x y : Rat) : x * y = Rat.divInt (x.num * y.num) (x.den * y.den) := by
  rw [Rat.mul_def', ← Rat.divInt_ofNat]
  simp
theorem dd_ne (x y : Rat) : (x.den : Int) * (y.den : Int) ≠ 0 := Int.mul_ne_zero (by have := den_pos x; omega) (by have := den_pos y; omega)
theorem plus_run {a b : Nat} {x y : Rat} (h : Sm a x) (h' : Sm b y) (l : a + b ≤ 8000) : run p (n + 2) 1 [fr x, fr y] = pure (fr (x + y)) := by
  have k := plain_run (p := p) (n := n) (a := x.num * y.den + y.num * x.den) (dd_ne x y) (den_log h h' l)
  rw [run, A.d1, add_divInt]
  simp [D1, start0, bopE, mul_nd h h' l, mul_nd h' h (by omega), mul_dd h h' l, setI, retF, k]
theorem minus_run {a b : Nat} {x y : Rat} (h : Sm a x) (h' : Sm b y) (l : a + b ≤ 8000) : run p (n + 2) 2 [fr x, fr y] = pure (fr (x - y)) := by
  have k := plain_run (p := p) (n := n) (a := x.num * y.den - y.num * x.den) (dd_ne x y) (den_log h h' l)
  rw [run, A.d2, sub_divInt]
  simp [D2, start0, bopE, mul_nd h h' l, mul_nd h' h (by omega), mul_dd h h' l, setI, retF, k]
theorem times_run {a b : Nat} {x y : Rat} (h : Sm a x) (h' : Sm b y) (l : a + b ≤ 8000) : run p (n + 2) 3 [fr x, fr y] = pure (fr (x * y)) := by
  have k := plain_run (p := p) (n := n) (a := x.num * y.num) (dd_ne x y) (den_log h h' l)
  rw [run, A.d3, mul_divInt]
  simp [D3, start0, bopE, mul_nn h h' l, mul_dd h h' l, setI, retF, k]
theorem lt_num (x y : Rat) : (x.num * y.den < y.num * x.den) ↔ x < y := (Rat.lt_iff x y).symm
theorem less_run {a b : Nat} {x y : Rat} (h : Sm a x) (h' : Sm b y) (l : a + b ≤ 8000) : run p (n + 1) 5 [fr x, fr y] = pure (.bl (decide (x < y))) := by
  rw [run, A.d5]
  simp [D5, start0, bopE, copE, mul_nd h h' l, mul_nd h' h (by omega), setI, retF, lt_num]
def maxQ (x y : Rat) : Rat := if x < y then y else x
theorem greater_run {a b : Nat} {x y : Rat} (h : Sm a x) (h' : Sm b y) (l : a + b ≤ 8000) : run p (n + 2) 7 [fr x, fr y] = pure (fr (maxQ x y)) := by
  have k := less_run (p := p) (n := n) h h' l
  rw [run, A.d7]
  unfold maxQ
  by_cases e : x < y <;> simp [D7, start0, asBM, setI, retF, k, e]
theorem fr0 : fr 0 = .tup [.int 0, .int 1] := rfl
theorem sm0 {k : Nat} (h : 1 ≤ k := by omega) : Sm k 0 := by
  have : 2 ≤ 2 ^ k := by
    calc 2 = 2 ^ 1 := rfl
      _ ≤ 2 ^ k := Nat.pow_le_pow_right (by decide) h
  exact ⟨by show 0 < 2 ^ k; omega, by show 1 < 2 ^ k; omega⟩
theorem above_run {a : Nat} {x : Rat} (h : Sm a x) (l : a ≤ 7000) : run p (n + 3) 8 [fr x] = pure (fr (maxQ x 0)) := by
  have k := greater_run (p := p) (n := n) h (sm0 (k := 1)) (by omega)
  rw [run, A.d8]
  rw [fr0] at k
  simp [D8, start0, setI, retF, k]
def sumQ : List Rat → Rat
  | [] => 0
  | x :: xs => x + sumQ xs
/-- a sum from the left -/
def sumL (a : Rat) : List Rat → Rat
  | [] => a
  | x :: xs => sumL (a + x) xs
theorem sumL_eq : ∀ (xs : List Rat) (a : Rat), sumL a xs = a + sumQ xs
  | [], a => by rw [sumL, sumQ, Rat.add_zero]
  | x :: xs, a => by rw [sumL, sumQ, sumL_eq xs, Rat.add_assoc]
theorem Sm.sum {k : Nat} : ∀ {xs : List Rat} {a : Rat} {j : Nat}, Sm j a → (∀ x ∈ xs, Sm k x) → Sm (j + (k + 1) * xs.length) (sumL a xs)
  | [], a, j, h, _ => by simpa [sumL] using h
  | x :: xs, a, j, h, hx => by
    have := Sm.sum (xs := xs) (h.add (hx x (by simp))) fun y hy => hx y (by simp [hy])
    rw [sumL, List.length_cons]
    refine this.mono ?_
    rw [Nat.mul_add]
    omega
theorem sum_for {k : Nat} {c : Cc} (hc : c.call = run p (n + 2)) : ∀ {xs : List Rat} {a : Rat} {j : Nat} {s0 s2 : Slot}, Sm j a → (∀ x ∈ xs, Sm k x) → j + (k + 1) * xs.length ≤ 7000 → ∃ s2', forGo (forBody c (.nm 2) D11_1) (xs.map fr) [s0, .val (fr a), s2] = pure (.nx [s0, .val (fr (sumL a xs)), s2'])
  | [], a, j, s0, s2, h, _, _ => ⟨s2, by simp [forGo_nil, sumL]⟩
  | x :: xs, a, j, s0, s2, h, hx, hl => by
    rw [List.length_cons, Nat.mul_add] at hl
    have sx := hx x (by simp)
    obtain ⟨s2', ih⟩ := sum_for hc (xs := xs) (a := a + x) (j := j + k + 1) (s0 := s0) (s2 := .val (fr x)) (h.add sx) (fun y hy => hx y (by simp [hy])) (by omega)
    refine ⟨s2', ?_⟩
    have k1 := plus_run (p := p) (n := n) h sx (by omega)
    rw [sumL, List.map_cons, forGo_cons, ← ih]
    simp [D11_1, forBody, asgT, hc, k1]
theorem sum_run {k : Nat} {v : PV} {xs : List Rat} (hv : items v = some (xs.map fr)) (hx : ∀ x ∈ xs, Sm k x) (hl : (k + 1) * xs.length ≤ 6000) : run p (n + 3) 11 [v] = pure (fr (sumQ xs)) := by
  have e : sumQ xs = sumL 0 xs := by rw [sumL_eq, Rat.zero_add]
  obtain ⟨s2', h⟩ := sum_for (p := p) (n := n) (c := ⟨run p (n + 2), p.cst⟩) rfl (xs := xs) (a := 0) (j := 1) (s0 := .val v) (s2 := .emp) sm0 hx (by omega)
  rw [fr0] at h
  rw [run, A.d11, e]
  simp [D11, start0, hv, h, retF]
end
end Wt
/-! Lib2: the laws' own arithmetic. -/
namespace Wt
open PySem (Str)
class LawA (p : Prg) : Prop where
  ratio : p.dt 450 = some D450
  times : p.dt 449 = some D449
  less : p.dt 453 = some D453
  plus : p.dt 455 = some D455
  sum : p.dt 451 = some D451
section
variable {p : Prg} [A : LawA p] {n : Nat}
theorem gcd_while {c : Cc} {s0 s1 : Slot} : ∀ {f : Nat} {x y : Int}, 0 ≤ x → 0 ≤ y → y.toNat < f →
    whileGo (testM c (.cmp .gt (.var 3) (.int 0))) (bodyM c D450_1) f [s0, s1, .val (.int x), .val (.int y)] = pure (.nx [s0, s1, .val (.int ((Nat.gcd x.natAbs y.natAbs : Nat) : Int)), .val (.int 0)])
  | 0, x, y, _, _, h => by omega
  | f + 1, x, y, hx, hy, h => by
    rw [whileGo_succ]
    by_cases e : 0 < y
    · have e1 : x.fmod y = x % y := Int.fmod_eq_emod_of_nonneg x hy
      have ne : y ≠ 0 := by omega
      have lt := Int.emod_lt_of_pos x e
      have ge := Int.emod_nonneg x ne
      have ih := gcd_while (c := c) (s0 := s0) (s1 := s1) (f := f) (x := y) (y := x % y) hy ge (by omega)
      have eg : Nat.gcd y.natAbs (x % y).natAbs = Nat.gcd x.natAbs y.natAbs := by
        rw [Int.natAbs_emod_of_nonneg hx, Nat.gcd_comm y.natAbs, ← Nat.gcd_rec, Nat.gcd_comm]
      rw [eg] at ih
      have step : bodyM c D450_1 [s0, s1, .val (.int x), .val (.int y)] = pure (.nx [s0, s1, .val (.int y), .val (.int (x % y))]) := by
        simp [D450_1, bodyM, biE, bopE, ne, parE, e1]
      simp [step, testM, copE, e, ih]
    · have e0 : y = 0 := by omega
      subst e0
      have : ((x.natAbs : Nat) : Int) = x := Int.natAbs_of_nonneg hx
      simp [testM, copE, this]
theorem ratio_run {a b : Int} (hb : b ≠ 0) (hs : b.natAbs.log2 < 9000) : run p (n + 1) 450 [.int a, .int b] = pure (fr (Rat.divInt a b)) := by
  have hg : 0 < Nat.gcd a.natAbs b.natAbs := Nat.gcd_pos_of_pos_right _ (Int.natAbs_pos.mpr hb)
  have hle : Nat.gcd a.natAbs b.natAbs ≤ b.natAbs := Nat.gcd_le_right _ (Int.natAbs_pos.mpr hb)
  have hlog : (Nat.gcd a.natAbs b.natAbs).log2 < 9000 := by
    refine Nat.lt_of_le_of_lt ?_ hs
    by_cases e : (Nat.gcd a.natAbs b.natAbs) = 0
    · omega
    · exact (Nat.le_log2 (by omega)).mpr (Nat.le_trans (Nat.log2_self_le e) hle)
  have hgc : Int.gcd b a = Nat.gcd a.natAbs b.natAbs := Nat.gcd_comm _ _
  have ok : divOk ((Nat.gcd a.natAbs b.natAbs : Nat) : Int) = true := by
    simp only [divOk, Bool.and_eq_true, decide_eq_true_eq, Int.natAbs_natCast]
    exact ⟨by omega, hlog⟩
  have ab : ∀ z : Int, (if z < 0 then -z else z) = (z.natAbs : Int) := fun z => by split <;> omega
  have w := gcd_while (c := ⟨run p n, p.cst⟩) (s0 := .val (.int a)) (s1 := .val (.int b)) (f := b.natAbs + 1) (x := (a.natAbs : Int)) (y := (b.natAbs : Int)) (by omega) (by omega) (by omega)
  rw [Int.natAbs_natCast, Int.natAbs_natCast] at w
  have fe : ∀ z : Int, Int.fdiv z ((Nat.gcd a.natAbs b.natAbs : Nat) : Int) = z / ((Nat.gcd a.natAbs b.natAbs : Nat) : Int) := fun z => fdiv_exact (by omega)
  rw [run, A.ratio]
  by_cases hp : 0 < b
  · have e : fr (Rat.divInt a b) = .tup [.int (a / ((Nat.gcd a.natAbs b.natAbs : Nat) : Int)), .int (b / ((Nat.gcd a.natAbs b.natAbs : Nat) : Int))] := by
      unfold fr
      rw [Rat.num_divInt, Rat.den_divInt, if_neg hb, hgc, Int.sign_eq_one_of_pos hp, Int.one_mul]
      congr 4
      rw [Int.natCast_ediv, Int.natAbs_of_nonneg (Int.le_of_lt hp)]
    rw [e]
    simp [D450, start0, biE, ab, parE, w, copE, hp, bopE, ok, fe, retF]
  · have hneg : b < 0 := by omega
    have e : fr (Rat.divInt a b) = .tup [.int (0 - a / ((Nat.gcd a.natAbs b.natAbs : Nat) : Int)), .int (0 - b / ((Nat.gcd a.natAbs b.natAbs : Nat) : Int))] := by
      unfold fr
      rw [Rat.num_divInt, Rat.den_divInt, if_neg hb, hgc, Int.sign_eq_neg_one_of_neg hneg, Int.neg_one_mul, Int.zero_sub, Int.zero_sub]
      have d1 : ((Nat.gcd a.natAbs b.natAbs : Nat) : Int) ∣ a := Int.ofNat_dvd_left.mpr (Nat.gcd_dvd_left ..)
      have d2 : ((Nat.gcd a.natAbs b.natAbs : Nat) : Int) ∣ b := Int.ofNat_dvd_left.mpr (Nat.gcd_dvd_right ..)
      rw [Int.neg_ediv_of_dvd d1]
      congr 4
      rw [Int.natCast_ediv, Int.ofNat_natAbs_of_nonpos (Int.le_of_lt hneg), Int.neg_ediv_of_dvd d2]
    rw [e]
    simp [D450, start0, biE, ab, parE, w, copE, hp, bopE, ok, fe, retF]
theorem lplus_run {a b : Nat} {x y : Rat} (h : Sm a x) (h' : Sm b y) (l : a + b ≤ 8000) : run p (n + 2) 455 [fr x, fr y] = pure (fr (x + y)) := by
  have k := ratio_run (p := p) (n := n) (a := x.num * y.den + y.num * x.den) (dd_ne x y) (den_log h h' l)
  rw [run, A.plus, add_divInt]
  simp [D455, start0, bopE, mul_nd h h' l, mul_nd h' h (by omega), mul_dd h h' l, retF, k]
theorem lless_run {a b : Nat} {x y : Rat} (h : Sm a x) (h' : Sm b y) (l : a + b ≤ 8000) : run p (n + 2) 453 [fr x, fr y] = pure (fr (x - y)) := by
  have k := ratio_run (p := p) (n := n) (a := x.num * y.den - y.num * x.den) (dd_ne x y) (den_log h h' l)
  rw [run, A.less, sub_divInt]
  simp [D453, start0, bopE, mul_nd h h' l, mul_nd h' h (by omega), mul_dd h h' l, retF, k]
theorem ltimes_run {a b : Nat} {x y : Rat} (h : Sm a x) (h' : Sm b y) (l : a + b ≤ 8000) : run p (n + 2) 449 [fr x, fr y] = pure (fr (x * y)) := by
  have k := ratio_run (p := p) (n := n) (a := x.num * y.num) (dd_ne x y) (den_log h h' l)
  rw [run, A.times, mul_divInt]
  simp [D449, start0, bopE, mul_nn h h' l, mul_dd h h' l, retF, k]
theorem lsum_for {k : Nat} {c : Cc} (hc : c.call = run p (n + 2)) : ∀ {xs : List Rat} {a : Rat} {j : Nat} {s0 s2 : Slot}, Sm j a → (∀ x ∈ xs, Sm k x) → j + (k + 1) * xs.length ≤ 7000 → ∃ s2', forGo (forBody c (.nm 2) D451_1) (xs.map fr) [s0, .val (fr a), s2] = pure (.nx [s0, .val (fr (sumL a xs)), s2'])
  | [], a, j, s0, s2, h, _, _ => ⟨s2, by simp [forGo_nil, sumL]⟩
  | x :: xs, a, j, s0, s2, h, hx, hl => by
    rw [List.length_cons, Nat.mul_add] at hl
    have sx := hx x (by simp)
    obtain ⟨s2', ih⟩ := lsum_for hc (xs := xs) (a := a + x) (j := j + k + 1) (s0 := s0) (s2 := .val (fr x)) (h.add sx) (fun y hy => hx y (by simp [hy])) (by omega)
    refine ⟨s2', ?_⟩
    have k1 := lplus_run (p := p) (n := n) h sx (by omega)
    rw [sumL, List.map_cons, forGo_cons, ← ih]
    simp [D451_1, forBody, asgT, hc, k1]
theorem lsum_run {k : Nat} {v : PV} {xs : List Rat} (hv : items v = some (xs.map fr)) (hx : ∀ x ∈ xs, Sm k x) (hl : (k + 1) * xs.length ≤ 6000) : run p (n + 3) 451 [v] = pure (fr (sumQ xs)) := by
  have e : sumQ xs = sumL 0 xs := by rw [sumL_eq, Rat.zero_add]
  obtain ⟨s2', h⟩ := lsum_for (p := p) (n := n) (c := ⟨run p (n + 2), p.cst⟩) rfl (xs := xs) (a := 0) (j := 1) (s0 := .val v) (s2 := .emp) sm0 hx (by omega)
  rw [fr0] at h
  rw [run, A.sum, e]
  simp [D451, start0, hv, h, retF]
end
/-! ### the pool -/
/-- the pool at n, with credit k -/
def PoolI (n k : Nat) (S : Sto) : Prop := ∃ a b c : Int, S[n]? = some [.int a, .int b, .int c] ∧ 0 ≤ a ∧ 0 ≤ b ∧ b < 2 ^ 32 ∧ 0 ≤ c ∧ c + k ≤ 2 ^ 1000
def Tri {α : Type} (n c : Nat) (m : M α) (Q : α → Prop) : Prop := ∀ k S, PoolI n (k + c) S → ∃ a S', m.go S = .ok a S' ∧ PoolI n k S' ∧ Q a
section
variable {α β : Type} {n c c1 c2 : Nat} {m : M α} {Q Q' : α → Prop} {R : β → Prop}
theorem PoolI.less {k j : Nat} {S : Sto} (h : PoolI n k S) (l : j ≤ k) : PoolI n j S := by
  obtain ⟨a, b, c, h1, h2, h3, h4, h5, h6⟩ := h
  exact ⟨a, b, c, h1, h2, h3, h4, h5, by omega⟩
theorem Tri.pure {a : α} (h : Q a) : Tri n 0 (Pure.pure a : M α) Q := fun k S I => ⟨a, S, rfl, I, h⟩
theorem Tri.bind {f : α → M β} (h : Tri n c1 m Q) (h2 : ∀ a, Q a → Tri n c2 (f a) R) : Tri n (c1 + c2) (m >>= f) R := fun k S I => by
  obtain ⟨a, S1, e, I1, q⟩ := h (k + c2) S (by rw [Nat.add_assoc, Nat.add_comm c2 c1]; exact I)
  obtain ⟨b, S2, e2, I2, r⟩ := h2 a q k S1 I1
  exact ⟨b, S2, by rw [bind_go, e]; exact e2, I2, r⟩
theorem Tri.imp (h : Tri n c m Q) (f : ∀ a, Q a → Q' a) : Tri n c m Q' := fun k S I => by
  obtain ⟨a, S1, e, I1, q⟩ := h k S I
  exact ⟨a, S1, e, I1, f a q⟩
theorem Tri.more (h : Tri n c1 m Q) (l : c1 ≤ c2) : Tri n c2 m Q := fun k S I => h k S (I.less (by omega))
theorem Tri.noerr (h : Tri n c m Q) : Tri n c (noerr m) Q := fun k S I => by
  obtain ⟨a, S1, e, I1, q⟩ := h k S I
  refine ⟨a, S1, ?_, I1, q⟩
  show (match m.go S with
    | .ok a S' => Out.ok a S'
    | _ => Out.bad) = _
  rw [e]
/-- a loop of a comprehension -/
theorem Tri.lc {f : PV → M (Option PV)} {P : PV → Prop} : ∀ {xs : List PV}, (∀ x ∈ xs, Tri n c (f x) fun o => ∃ y, o = some y ∧ P y) → Tri n (c * xs.length) (lcGo f xs) fun ys => ys.length = xs.length ∧ ∀ y ∈ ys, P y
  | [], _ => by
    rw [lcGo]
    exact (Tri.pure ⟨rfl, by simp⟩).more (by omega)
  | x :: xs, h => by
    rw [lcGo]
    refine ((h x (by simp)).bind (c2 := c * xs.length + 0) fun o ⟨y, e, py⟩ => (Tri.lc fun z hz => h z (by simp [hz])).bind fun ys ⟨l, hys⟩ => ?_).more (by rw [List.length_cons, Nat.mul_add]; omega)
    subst e
    exact .pure ⟨by simp [l], fun z hz => by
      rcases List.mem_cons.mp hz with e | hz
      · rw [e]; exact py
      · exact hys z hz⟩
end
class LawP (p : Prg) : Prop where
  below : p.dt 457 = some D457
  one : p.dt 458 = some D458
  k0 : 0 ≤ p.cst 7312 ∧ p.cst 7312 < 2 ^ 40
  k1 : 0 ≤ p.cst 7313 ∧ p.cst 7313 < 2 ^ 40
  k2 : 0 ≤ p.cst 7314 ∧ p.cst 7314 < 2 ^ 40
section
variable {p : Prg} [PB : LawP p] {N n : Nat}
theorem ok_bindG {α β : Type} {m : M α} {f : α → M β} {S S' : Sto} {a : α} (h : m.go S = .ok a S') : (m >>= f).go S = (f a).go S' := by rw [bind_go, h]
theorem getRef_go {S : Sto} {xs : List PV} (h : S[n]? = some xs) : (getRef n).go S = .ok xs S := by
  unfold getRef
  dsimp only
  rw [h]
theorem setRef_go {S : Sto} {xs : List PV} (h : n < S.length) : (setRef n xs).go S = .ok () (S.set n xs) := by
  unfold setRef
  dsimp only
  rw [if_pos h]
theorem ixM_ref {c : Cc} {i : Int} : ixM c (.ref n) (.int i) = getRef n >>= fun xs => lift (atE xs i) := rfl
theorem below_tri {many : Int} (hm : 0 < many) (hs : many < 2 ^ 60) : Tri n 1 (run p (N + 1) 457 [.ref n, .int many]) fun v => ∃ r : Int, v = .int r ∧ 0 ≤ r ∧ r < many := by
  intro k S ⟨a, b, c, hS, ha, hb, hb2, hc, hk⟩
  have hn : n < S.length := (List.getElem?_eq_some_iff.mp hS).1
  have dm : divOk many = true := by
    simp only [divOk, Bool.and_eq_true, decide_eq_true_eq]
    refine ⟨by omega, ?_⟩
    have : many.natAbs < 2 ^ 60 := by omega
    exact Nat.lt_of_lt_of_le (log_lt this (by decide)) (by decide)
  have ne : many ≠ 0 := by omega
  rw [run, PB.below]
  by_cases h0 : 0 < a
  · have f1 : a.fmod many = a % many := Int.fmod_eq_emod_of_nonneg a (by omega)
    have f2 : a.fdiv many = a / many := fdiv_exact hm
    refine ⟨.int (a % many), S.set n [.int (a / many), .int b, .int c], ?_, ⟨a / many, b, c, ?_, Int.ediv_nonneg ha (by omega), hb, hb2, hc, by omega⟩, a % many, rfl, Int.emod_nonneg _ ne, Int.emod_lt_of_pos _ hm⟩
    · simp [-bind_pure_comp, D457, start0, ixM_ref, bind_go, getRef_go hS, atE, ixN, copE, h0, biE, bopE, ne, f1, f2, dm, setRef_go hn, retF]
    · rw [List.getElem?_set_self hn]
  · have a0 : a = 0 := by omega
    obtain ⟨⟨u0, v0⟩, ⟨u1, v1⟩, ⟨u2, v2⟩⟩ := (⟨PB.k0, PB.k1, PB.k2⟩ : _ ∧ _ ∧ _)
    generalize hM : (b * p.cst 7312 + (c + 1) * p.cst 7313 + 5) % 2147483647 = M
    have M0 : 0 ≤ M := by rw [← hM]; exact Int.emod_nonneg _ (by omega)
    have M1 : M < 2147483647 := by rw [← hM]; exact Int.emod_lt_of_pos _ (by omega)
    have q0 := Int.emod_nonneg M (b := 4093) (by omega)
    have q1 := Int.emod_lt_of_pos M (b := 4093) (by omega)
    generalize hW : (M * (M % 4093 + p.cst 7314) + (c + 1)) % 2147483563 = W
    have W0 : 0 ≤ W := by rw [← hW]; exact Int.emod_nonneg _ (by omega)
    have W1 : W < 2147483563 := by rw [← hW]; exact Int.emod_lt_of_pos _ (by omega)
    have m1 : mulOk b (p.cst 7312) = true := mulOk_of (a := 32) (b := 40) (by omega) (by omega) (by omega)
    have m2 : mulOk (c + 1) (p.cst 7313) = true := by
      refine mulOk_of (a := 1001) (b := 40) ?_ (by omega) (by omega)
      have : (c + 1).natAbs ≤ 2 ^ 1000 := by omega
      exact Nat.lt_of_le_of_lt this (Nat.pow_lt_pow_right (by decide) (by decide))
    have m3 : mulOk M (M % 4093 + p.cst 7314) = true := mulOk_of (a := 32) (b := 41) (by omega) (by omega) (by omega)
    have e1 : ∀ z : Int, z.fmod 2147483647 = z % 2147483647 := fun z => Int.fmod_eq_emod_of_nonneg z (by omega)
    have e2 : ∀ z : Int, z.fmod 4093 = z % 4093 := fun z => Int.fmod_eq_emod_of_nonneg z (by omega)
    have e3 : ∀ z : Int, z.fmod 2147483563 = z % 2147483563 := fun z => Int.fmod_eq_emod_of_nonneg z (by omega)
    have e4 : ∀ z : Int, z.fmod many = z % many := fun z => Int.fmod_eq_emod_of_nonneg z (by omega)
    have e5 : ∀ z : Int, z.fdiv 61 = z / 61 := fun z => fdiv_exact (by omega)
    have d61 : divOk 61 = true := by decide
    have hS1 : (S.set n [.int a, .int b, .int (c + 1)])[n]? = some [.int a, .int b, .int (c + 1)] := List.getElem?_set_self hn
    have hn1 : n < (S.set n [.int a, .int b, .int (c + 1)]).length := by rw [List.length_set]; exact hn
    have hS2 : (S.set n [.int a, .int W, .int (c + 1)])[n]? = some [.int a, .int W, .int (c + 1)] := List.getElem?_set_self hn
    refine ⟨.int (W / 61 % many), S.set n [.int a, .int W, .int (c + 1)], ?_, ⟨a, W, c + 1, hS2, ha, W0, by omega, by omega, by omega⟩, W / 61 % many, rfl, Int.emod_nonneg _ ne, Int.emod_lt_of_pos _ hm⟩
    simp [D457, start0, ixM_ref, bind_go, getRef_go hS, getRef_go hS1, getRef_go hS2, atE, ixN, copE, h0, biE, bopE, ne, setRef_go hn, setRef_go hn1, retF, m1, m2, m3, e1, e2, e3, e4, e5, d61, hM, hW]
theorem one_tri {xs : List PV} (hx : 0 < xs.length) (hs : xs.length < 1000) : Tri n 1 (run p (N + 2) 458 [.ref n, .tup xs]) fun v => v ∈ xs := by
  have h := below_tri (p := p) (N := N) (n := n) (many := (xs.length : Int)) (by omega) (by omega)
  have e : run p (N + 2) 458 [.ref n, .tup xs] = (run p (N + 1) 457 [.ref n, .int xs.length] >>= fun v => ixM ⟨run p (N + 1), p.cst⟩ (.tup xs) v) := by
    rw [run, PB.one]
    simp [-bind_pure_comp, D458, start0, biE, retF]

  rw [e]
  refine (h.bind (c2 := 0) fun v ⟨r, e, h0, h1⟩ => ?_)
  subst e
  have hr : r.toNat < xs.length := by omega
  have : ixM ⟨run p (N + 1), p.cst⟩ (.tup xs) (.int r) = pure xs[r.toNat] := by
    show lift (atE xs r) = _
    unfold atE ixN
    rw [if_pos h0, if_pos h1]
    simp [hr]
  rw [this]
  exact .pure (List.getElem_mem hr)
end
end Wt
/-! Lib3: the checks of values; boards. -/
namespace Wt
open PySem (Str)
class Chks (p : Prg) : Prop where
  d20 : p.dt 20 = some D20
  d23 : p.dt 23 = some D23
  d26 : p.dt 26 = some D26
  d27 : p.dt 27 = some D27
  d28 : p.dt 28 = some D28
  d31 : p.dt 31 = some D31
  d33 : p.dt 33 = some D33
  d34 : p.dt 34 = some D34
  d35 : p.dt 35 = some D35
  d45 : p.dt 45 = some D45
abbrev Tap := Rat × Rat
def tapV (t : Tap) : PV := .tup [fr t.1, fr t.2]
def bd (ts : List Tap) : PV := .tup (ts.map tapV)
@[simp] theorem items_bd (ts : List Tap) : items (bd ts) = some (ts.map tapV) := rfl
@[simp] theorem len_bd (ts : List Tap) : biE .len [bd ts] = some (.int ts.length) := by
  show some (PV.int _) = _
  rw [List.length_map]
@[simp] theorem tyB_fr (q : Rat) : tyB (fr q) = some "tuple" := rfl
@[simp] theorem ixM_tap0 (c : Cc) (t : Tap) : ixM c (tapV t) (.int 0) = pure (fr t.1) := rfl
@[simp] theorem ixM_tap1 (c : Cc) (t : Tap) : ixM c (tapV t) (.int 1) = pure (fr t.2) := rfl
section
variable {p : Prg} [K : Chks p] {n : Nat}
theorem whole_run {i : Int} : run p (n + 1) 20 [.int i] = pure (.bl true) := by
  rw [run, K.d20]
  simp [D20, start0, isiE, tyB, retF]
theorem from_run {i l : Int} : run p (n + 2) 23 [.int i, .int l] = pure (.bl (decide (l ≤ i))) := by
  rw [run, K.d23]
  simp [D23, start0, whole_run, copE, retF]
theorem upto_run {xs : List PV} {a b : Int} : run p (n + 1) 26 [.tup xs, .int a, .int b] = pure (.bl (decide (a ≤ xs.length) && decide ((xs.length : Int) ≤ b))) := by
  rw [run, K.d26]
  by_cases h : a ≤ xs.length <;> simp [D26, start0, isiE, tyB, biE, copE, retF, h]
theorem tupof_run {xs : List PV} {a : Int} : run p (n + 2) 27 [.tup xs, .int a] = pure (.bl (decide (a = xs.length))) := by
  rw [run, K.d27]
  have e : (decide (a ≤ (xs.length : Int)) && decide ((xs.length : Int) ≤ a)) = decide (a = xs.length) := by
    rw [← Bool.decide_and]
    congr 1
    apply propext
    omega
  simp [D27, start0, upto_run, retF, e]
theorem pair_run {xs : List PV} : run p (n + 3) 28 [.tup xs] = pure (.bl (decide (xs.length = 2))) := by
  rw [run, K.d28]
  have e : decide ((2 : Int) = xs.length) = decide (xs.length = 2) := by
    congr 1
    apply propext
    omega
  simp [D28, start0, tupof_run, retF, e]
theorem fr_pair {q : Rat} : run p (n + 3) 28 [fr q] = pure (.bl true) := pair_run (p := p) (n := n) (xs := [.int q.num, .int (q.den : Int)])
theorem frac_run {q : Rat} : run p (n + 4) 31 [fr q] = pure (.bl true) := by
  have hg : Nat.gcd q.num.natAbs q.den = 1 := q.reduced
  have hd : (1 : Int) ≤ q.den := by have := q.den_nz; omega
  rw [run, K.d31]
  simp [D31, start0, fr_pair, whole_run, from_run, hd, biE, copE, datB, PV.dat, PV.eqv, retF, hg]
theorem abovenought_run {q : Rat} : run p (n + 5) 33 [fr q] = pure (.bl (decide (0 < q))) := by
  rw [run, K.d33]
  have e : decide (0 < q.num) = decide (0 < q) := by
    congr 1
    apply propext
    rw [Rat.lt_iff]
    simp
  simp [D33, start0, frac_run, copE, retF, e]
theorem tap_run {t : Tap} : run p (n + 6) 34 [tapV t] = pure (.bl (decide (0 < t.1))) := by
  rw [run, K.d34]
  have k := pair_run (p := p) (n := n + 2) (xs := [fr t.1, fr t.2])
  by_cases h : 0 < t.1 <;> simp [D34, start0, k, tapV, abovenought_run, frac_run, retF, h, ixM, ixE, atE, ixN] <;> simp [show run p (n + 5) 28 [PV.tup [fr t.1, fr t.2]] = _ from k, abovenought_run, frac_run, h]
theorem asBs_all {α : Type} (f : α → Bool) : ∀ xs : List α, asBs (xs.map fun x => PV.bl (f x)) = some (xs.map f)
  | [] => rfl
  | x :: xs => by rw [List.map_cons, asBs, asBs_all f xs]; rfl
theorem board_run {ts : List Tap} (h : ∀ t ∈ ts, 0 < t.1) (l1 : 1 ≤ ts.length) (l2 : ts.length ≤ 8) : run p (n + 7) 35 [bd ts] = pure (.bl true) := by
  have k := upto_run (p := p) (n := n + 5) (xs := ts.map tapV) (a := 1) (b := 8)
  have e1 : decide ((1 : Int) ≤ ((ts.map tapV).length : Int)) = true := by rw [List.length_map, decide_eq_true_eq]; omega
  have e2 : decide (((ts.map tapV).length : Int) ≤ 8) = true := by rw [List.length_map, decide_eq_true_eq]; omega
  rw [e1, e2] at k
  have k' : run p (n + 6) 26 [bd ts, .int 1, .int 8] = pure (.bl true) := k
  have lc : lcGo (lcBody ⟨run p (n + 6), p.cst⟩ (.call 34 (.cons (.var 1) .nil)) (.nm 1) .no [1] [.val (bd ts), .emp]) (ts.map tapV) = pure ((ts.map tapV).map fun _ => PV.bl true) := lcGo_map fun x hx => by
    obtain ⟨t, ht, rfl⟩ := List.mem_map.mp hx
    simp [lcBody, asgT, wipeE, tap_run, h t ht]
  have e3 : biE .all [.lst ((ts.map tapV).map fun _ => PV.bl true)] = some (.bl true) := by
    show (asBs _).map _ = _
    rw [asBs_all (fun _ => true)]
    simp
  rw [run, K.d35]
  simp [-List.map_map, -List.map_const', D35, start0, k', retF, lc, e3]
theorem chkboard_run {ts : List Tap} (h : ∀ t ∈ ts, 0 < t.1) (l1 : 1 ≤ ts.length) (l2 : ts.length ≤ 8) : run p (n + 8) 45 [bd ts] = pure .non := by
  rw [run, K.d45]
  simp [D45, start0, board_run h l1 l2, retF]
end
end Wt
/-! Lib4: what the pool gives; _law_same. -/
namespace Wt
open PySem (Str)
class LawV (p : Prg) : Prop where
  board : p.dt 441 = some D441
  fraction : p.dt 443 = some D443
  flow : p.dt 444 = some D444
section
variable {p : Prg} [A : LawA p] [PB : LawP p] [V : LawV p] {N n : Nat}
theorem ratio_small {a b : Int} (hb : 1 ≤ b) (hb2 : b < 1000000) : run p (N + 1) 450 [.int a, .int b] = pure (fr (Rat.divInt a b)) := ratio_run (by omega) (by
  have : b.natAbs < 2 ^ 20 := by omega
  exact Nat.lt_of_lt_of_le (log_lt this (by decide)) (by decide))
theorem mulOk_small {i j : Int} (h : i.natAbs < 1000000) (h' : j.natAbs < 1000000) : mulOk i j = true := mulOk_of (a := 20) (b := 20) (by omega) (by omega) (by omega)
theorem divInt_mul {a b : Int} (hb : 0 < b) : Rat.divInt a b * (b : Rat) = (a : Rat) := by
  rw [Rat.divInt_eq_div]
  exact Rat.div_mul_cancel (by
    rw [Ne, Rat.intCast_eq_zero_iff]
    omega)
theorem flow_tri : Tri n 2 (run p (N + 3) 444 [.ref n]) fun v => ∃ q, v = fr q ∧ 0 < q ∧ Sm 5 q := by
  rw [run, V.flow]
  simp [-bind_pure_comp, D444, start0]
  refine Tri.bind (c1 := 1) (c2 := 1) (one_tri (N := N) (by simp) (by simp)) fun v hv => ?_
  obtain ⟨part, rfl, h1, h2⟩ : ∃ part : Int, v = .int part ∧ 1 ≤ part ∧ part ≤ 3 := by
    simp at hv
    rcases hv with rfl | rfl | rfl <;> exact ⟨_, rfl, by omega, by omega⟩
  simp [-bind_pure_comp, bopE, mulOk_small (i := 5) (j := part) (by omega) (by omega)]
  refine Tri.bind (c2 := 0) (below_tri (by omega) (by omega)) fun w ⟨r, e, r0, r1⟩ => ?_
  subst e
  simp [-bind_pure_comp, bopE, ratio_small (p := p) (N := N + 1) h1 (by omega), retF]
  refine .pure ⟨_, rfl, ?_, sm_divInt (by omega) (by omega) (by omega)⟩
  have e := divInt_mul (a := 1 + r) (b := part) (by omega)
  have p0 : (0 : Rat) < (part : Rat) := Rat.intCast_pos.mpr (by omega)
  have p1 : (0 : Rat) < ((1 + r : Int) : Rat) := Rat.intCast_pos.mpr (by omega)
  rw [← e] at p1
  exact (Rat.mul_pos_iff_of_pos_right p0).mp p1
theorem fraction_tri {low high : Int} (hl : low ≤ high) (h1 : -100 ≤ low) (h2 : high ≤ 100) : Tri n 2 (run p (N + 3) 443 [.ref n, .int low, .int high]) fun v => ∃ q, v = fr q ∧ (low : Rat) ≤ q ∧ q ≤ (high : Rat) ∧ Sm 10 q := by
  rw [run, V.fraction]
  simp [-bind_pure_comp, D443, start0]
  refine Tri.bind (c1 := 1) (c2 := 1) (one_tri (N := N) (by simp) (by simp)) fun v hv => ?_
  obtain ⟨part, rfl, g1, g2⟩ : ∃ part : Int, v = .int part ∧ 1 ≤ part ∧ part ≤ 3 := by
    simp at hv
    rcases hv with rfl | rfl | rfl <;> exact ⟨_, rfl, by omega, by omega⟩
  have m0 : 0 ≤ (high - low) * part := Int.mul_nonneg (by omega) (by omega)
  have m1 : (high - low) * part ≤ 200 * 3 := Int.mul_le_mul (by omega) g2 (by omega) (by omega)
  have m2 : -300 ≤ low * part := by
    have : (-100) * part ≤ low * part := Int.mul_le_mul_of_nonneg_right h1 (by omega)
    omega
  have m3 : low * part ≤ 300 := by
    have : low * part ≤ 100 * part := Int.mul_le_mul_of_nonneg_right (by omega) (by omega)
    omega
  simp [-bind_pure_comp, bopE, mulOk_small (i := low) (j := part) (by omega) (by omega), mulOk_small (i := high - low) (j := part) (by omega) (by omega)]
  refine Tri.bind (c2 := 0) (below_tri (by omega) (by omega)) fun w ⟨r, e, r0, r1⟩ => ?_
  subst e
  simp [-bind_pure_comp, bopE, ratio_small (p := p) (N := N + 1) g1 (by omega), retF]
  refine .pure ⟨_, rfl, ?_, ?_, sm_divInt (by omega) (by omega) (by omega)⟩
  · have e := divInt_mul (a := low * part + r) (b := part) (by omega)
    have p0 : (0 : Rat) < (part : Rat) := Rat.intCast_pos.mpr (by omega)
    refine Rat.le_of_mul_le_mul_right (c := (part : Rat)) ?_ p0
    rw [e, ← Rat.intCast_mul]
    exact Rat.intCast_le_intCast.mpr (by omega)
  · have e := divInt_mul (a := low * part + r) (b := part) (by omega)
    have p0 : (0 : Rat) < (part : Rat) := Rat.intCast_pos.mpr (by omega)
    refine Rat.le_of_mul_le_mul_right (c := (part : Rat)) ?_ p0
    rw [e, ← Rat.intCast_mul]
    refine Rat.intCast_le_intCast.mpr ?_
    rw [Int.sub_mul] at r1
    omega
structure TapOk (t : Tap) : Prop where
  pos : 0 < t.1
  s1 : Sm 5 t.1
  s2 : Sm 10 t.2
theorem list_of {α : Type} {f : α → PV} {P : α → Prop} : ∀ {ys : List PV}, (∀ y ∈ ys, ∃ a, y = f a ∧ P a) → ∃ xs : List α, ys = xs.map f ∧ ∀ x ∈ xs, P x
  | [], _ => ⟨[], rfl, by simp⟩
  | y :: ys, h => by
    obtain ⟨a, e, pa⟩ := h y (by simp)
    obtain ⟨xs, e2, px⟩ := list_of (ys := ys) fun z hz => h z (by simp [hz])
    exact ⟨a :: xs, by rw [e, e2]; rfl, fun x hx => by
      rcases List.mem_cons.mp hx with e | hx
      · rw [e]; exact pa
      · exact px x hx⟩
@[simp] theorem rngM_ok2 {lo hi : Int} (h : -1000000 ≤ lo ∧ lo ≤ 1000000 ∧ -1000000 ≤ hi ∧ hi ≤ 1000000) : rngM lo hi = pure (rngE lo (hi - lo).toNat) := by
  unfold rngM
  rw [if_pos h]
@[simp] theorem rngE_len (lo : Int) (n : Nat) : (rngE lo n).length = n := by simp [rngE]
theorem board_tri {most : Int} (hm : 1 ≤ most) (hm2 : most ≤ 100) : Tri n (2 + 4 * most.toNat) (run p (N + 4) 441 [.ref n, .int most]) fun v => ∃ ts, v = bd ts ∧ 1 ≤ ts.length ∧ (ts.length : Int) ≤ most ∧ ∀ t ∈ ts, TapOk t := by
  rw [run, V.board]
  simp [-bind_pure_comp, D441, start0]
  refine Tri.more (Tri.bind (c1 := 1) (c2 := 1 + (4 * most.toNat + 0)) (one_tri (N := N + 1) (by simp) (by simp)) fun v hv => ?_) (by omega)
  obtain ⟨wide, rfl, w1, w2⟩ : ∃ wide : Int, v = .int wide ∧ -2 ≤ wide ∧ wide ≤ 9 := by
    simp at hv
    rcases hv with rfl | rfl | rfl <;> exact ⟨_, rfl, by omega, by omega⟩
  refine Tri.bind (below_tri (by omega) (by omega)) fun w ⟨r, e, r0, r1⟩ => ?_
  subst e
  simp [-bind_pure_comp, bopE, rngM_ok2 (lo := 0) (hi := 1 + r) (by omega)]
  have lc : Tri n (4 * most.toNat) (noerr (lcGo (lcBody ⟨run p (N + 3), p.cst⟩ (.tup (.cons (.call 444 (.cons (.var 0) .nil)) (.cons (.call 443 (.cons (.var 0) (.cons (.neg (.int 2)) (.cons (.var 2) .nil)))) .nil))) (.nm 3) .no [3] [.val (.ref n), .val (.int most), .val (.int wide), .emp]) (rngE 0 (1 + r).toNat)))
      fun ys => ys.length = (1 + r).toNat ∧ ∀ y ∈ ys, ∃ t, y = tapV t ∧ TapOk t := by
    refine Tri.more (Tri.noerr ((Tri.lc (c := 4) fun x _ => ?_).imp fun ys h => by simpa using h)) (by rw [rngE_len]; omega)
    simp [-bind_pure_comp, lcBody, asgT, wipeE]
    refine Tri.bind (c1 := 2) (c2 := 2) flow_tri fun v ⟨q, e, q0, q1⟩ => ?_
    subst e
    refine Tri.bind (c1 := 2) (c2 := 0) (fraction_tri (low := -2) (high := wide) (by omega) (by omega) (by omega)) fun v ⟨q2, e, _, _, q5⟩ => ?_
    subst e
    exact .pure ⟨_, rfl, q, q2, rfl, q0, q1, q5⟩
  refine Tri.bind (c2 := 0) lc fun ys ⟨l, h⟩ => ?_
  obtain ⟨ts, rfl, ht⟩ := list_of h
  rw [List.length_map] at l
  simp [biE, retF]
  exact .pure ⟨ts, rfl, by omega, by omega, fun a b h => ht (a, b) h⟩
end
class LawS (p : Prg) : Prop where
  same : p.dt 570 = some D570
def plainV : Nat → PV → Bool
  | _, .non => true
  | _, .bl _ => true
  | _, .int _ => true
  | _, .str x => datB (.str x)
  | n + 1, .tup xs => xs.all (plainV n)
  | _, _ => false
section
variable {p : Prg} [S : LawS p] {n : Nat}
theorem same_self : ∀ {d : Nat} {v : PV}, plainV d v = true → run p (n + d + 1) 570 [v, v] = pure (.bl true)
  | d, .non, _ => by
    rw [run, S.same]
    simp [D570, start0, copE, isNonE, retF]
  | d, .bl b, _ => by
    rw [run, S.same]
    simp [D570, start0, copE, isNonE, isiE, tyB, datB, PV.dat, PV.eqv, retF]
  | d, .int b, _ => by
    rw [run, S.same]
    simp [D570, start0, copE, isNonE, isiE, tyB, datB, PV.dat, PV.eqv, retF]
  | d, .str x, h => by
    have h2 : datB (.str x) = true := by
      cases d <;> simpa [plainV] using h
    rw [run, S.same]
    simp [D570, start0, copE, isNonE, isiE, tyB, h2, PV.eqv, retF]
  | 0, .tup xs, h => by simp [plainV] at h
  | d + 1, .tup xs, h => by
    have h2 : ∀ x ∈ xs, plainV d x = true := by
      simpa [plainV] using h
    have lc : lcGo (lcBody ⟨run p (n + (d + 1)), p.cst⟩ (.call 570 (.cons (.var 2) (.cons (.var 3) .nil))) (.tp [(.nm 2), (.nm 3)]) .no [2, 3] [.val (.tup xs), .val (.tup xs), .emp, .emp]) (zip2E xs xs) = pure ((zip2E xs xs).map fun _ => PV.bl true) := lcGo_map fun y hy => by
      unfold zip2E at hy
      obtain ⟨⟨a, b⟩, hm, rfl⟩ := List.mem_map.mp hy
      have hab : a = b ∧ a ∈ xs := by
        obtain ⟨i, hi, e⟩ := List.mem_iff_getElem.mp hm
        rw [List.getElem_zip] at e
        cases e
        exact ⟨rfl, List.getElem_mem _⟩
      obtain ⟨rfl, ha⟩ := hab
      have ih := same_self (h2 a ha)
      have ih' : run p (n + (d + 1)) 570 [a, a] = pure (.bl true) := ih
      simp [lcBody, asgT, asgTs, wipeE, ih']
    have e3 : asBs ((zip2E xs xs).map fun _ => PV.bl true) = some ((zip2E xs xs).map fun _ => true) := asBs_all (fun _ => true) _
    have e4 : ((zip2E xs xs).all fun _ => true) = true := List.all_eq_true.mpr fun _ _ => rfl
    rw [run, S.same]
    simp [-List.map_map, e3, e4, D570, start0, copE, isNonE, isiE, tyB, biE, datB, PV.dat, PV.eqv, lc, retF]
  | 0, .lst xs, h => by simp [plainV] at h
  | 0, .frz xs, h => by simp [plainV] at h
  | 0, .fn xs, h => by simp [plainV] at h
  | 0, .ref xs, h => by simp [plainV] at h
  | d + 1, .lst xs, h => by simp [plainV] at h
  | d + 1, .frz xs, h => by simp [plainV] at h
  | d + 1, .fn xs, h => by simp [plainV] at h
  | d + 1, .ref xs, h => by simp [plainV] at h
theorem same_fr {q : Rat} : run p (n + 2) 570 [fr q, fr q] = pure (.bl true) := same_self (n := n) (d := 1) (v := fr q) (by simp [fr, plainV])
end
end Wt
/-! Lib5: lists of fractions; costs of settings. -/
namespace Wt
open PySem (Str)
def fl (qs : List Rat) : PV := .tup (qs.map fr)
@[simp] theorem items_fl (qs : List Rat) : items (fl qs) = some (qs.map fr) := rfl
@[simp] theorem len_fl (qs : List Rat) : biE .len [fl qs] = some (.int qs.length) := by
  show some (PV.int _) = _
  rw [List.length_map]
theorem lcGo_enc {α : Type} {f : PV → M (Option PV)} (enc g : α → PV) : ∀ {l : List α}, (∀ a ∈ l, f (enc a) = pure (some (g a))) → lcGo f (l.map enc) = pure (l.map g)
  | [], _ => by rw [List.map_nil, lcGo]; rfl
  | a :: l, h => by
    rw [List.map_cons, lcGo, h a (by simp), lcGo_enc enc g fun b hb => h b (by simp [hb])]
    rfl
theorem zip2E_map {α β : Type} (f : α → PV) (g : β → PV) (xs : List α) (ys : List β) : zip2E (xs.map f) (ys.map g) = (xs.zip ys).map fun q => .tup [f q.1, g q.2] := by
  unfold zip2E
  rw [List.zip_map, List.map_map]
  rfl
theorem lcGo_none {f : PV → M (Option PV)} : ∀ {xs : List PV}, (∀ x ∈ xs, f x = pure none) → lcGo f xs = pure []
  | [], _ => by rw [lcGo]
  | x :: xs, h => by
    rw [lcGo, h x (by simp), lcGo_none fun y hy => h y (by simp [hy])]
    rfl
def dotL (xs ys : List Rat) : List Rat := (xs.zip ys).map fun q => q.1 * q.2
theorem dotL_sm {a b : Nat} {xs ys : List Rat} (hx : ∀ x ∈ xs, Sm a x) (hy : ∀ y ∈ ys, Sm b y) : ∀ z ∈ dotL xs ys, Sm (a + b) z := fun z hz => by
  obtain ⟨⟨x, y⟩, hm, rfl⟩ := List.mem_map.mp hz
  exact (hx x (List.of_mem_zip hm).1).mul (hy y (List.of_mem_zip hm).2)
theorem dotL_len (xs ys : List Rat) : (dotL xs ys).length = min xs.length ys.length := by simp [dotL]
theorem dotL_comm : ∀ (xs ys : List Rat), dotL xs ys = dotL ys xs
  | [], ys => by simp [dotL]
  | xs, [] => by simp [dotL]
  | x :: xs, y :: ys => by
    have := dotL_comm xs ys
    simp only [dotL, List.zip_cons_cons, List.map_cons] at this ⊢
    rw [Rat.mul_comm, this]
def pr (a b : Int) : PV := .tup [.int a, .int b]
@[simp] theorem ixM_pr0 (c : Cc) (a b : Int) : ixM c (pr a b) (.int 0) = pure (.int a) := rfl
@[simp] theorem ixM_pr1 (c : Cc) (a b : Int) : ixM c (pr a b) (.int 1) = pure (.int b) := rfl
section
variable {p : Prg} [A : LawA p] {n : Nat}
theorem raw_log {a : Nat} {x : Rat} {b : Int} (h : Sm a x) (hb : 0 < b) (hb2 : b < 1000) (l : a ≤ 8000) : ((x.den : Int) * b).natAbs.log2 < 9000 := by
  have e : ((x.den : Int) * b).natAbs = x.den * b.natAbs := by rw [Int.natAbs_mul]; rfl
  rw [e]
  have := log_lt (mul_lt2 (b := 10) h.d (show b.natAbs < 2 ^ 10 by omega)) (by omega)
  omega
theorem mul_raw {a : Nat} {i : Int} {b : Int} (h : i.natAbs < 2 ^ a) (hb : b.natAbs < 1000) (l : a ≤ 8000) : mulOk i b = true := mulOk_of h (b := 10) (by omega) (by omega)
theorem raw_ne {x : Rat} {b : Int} (hb : 0 < b) : (x.den : Int) * b ≠ 0 := Int.mul_ne_zero (by have := den_pos x; omega) (by omega)
theorem rat_den_ne (x : Rat) : (x.den : Int) ≠ 0 := by have := den_pos x; omega
theorem ltimes_raw {a : Nat} {x : Rat} {u b : Int} (h : Sm a x) (hu : u.natAbs < 1000) (hb : 0 < b) (hb2 : b < 1000) (l : a ≤ 8000) : run p (n + 2) 449 [fr x, pr u b] = pure (fr (x * Rat.divInt u b)) := by
  have k := ratio_run (p := p) (n := n) (a := x.num * u) (raw_ne (x := x) hb) (raw_log h hb hb2 l)
  have e : x * Rat.divInt u b = Rat.divInt (x.num * u) (x.den * b) := by
    have := Rat.divInt_mul_divInt x.num u (d₁ := x.den) (d₂ := b)
    rw [Rat.num_divInt_den] at this
    exact this
  have hd : (x.den : Int).natAbs < 2 ^ a := by simpa using h.d
  rw [run, A.times, e]
  simp [D449, start0, bopE, mul_raw h.n hu l, mul_raw hd (show b.natAbs < 1000 by omega) l, retF, k]
theorem lplus_raw {a : Nat} {x : Rat} {u b : Int} (h : Sm a x) (hu : u.natAbs < 1000) (hb : 0 < b) (hb2 : b < 1000) (l : a ≤ 8000) : run p (n + 2) 455 [fr x, pr u b] = pure (fr (x + Rat.divInt u b)) := by
  have k := ratio_run (p := p) (n := n) (a := x.num * b + u * x.den) (raw_ne (x := x) hb) (raw_log h hb hb2 l)
  have e : x + Rat.divInt u b = Rat.divInt (x.num * b + u * x.den) (x.den * b) := by
    have := Rat.divInt_add_divInt x.num u (d₁ := x.den) (d₂ := b) (rat_den_ne x) (by omega)
    rw [Rat.num_divInt_den] at this
    exact this
  have hd : (x.den : Int).natAbs < 2 ^ a := by simpa using h.d
  have m2 : mulOk u x.den = true := mulOk_of (a := 10) (by omega) hd (by omega)
  rw [run, A.plus, e]
  simp [D455, start0, bopE, mul_raw h.n (show b.natAbs < 1000 by omega) l, mul_raw hd (show b.natAbs < 1000 by omega) l, m2, retF, k]
end
class Cost (p : Prg) : Prop where
  d30 : p.dt 30 = some D30
  d32 : p.dt 32 = some D32
  d36 : p.dt 36 = some D36
  d37 : p.dt 37 = some D37
  d39 : p.dt 39 = some D39
  d124 : p.dt 124 = some D124
  d125 : p.dt 125 = some D125
  d126 : p.dt 126 = some D126
  d127 : p.dt 127 = some D127
  d128 : p.dt 128 = some D128
  d274 : p.dt 274 = some D274
  d360 : p.dt 360 = some D360
  d466 : p.dt 466 = some D466
  d474 : p.dt 474 = some D474
  d475 : p.dt 475 = some D475
  d476 : p.dt 476 = some D476
  d480 : p.dt 480 = some D480
section
variable {p : Prg} [A : Arith p] [K : Chks p] [C : Cost p] {n : Nat}
theorem fromnought_run {q : Rat} : run p (n + 5) 32 [fr q] = pure (.bl (decide (0 ≤ q))) := by
  rw [run, C.d32]
  simp [D32, start0, frac_run, copE, retF]
theorem isflow_run {t : Tap} {q : Rat} {a b : Nat} (h : Sm a t.1) (h' : Sm b q) (l : a + b ≤ 8000) : run p (n + 6) 36 [tapV t, fr q] = pure (.bl (decide (0 ≤ q) && decide (q ≤ t.1))) := by
  have k := less_run (p := p) (n := n + 4) h h' l
  have e : (!decide (t.1 < q)) = decide (q ≤ t.1) := by
    rw [← decide_not]
    congr 1
    exact propext Rat.not_lt
  rw [run, C.d36]
  by_cases z : 0 ≤ q <;> simp [D36, start0, fromnought_run, k, e, z, retF]
theorem cutE_nil (lo hi : Option Int) : cutE [] lo hi = [] := by simp [cutE]
/-- nothing is wrong -/
theorem wrongin_run {xs : List PV} {a b : Int} {f : Nat} (l1 : a ≤ xs.length) (l2 : (xs.length : Int) ≤ b) (h : ∀ x ∈ xs, run p (n + 1) f [x] = pure (.bl true)) : run p (n + 2) 30 [.tup xs, .int a, .int b, .fn f] = pure (.lst []) := by
  have k := upto_run (p := p) (n := n) (xs := xs) (a := a) (b := b)
  rw [decide_eq_true l1, decide_eq_true l2] at k
  have lc : lcGo (lcBody ⟨run p (n + 1), p.cst⟩ (.var 4) (.tp [(.nm 4), (.nm 5)]) (.yes (.not_ (.callv 3 (.cons (.var 5) .nil)))) [4, 5] [.val (.tup xs), .val (.int a), .val (.int b), .val (.fn f), .emp, .emp]) (enumE xs) = pure [] := lcGo_none fun y hy => by
    unfold enumE at hy
    obtain ⟨i, hi, rfl⟩ := List.mem_map.mp hy
    rw [List.mem_range] at hi
    have hx : xs.getD i .non ∈ xs := by
      rw [List.getD_eq_getElem?_getD, List.getElem?_eq_getElem hi]
      exact List.getElem_mem hi
    simp [-List.getD_eq_getElem?_getD, lcBody, asgT, asgTs, wipeE, h _ hx]
  rw [run, C.d30]
  simp [D30, start0, k, lc, slE, cutE_nil, retF]
theorem prices_run {ts : List Tap} {ps : List Rat} (hl : ps.length = ts.length) (h : ∀ q ∈ ps, 0 ≤ q) : run p (n + 7) 124 [bd ts, fl ps] = pure (.lst []) := by
  have k := wrongin_run (p := p) (n := n + 4) (xs := ps.map fr) (a := ts.length) (b := ts.length) (f := 32) (by simp [hl]) (by simp [hl]) fun x hx => by
    obtain ⟨q, hq, rfl⟩ := List.mem_map.mp hx
    rw [fromnought_run, decide_eq_true (h q hq)]
  rw [run, C.d124]
  simp [D124, start0, show run p (n + 6) 30 [fl ps, .int ts.length, .int ts.length, .fn 32] = _ from k, retF]
theorem setting_run {ts : List Tap} {ss : List Rat} {a b : Nat} (hl : ss.length = ts.length) (h : ∀ q ∈ ts.zip ss, Sm a q.1.1 ∧ Sm b q.2 ∧ 0 ≤ q.2 ∧ q.2 ≤ q.1.1) (l : a + b ≤ 8000) : run p (n + 7) 37 [bd ts, fl ss] = pure (.lst []) := by
  have k := tupof_run (p := p) (n := n + 4) (xs := ss.map fr) (a := ts.length)
  rw [decide_eq_true (by simp [hl])] at k
  have ez : enumE (zip2E (ts.map tapV) (ss.map fr)) = (List.range (ts.zip ss).length).map fun i => .tup [.int i, ((ts.zip ss).map fun q => PV.tup [tapV q.1, fr q.2]).getD i .non] := by
    rw [zip2E_map]
    unfold enumE
    rw [List.length_map]
  have lc : lcGo (lcBody ⟨run p (n + 6), p.cst⟩ (.var 2) (.tp [(.nm 2), (.tp [(.nm 3), (.nm 4)])]) (.yes (.not_ (.call 36 (.cons (.var 3) (.cons (.var 4) .nil))))) [2, 3, 4] [.val (bd ts), .val (fl ss), .emp, .emp, .emp]) (enumE (zip2E (ts.map tapV) (ss.map fr))) = pure [] := lcGo_none fun y hy => by
    rw [ez] at hy
    obtain ⟨i, hi, rfl⟩ := List.mem_map.mp hy
    rw [List.mem_range] at hi
    have hq := h _ (List.getElem_mem hi)
    have eg : ((ts.zip ss).map fun q => PV.tup [tapV q.1, fr q.2]).getD i .non = .tup [tapV ((ts.zip ss)[i]).1, fr ((ts.zip ss)[i]).2] := by
      rw [List.getD_eq_getElem?_getD, List.getElem?_map, List.getElem?_eq_getElem hi]
      rfl
    rw [eg]
    generalize (ts.zip ss)[i] = q at hq
    obtain ⟨h1, h2, h3, h4⟩ := hq
    simp [lcBody, asgT, asgTs, wipeE, isflow_run h1 h2 l, h3, h4]
  rw [run, C.d37]
  simp [D37, start0, show run p (n + 6) 27 [fl ss, .int ts.length] = _ from k, lc, slE, cutE_nil, retF]
theorem costby_run {ps ss : List Rat} {a b : Nat} (hp : ∀ q ∈ ps, Sm a q) (hs : ∀ q ∈ ss, Sm b q) (l : a + b ≤ 500) (hl : ps.length ≤ 10) : run p (n + 4) 125 [fl ps, fl ss] = pure (fr (sumQ (dotL ps ss))) := by
  have lc : lcGo (lcBody ⟨run p (n + 3), p.cst⟩ (.call 3 (.cons (.var 2) (.cons (.var 3) .nil))) (.tp [(.nm 2), (.nm 3)]) .no [2, 3] [.val (fl ps), .val (fl ss), .emp, .emp]) (zip2E (ps.map fr) (ss.map fr)) = pure ((dotL ps ss).map fr) := by
    rw [zip2E_map, dotL, List.map_map]
    refine lcGo_enc _ _ fun q hq => ?_
    have k := times_run (p := p) (n := n + 1) (hp _ (List.of_mem_zip hq).1) (hs _ (List.of_mem_zip hq).2) (by omega)
    simp [lcBody, asgT, asgTs, wipeE, k]
  have ks := sum_run (p := p) (n := n) (v := .lst ((dotL ps ss).map fr)) (xs := dotL ps ss) rfl (dotL_sm hp hs) (by
    rw [dotL_len]
    have h1 : min ps.length ss.length ≤ 10 := by omega
    have h2 : (a + b + 1) * min ps.length ss.length ≤ 501 * 10 := Nat.mul_le_mul (by omega) h1
    omega)
  rw [run, C.d125]
  simp [-List.map_map, D125, start0, lc, ks, retF]
theorem priced_run {ts : List Tap} {ps : List Rat} (h : ∀ t ∈ ts, 0 < t.1) (l1 : 1 ≤ ts.length) (l2 : ts.length ≤ 8) (hl : ps.length = ts.length) (hp : ∀ q ∈ ps, 0 ≤ q) : run p (n + 9) 474 [bd ts, fl ps] = pure .non := by
  rw [run, C.d474]
  simp [D474, start0, chkboard_run h l1 l2, show run p (n + 8) 124 [bd ts, fl ps] = _ from prices_run (n := n + 1) hl hp, forGo_nil, retF]
theorem chksetting_run {ts : List Tap} {ss : List Rat} {a b : Nat} (hl : ss.length = ts.length) (h : ∀ q ∈ ts.zip ss, Sm a q.1.1 ∧ Sm b q.2 ∧ 0 ≤ q.2 ∧ q.2 ≤ q.1.1) (l : a + b ≤ 8000) : run p (n + 8) 466 [bd ts, fl ss] = pure .non := by
  rw [run, C.d466]
  simp [D466, start0, setting_run hl h l, forGo_nil, retF]
theorem cost_run {ts : List Tap} {ps ss : List Rat} {a b c : Nat} (h : ∀ t ∈ ts, 0 < t.1) (l1 : 1 ≤ ts.length) (l2 : ts.length ≤ 8) (hl : ps.length = ts.length) (hp : ∀ q ∈ ps, 0 ≤ q) (hl2 : ss.length = ts.length) (hz : ∀ q ∈ ts.zip ss, Sm a q.1.1 ∧ Sm b q.2 ∧ 0 ≤ q.2 ∧ q.2 ≤ q.1.1)
    (hps : ∀ q ∈ ps, Sm c q) (hss : ∀ q ∈ ss, Sm b q) (l : a + b ≤ 500) (l' : c + b ≤ 500) : run p (n + 10) 476 [bd ts, fl ps, fl ss] = pure (fr (sumQ (dotL ps ss))) := by
  rw [run, C.d476]
  simp [D476, start0, priced_run (n := n) h l1 l2 hl hp, show run p (n + 9) 466 [bd ts, fl ss] = _ from chksetting_run (n := n + 1) hl2 hz (by omega), show run p (n + 9) 125 [fl ps, fl ss] = _ from costby_run (n := n + 5) hps hss l' (by omega), retF]
end
end Wt
/-! Lib6: rated costs. -/
namespace Wt
open PySem (Str)
def ovQ (r : Tap) (q : Tap × Rat) : Rat := r.1 + r.2 * q.1.2 - q.2
def gainL (r : Tap) (qs : List (Tap × Rat)) : List Rat := qs.map fun q => q.1.1 * maxQ (ovQ r q) 0
def ratedQ (ts : List Tap) (ps : List Rat) (m r : Tap) : Rat := r.1 * m.1 + r.2 * m.2 - sumQ (gainL r (ts.zip ps))
theorem Sm.max {k : Nat} {x y : Rat} (h : Sm k x) (h' : Sm k y) : Sm k (maxQ x y) := by
  unfold maxQ
  split <;> assumption
structure QOk (a b c : Nat) (q : Tap × Rat) : Prop where
  f : Sm a q.1.1
  w : Sm b q.1.2
  p : Sm c q.2
theorem ov_sm {a b c d : Nat} {r : Tap} {q : Tap × Rat} (h : QOk a b c q) (h1 : Sm d r.1) (h2 : Sm d r.2) : Sm (2 * d + b + c + 2) (ovQ r q) := ((h1.add (h2.mul h.w)).sub h.p).mono (by omega)
theorem gain_sm {a b c d : Nat} {r : Tap} {qs : List (Tap × Rat)} (h : ∀ q ∈ qs, QOk a b c q) (h1 : Sm d r.1) (h2 : Sm d r.2) : ∀ z ∈ gainL r qs, Sm (a + (2 * d + b + c + 2)) z := fun z hz => by
  obtain ⟨q, hq, rfl⟩ := List.mem_map.mp hz
  exact (h q hq).f.mul ((ov_sm (h q hq) h1 h2).max (sm0 (by omega)))
section
variable {p : Prg} [A : Arith p] [K : Chks p] [C : Cost p] {n : Nat}
theorem worth_run {r : Tap} {w : Rat} {d b : Nat} (h1 : Sm d r.1) (h2 : Sm d r.2) (hw : Sm b w) (l : 2 * d + b ≤ 4000) : run p (n + 3) 126 [tapV r, fr w] = pure (fr (r.1 + r.2 * w)) := by
  have k1 := times_run (p := p) (n := n) h2 hw (by omega)
  have k2 := plus_run (p := p) (n := n) h1 (h2.mul hw) (by omega)
  rw [run, C.d126]
  simp [D126, start0, k1, k2, retF]
theorem gain_run {r : Tap} {q : Tap × Rat} {a b c d : Nat} (h1 : Sm d r.1) (h2 : Sm d r.2) (h : QOk a b c q) (l : 2 * d + b + c ≤ 4000) : run p (n + 4) 127 [tapV r, tapV q.1, fr q.2] = pure (fr (ovQ r q)) := by
  have k1 := worth_run (p := p) (n := n) h1 h2 h.w (by omega)
  have k2 := minus_run (p := p) (n := n + 1) (h1.add (h2.mul h.w)) h.p (by omega)
  rw [run, C.d127]
  simp [D127, start0, k1, k2, retF, ovQ]
theorem ratedby_run {ts : List Tap} {ps : List Rat} {m r : Tap} {a b c d e : Nat} (hq : ∀ q ∈ ts.zip ps, QOk a b c q) (h1 : Sm d r.1) (h2 : Sm d r.2) (m1 : Sm e m.1) (m2 : Sm e m.2) (hl : ts.length ≤ 10) (l : a + 2 * d + b + c ≤ 300) (l2 : e ≤ 500) : run p (n + 6) 128 [bd ts, fl ps, tapV m, tapV r] = pure (fr (ratedQ ts ps m r)) := by
  have lc : lcGo (lcBody ⟨run p (n + 5), p.cst⟩ (.call 3 (.cons (.ix (.var 6) (.int 0)) (.cons (.call 8 (.cons (.call 127 (.cons (.var 3) (.cons (.var 6) (.cons (.var 7) .nil)))) .nil)) .nil))) (.tp [(.nm 6), (.nm 7)]) .no [6, 7] [.val (bd ts), .val (fl ps), .val (tapV m), .val (tapV r), .emp, .emp, .emp, .emp]) (zip2E (ts.map tapV) (ps.map fr)) = pure ((gainL r (ts.zip ps)).map fr) := by
    rw [zip2E_map, gainL, List.map_map]
    refine lcGo_enc _ _ fun q hm => ?_
    have h := hq q hm
    have s := ov_sm h h1 h2
    have k1 := gain_run (p := p) (n := n + 1) h1 h2 h (by omega)
    have k2 := above_run (p := p) (n := n + 2) s (by omega)
    have k3 := times_run (p := p) (n := n + 3) h.f (s.max (sm0 (by omega))) (by omega)
    simp [lcBody, asgT, asgTs, wipeE, k1, k2, k3]
  have gs := gain_sm hq h1 h2
  have gl : (gainL r (ts.zip ps)).length ≤ 10 := by
    rw [gainL, List.length_map, List.length_zip]
    omega
  have hm : (a + (2 * d + b + c + 2) + 1) * (gainL r (ts.zip ps)).length ≤ 303 * 10 := Nat.mul_le_mul (by omega) gl
  have ks := sum_run (p := p) (n := n + 2) (v := .lst ((gainL r (ts.zip ps)).map fr)) (xs := gainL r (ts.zip ps)) rfl gs (by omega)
  have ssm : Sm (1 + 3030) (sumQ (gainL r (ts.zip ps))) := by
    have := Sm.sum (a := 0) (j := 1) (sm0) gs
    rw [sumL_eq, Rat.zero_add] at this
    exact this.mono (by omega)
  have k1 := times_run (p := p) (n := n + 3) h1 m1 (by omega)
  have k2 := times_run (p := p) (n := n + 3) h2 m2 (by omega)
  have k3 := plus_run (p := p) (n := n + 3) (h1.mul m1) (h2.mul m2) (by omega)
  have k4 := minus_run (p := p) (n := n + 3) ((h1.mul m1).add (h2.mul m2)) ssm (by omega)
  rw [run, C.d128]
  simp [-List.map_map, D128, start0, lc, k1, k2, k3, ks, k4, retF, ratedQ]
theorem chkfrac_run {q : Rat} : run p (n + 5) 274 [fr q] = pure .non := by
  rw [run, C.d274]
  simp [D274, start0, frac_run, retF]
theorem mix_run {m : Tap} (h : 0 ≤ m.1) : run p (n + 6) 39 [tapV m] = pure (.bl true) := by
  have k := pair_run (p := p) (n := n + 2) (xs := [fr m.1, fr m.2])
  have k' : run p (n + 5) 28 [tapV m] = pure (.bl true) := k
  rw [run, C.d39]
  simp [D39, start0, k', fromnought_run, frac_run, h, retF]
theorem chkmix_run {m : Tap} (h : 0 ≤ m.1) : run p (n + 7) 360 [tapV m] = pure .non := by
  rw [run, C.d360]
  simp [D360, start0, mix_run h, retF]
theorem rated_run {ts : List Tap} {ps : List Rat} {m r : Tap} {a b c d e : Nat} (h : ∀ t ∈ ts, 0 < t.1) (l1 : 1 ≤ ts.length) (l2 : ts.length ≤ 8) (hl : ps.length = ts.length) (hp : ∀ q ∈ ps, 0 ≤ q) (hm : 0 ≤ m.1)
    (hq : ∀ q ∈ ts.zip ps, QOk a b c q) (h1 : Sm d r.1) (h2 : Sm d r.2) (m1 : Sm e m.1) (m2 : Sm e m.2) (l : a + 2 * d + b + c ≤ 300) (l' : e ≤ 500) : run p (n + 11) 480 [bd ts, fl ps, tapV m, fr r.1, fr r.2] = pure (fr (ratedQ ts ps m r)) := by
  have k : run p (n + 10) 128 [bd ts, fl ps, tapV m, .tup [fr r.1, fr r.2]] = pure (fr (ratedQ ts ps m r)) := ratedby_run (p := p) (n := n + 4) hq h1 h2 m1 m2 (by omega) l l'
  have k2 : run p (n + 10) 475 [bd ts, fl ps, tapV m] = pure .non := by
    rw [run, C.d475]
    simp [D475, start0, priced_run (n := n) h l1 l2 hl hp, show run p (n + 9) 360 [tapV m] = _ from chkmix_run (n := n + 2) hm, retF]
  rw [run, C.d480]
  simp [D480, start0, k2, show ∀ q, run p (n + 10) 274 [fr q] = _ from fun q => chkfrac_run (n := n + 5), k, retF]
end
class LawR (p : Prg) : Prop where
  rated : p.dt 588 = some D588
  isless : p.dt 572 = some D572
def lratL (r : Tap) (a : Rat) : List (Tap × Rat) → Rat
  | [] => a
  | q :: qs => lratL r (if 0 < ovQ r q then a - q.1.1 * ovQ r q else a) qs
theorem maxQ_pos {x : Rat} (h : 0 < x) : maxQ x 0 = x := by
  unfold maxQ
  rw [if_neg (fun z => Rat.lt_irrefl (Std.lt_trans h z))]
theorem maxQ_neg {x : Rat} (h : ¬ 0 < x) : maxQ x 0 = 0 := by
  unfold maxQ
  split
  · rfl
  · rename_i h2
    exact Rat.le_antisymm (Rat.not_lt.mp h) (Rat.not_lt.mp h2)
theorem lratL_eq (r : Tap) : ∀ (qs : List (Tap × Rat)) (a : Rat), lratL r a qs = a - sumQ (gainL r qs)
  | [], a => by
    simp only [lratL, gainL, List.map_nil, sumQ]
    grind
  | q :: qs, a => by
    rw [lratL, lratL_eq r qs]
    simp only [gainL, List.map_cons, sumQ]
    by_cases h : 0 < ovQ r q
    · rw [if_pos h, maxQ_pos h]
      grind
    · rw [if_neg h, maxQ_neg h, Rat.mul_zero, Rat.zero_add]
section
variable {p : Prg} [A : LawA p] [R : LawR p] {n : Nat}
theorem lisless_run {a b : Nat} {x y : Rat} (h : Sm a x) (h' : Sm b y) (l : a + b ≤ 8000) : run p (n + 1) 572 [fr x, fr y] = pure (.bl (decide (x < y))) := by
  rw [run, R.isless]
  simp [D572, start0, bopE, copE, mul_nd h h' l, mul_nd h' h (by omega), retF, lt_num]
theorem num_pos {x : Rat} : decide (0 < x.num) = decide (0 < x) := by
  congr 1
  apply propext
  rw [Rat.lt_iff]
  simp
theorem lrat_for {r : Tap} {a b c d : Nat} {cc : Cc} (hc : cc.call = run p (n + 2)) (h1 : Sm d r.1) (h2 : Sm d r.2) (l : a + 2 * d + b + c ≤ 300) {s0 s1 s2 : Slot} : ∀ {qs : List (Tap × Rat)} {x : Rat} {j : Nat} {s6 s7 s8 s9 : Slot}, Sm j x → (∀ q ∈ qs, QOk a b c q) → j + 310 * qs.length ≤ 7000 →
    ∃ s6' s7' s8' s9', forGo (forBody cc (.tp [(.tp [(.nm 8), (.nm 9)]), (.nm 6)]) D588_1) (qs.map fun q => .tup [tapV q.1, fr q.2]) [s0, s1, s2, .val (fr r.1), .val (fr r.2), .val (fr x), s6, s7, s8, s9] = pure (.nx [s0, s1, s2, .val (fr r.1), .val (fr r.2), .val (fr (lratL r x qs)), s6', s7', s8', s9'])
  | [], x, j, s6, s7, s8, s9, h, _, _ => ⟨s6, s7, s8, s9, by simp [forGo_nil, lratL]⟩
  | q :: qs, x, j, s6, s7, s8, s9, h, hq, hl => by
    rw [List.length_cons, Nat.mul_add] at hl
    have hh := hq q (by simp)
    have s := ov_sm hh h1 h2
    have k1 := ltimes_run (p := p) (n := n) h2 hh.w (by omega)
    have k2 := lplus_run (p := p) (n := n) h1 (h2.mul hh.w) (by omega)
    have k3 := lless_run (p := p) (n := n) (h1.add (h2.mul hh.w)) hh.p (by omega)
    have k4 := ltimes_run (p := p) (n := n) hh.f s (by omega)
    have k5 := lless_run (p := p) (n := n) h (hh.f.mul s) (by omega)
    have sn : Sm (j + 310) (if 0 < ovQ r q then x - q.1.1 * ovQ r q else x) := by
      split
      · exact (h.sub (hh.f.mul s)).mono (by omega)
      · exact h.mono (by omega)
    obtain ⟨s6', s7', s8', s9', ih⟩ := lrat_for hc h1 h2 l (s0 := s0) (s1 := s1) (s2 := s2) (qs := qs) (s6 := .val (fr q.2)) (s7 := .val (fr (ovQ r q))) (s8 := .val (fr q.1.1)) (s9 := .val (fr q.1.2)) sn (fun z hz => hq z (by simp [hz])) (by omega)
    refine ⟨s6', s7', s8', s9', ?_⟩
    rw [lratL, List.map_cons, forGo_cons, ← ih]
    have e : r.1 + r.2 * q.1.2 - q.2 = ovQ r q := rfl
    rw [e] at k3
    by_cases z : 0 < ovQ r q <;> simp [D588_1, forBody, asgT, asgTs, tapV, hc, k1, k2, k3, k4, k5, copE, num_pos, z]
theorem lrated_run {ts : List Tap} {ps : List Rat} {m r : Tap} {a b c d e : Nat} (hq : ∀ q ∈ ts.zip ps, QOk a b c q) (h1 : Sm d r.1) (h2 : Sm d r.2) (m1 : Sm e m.1) (m2 : Sm e m.2) (hl : ts.length ≤ 10) (l : a + 2 * d + b + c ≤ 300) (l2 : e ≤ 500) : run p (n + 3) 588 [bd ts, fl ps, tapV m, fr r.1, fr r.2] = pure (fr (ratedQ ts ps m r)) := by
  have k1 := ltimes_run (p := p) (n := n) h1 m1 (by omega)
  have k2 := ltimes_run (p := p) (n := n) h2 m2 (by omega)
  have k3 := lplus_run (p := p) (n := n) (h1.mul m1) (h2.mul m2) (by omega)
  have gl : (ts.zip ps).length ≤ 10 := by
    rw [List.length_zip]
    omega
  obtain ⟨s6', s7', s8', s9', w⟩ := lrat_for (p := p) (n := n) (r := r) (cc := ⟨run p (n + 2), p.cst⟩) rfl h1 h2 l (s0 := .val (bd ts)) (s1 := .val (fl ps)) (s2 := .val (tapV m)) (qs := ts.zip ps) (s6 := .emp) (s7 := .emp) (s8 := .emp) (s9 := .emp) ((h1.mul m1).add (h2.mul m2)) hq (by omega)
  rw [lratL_eq] at w
  rw [run, R.rated]
  simp [D588, start0, k1, k2, k3, zip2E_map, w, retF, ratedQ]
end
end Wt
/-! Lib7: loops with the pool; the pool's start; a law's loop. -/
namespace Wt
open PySem (Str)
theorem Tri.lcZ {n c : Nat} {f : PV → M (Option PV)} {G : Tap → Rat → Prop} : ∀ {ts : List Tap}, (∀ t ∈ ts, Tri n c (f (tapV t)) fun o => ∃ q, o = some (fr q) ∧ G t q) → Tri n (c * ts.length) (lcGo f (ts.map tapV)) fun ys => ∃ ss : List Rat, ys = ss.map fr ∧ ss.length = ts.length ∧ ∀ q ∈ ts.zip ss, G q.1 q.2
  | [], _ => by
    rw [List.map_nil, lcGo]
    exact (Tri.pure ⟨[], rfl, rfl, by simp⟩).more (by omega)
  | t :: ts, h => by
    rw [List.map_cons, lcGo]
    refine ((h t (by simp)).bind (c2 := c * ts.length + 0) fun o ⟨q, e, g⟩ => (Tri.lcZ fun z hz => h z (by simp [hz])).bind fun ys ⟨ss, e2, l, hg⟩ => ?_).more (by rw [List.length_cons, Nat.mul_add]; omega)
    subst e e2
    refine .pure ⟨q :: ss, rfl, by simp [l], fun z hz => ?_⟩
    rw [List.zip_cons_cons] at hz
    rcases List.mem_cons.mp hz with e | hz
    · rw [e]; exact g
    · exact hg z hz
theorem Tri.for_ {n c : Nat} {f : PV → Env → M Fl} {I : Env → Prop} : ∀ {xs : List PV} {env : Env}, (∀ x ∈ xs, ∀ env, I env → Tri n c (f x env) fun r => ∃ env', r = .nx env' ∧ I env') → I env → Tri n (c * xs.length) (forGo f xs env) fun r => ∃ env', r = .nx env' ∧ I env'
  | [], env, _, h => by
    rw [forGo_nil]
    exact (Tri.pure ⟨env, rfl, h⟩).more (by omega)
  | x :: xs, env, hf, h => by
    rw [forGo_cons]
    refine ((hf x (by simp) env h).bind (c2 := c * xs.length) fun r ⟨env', e, i⟩ => ?_).more (by rw [List.length_cons, Nat.mul_add]; omega)
    subst e
    rw [andThen_nx]
    exact Tri.for_ (fun y hy => hf y (by simp [hy])) i
theorem sum_zipWith_le : ∀ {ts : List Tap} {ps ss : List Rat} {r : Tap}, ps.length = ts.length → ss.length = ts.length → (∀ q ∈ ts.zip ss, 0 ≤ q.2 ∧ q.2 ≤ q.1.1) →
    r.1 * sumQ ss + r.2 * sumQ (dotL ss (ts.map (·.2))) - sumQ (gainL r (ts.zip ps)) ≤ sumQ (dotL ss ps)
  | [], [], [], r, _, _, _ => by
    simp [sumQ, dotL, gainL]
    grind
  | [], _ :: _, _, r, h, _, _ => by simp at h
  | [], _, _ :: _, r, _, h, _ => by simp at h
  | _ :: _, [], _, r, h, _, _ => by simp at h
  | _ :: _, _, [], r, _, h, _ => by simp at h
  | t :: ts, q :: ps, s :: ss, r, h1, h2, h3 => by
    have ih := sum_zipWith_le (ts := ts) (ps := ps) (ss := ss) (r := r) (by simpa using h1) (by simpa using h2) fun z hz => h3 z (by rw [List.zip_cons_cons]; exact List.mem_cons_of_mem _ hz)
    obtain ⟨s0, s1⟩ := h3 (t, s) (by rw [List.zip_cons_cons]; exact List.mem_cons_self)
    have key : s * ovQ r (t, q) ≤ t.1 * maxQ (ovQ r (t, q)) 0 := by
      by_cases z : 0 < ovQ r (t, q)
      · rw [maxQ_pos z]
        exact Rat.mul_le_mul_of_nonneg_right s1 (Rat.le_of_lt z)
      · rw [maxQ_neg z, Rat.mul_zero]
        have := Rat.mul_le_mul_of_nonneg_left (Rat.not_lt.mp z) s0
        rw [Rat.mul_zero] at this
        exact this
    simp only [dotL, gainL, List.map_cons, List.zip_cons_cons, sumQ] at ih ⊢
    unfold ovQ at key
    dsimp only at key
    have e : s * (r.1 + r.2 * t.2 - q) = r.1 * s + r.2 * (s * t.2) - s * q := by grind
    rw [e] at key
    have e2 : maxQ (ovQ r (t, q)) 0 = maxQ (r.1 + r.2 * t.2 - q) 0 := rfl
    rw [e2]
    generalize maxQ (r.1 + r.2 * t.2 - q) 0 = g at *
    generalize sumQ _ = u1 at *
    generalize sumQ _ = u2 at *
    generalize sumQ _ = u3 at *
    generalize sumQ _ = u4 at *
    grind
/-- the pool's start -/
class LawI (p : Prg) : Prop where
  pool : p.dt 434 = some D434
  i0 : (p.cst 6944).natAbs < 2 ^ 30
  i1 : (p.cst 6945).natAbs < 2 ^ 30
  i2 : 0 ≤ p.cst 6946 ∧ p.cst 6946 < 2 ^ 30
section
variable {p : Prg} [L : LawI p] {n : Nat}
theorem stir_for {c : Cc} {s0 s1 s2 : Slot} : ∀ {ns : List Int} {x : Int} {s4 : Slot}, 0 ≤ x → x < 2 ^ 31 → ∃ y s4', 0 ≤ y ∧ y < 2 ^ 31 ∧ forGo (forBody c (.nm 4) D434_1) (ns.map .int) [s0, s1, s2, .val (.int x), s4] = pure (.nx [s0, s1, s2, .val (.int y), s4'])
  | [], x, s4, h0, h1 => ⟨x, s4, h0, h1, by simp [forGo_nil]⟩
  | i :: ns, x, s4, h0, h1 => by
    have e1 : ∀ z : Int, z.fmod 2147483647 = z % 2147483647 := fun z => Int.fmod_eq_emod_of_nonneg z (by omega)
    have e2 : ∀ z : Int, z.fmod 2147483629 = z % 2147483629 := fun z => Int.fmod_eq_emod_of_nonneg z (by omega)
    obtain ⟨y, s4', y0, y1, ih⟩ := stir_for (c := c) (s0 := s0) (s1 := s1) (s2 := s2) (ns := ns) (x := (x * 48271 + i % 2147483629 + 11) % 2147483647) (s4 := .val (.int i)) (Int.emod_nonneg _ (by omega)) (by
      have := Int.emod_lt_of_pos (x * 48271 + i % 2147483629 + 11) (b := 2147483647) (by omega)
      omega)
    refine ⟨y, s4', y0, y1, ?_⟩
    have m1 : mulOk x 48271 = true := mulOk_of (a := 31) (b := 20) (by omega) (by decide) (by omega)
    rw [List.map_cons, forGo_cons, ← ih]
    simp [D434_1, forBody, asgT, biE, bopE, m1, e1, e2]
theorem cutE_ints (ns : List Int) (lo hi : Option Int) : ∃ ms : List Int, cutE (ns.map .int) lo hi = ms.map .int := by
  unfold cutE
  refine ⟨(ns.drop (sIx ns.length 0 lo)).take (sIx ns.length ns.length hi - sIx ns.length 0 lo), ?_⟩
  rw [List.length_map, ← List.map_drop, ← List.map_take]
theorem atE_ints {ns : List Int} {i : Int} (h0 : 0 ≤ i) (h1 : i < ns.length) : ∃ j, atE (ns.map .int) i = some (.int j) := by
  have hi : i.toNat < ns.length := by omega
  refine ⟨ns[i.toNat], ?_⟩
  unfold atE ixN
  rw [List.length_map, if_pos h0, if_pos h1]
  simp [hi]
theorem pool_end {c : Cc} {i y : Int} {s0 s1 s4 : Slot} {S : Sto} (y0 : 0 ≤ y) (y1 : y < 2 ^ 31) : ∃ S', (evB c (.cons (.set 3 (.op .mod (.bi .int (.cons (.op .add (.op .add (.op .mul (.var 3) (.int 69621)) (.op .mul (.op .mod (.bi .int (.cons (.var 2) .nil)) (.int 2147483629)) (.int 16807))) (.int 7)) .nil)) (.int 2147483647))) (.cons (.ret (.poolN (.cons (.ite (.or_ (.cons (.cmp .lt (.var 2) (.int 0)) (.cons (.cmp .ge (.var 2) (.op .pow (.int 10) (.int 18))) .nil))) (.bi .abs (.cons (.var 2) .nil)) (.int 0)) (.cons (.var 3) (.cons (.int 0) .nil))))) .nil)) [s0, s1, .val (.int i), .val (.int y), s4]).go S = .ok (.rt (.ref S.length)) S' ∧ PoolI S.length (2 ^ 1000) S' := by
  have e1 : ∀ z : Int, z.fmod 2147483647 = z % 2147483647 := fun z => Int.fmod_eq_emod_of_nonneg z (by omega)
  have e2 : ∀ z : Int, z.fmod 2147483629 = z % 2147483629 := fun z => Int.fmod_eq_emod_of_nonneg z (by omega)
  have m1 : mulOk y 69621 = true := mulOk_of (a := 31) (b := 20) (by omega) (by decide) (by omega)
  have n1 := Int.emod_nonneg i (b := 2147483629) (by omega)
  have n2 := Int.emod_lt_of_pos i (b := 2147483629) (by omega)
  have m2 : mulOk (i % 2147483629) 16807 = true := mulOk_of (a := 31) (b := 20) (by omega) (by decide) (by omega)
  generalize hW : (y * 69621 + i % 2147483629 * 16807 + 7) % 2147483647 = W
  have W0 : 0 ≤ W := by rw [← hW]; exact Int.emod_nonneg _ (by omega)
  have W1 : W < 2147483647 := by rw [← hW]; exact Int.emod_lt_of_pos _ (by omega)
  have fin : ∀ a : Int, 0 ≤ a → PoolI S.length (2 ^ 1000) (S ++ [[.int a, .int W, .int 0]]) := fun a ha => ⟨a, W, 0, by simp, ha, W0, by omega, by omega, by simp⟩
  by_cases z : i < 0
  · refine ⟨_, ?_, fin (-i) (by omega)⟩
    simp [-bind_pure_comp, biE, bopE, copE, m1, m2, e1, e2, hW, z, newRef, bind_go]
  · by_cases z2 : (1000000000000000000 : Int) ≤ i
    · refine ⟨_, ?_, fin i (by omega)⟩
      simp [-bind_pure_comp, biE, bopE, copE, m1, m2, e1, e2, hW, z, z2, newRef, bind_go]
    · refine ⟨_, ?_, fin 0 (by omega)⟩
      simp [-bind_pure_comp, biE, bopE, copE, m1, m2, e1, e2, hW, z, z2, newRef, bind_go]
theorem pool_run {ns : List Int} {lap : Int} (h0 : 0 ≤ lap) (h1 : lap < 1000) (S : Sto) : ∃ S', (run p (n + 1) 434 [.frz (ns.map .int), .int lap]).go S = .ok (.ref S.length) S' ∧ PoolI S.length (2 ^ 1000) S' := by
  have v2 := L.i2.1
  have w2 := L.i2.2
  have m0 : mulOk (p.cst 6944) lap = true := mulOk_of (a := 30) (b := 10) L.i0 (by omega) (by omega)
  have m1 : mulOk 7919 lap = true := mulOk_of (a := 13) (b := 10) (by decide) (by omega) (by omega)
  obtain ⟨ms, hms⟩ := cutE_ints ns none (some 63)
  have hst : ∃ x : Int, x = p.cst 6946 + 7919 * lap ∧ 0 ≤ x ∧ x < 2 ^ 31 := ⟨_, rfl, by omega, by omega⟩
  obtain ⟨x, hx, x0, x1⟩ := hst
  have cell : ∃ i : Int, ev ⟨run p n, p.cst⟩ (.ite (.cmp .lt (.var 1) (.bi .len (.cons (.var 0) .nil))) (.bi .int (.cons (.ix (.var 0) (.var 1)) .nil)) (.op .add (.op .mul (.cst 6944) (.var 1)) (.cst 6945))) [.val (.frz (ns.map .int)), .val (.int lap), .emp, .emp, .emp] = pure (.int i) := by
    by_cases z : lap < ns.length
    · obtain ⟨j, hj⟩ := atE_ints (ns := ns) h0 z
      refine ⟨j, ?_⟩
      have hix : ixM ⟨run p n, p.cst⟩ (.frz (ns.map .int)) (.int lap) = pure (.int j) := by
        show lift (atE _ _) = _
        rw [hj]
        rfl
      simp [biE, copE, z, hix]
    · exact ⟨_, by simp [biE, copE, z, bopE, m0]; rfl⟩
  obtain ⟨i, hi⟩ := cell
  obtain ⟨y, s4', y0, y1, w⟩ := stir_for (c := ⟨run p n, p.cst⟩) (s0 := .val (.frz (ns.map .int))) (s1 := .val (.int lap)) (s2 := .val (.int i)) (ns := ms) (x := x) (s4 := .emp) x0 x1
  obtain ⟨S', e, P⟩ := pool_end (c := ⟨run p n, p.cst⟩) (i := i) (y := y) (s0 := .val (.frz (ns.map .int))) (s1 := .val (.int lap)) (s4 := s4') (S := S) y0 y1
  refine ⟨S', ?_, P⟩
  rw [run, L.pool]
  simp only [D434, start0, List.map_cons, List.map_nil, List.length_cons, List.length_nil, if_pos]
  rw [evB_cons, evS_set]
  simp only [show [Slot.val (.frz (ns.map .int)), .val (.int lap)] ++ List.replicate (0 + 1 + 1 + 1 + 1 + 1 - (0 + 1 + 1)) Slot.emp = [.val (.frz (ns.map .int)), .val (.int lap), .emp, .emp, .emp] from rfl, hi]
  rw [pure_bindM, setI_lt (by simp), pure_bindM, andThen_nx, evB_cons]
  have hs3 : evS ⟨run p n, p.cst⟩ (.set 3 (.op .add (.cst 6946) (.op .mul (.int 7919) (.var 1)))) ([Slot.val (.frz (ns.map .int)), .val (.int lap), .emp, .emp, .emp].set 2 (.val (.int i))) = pure (.nx [.val (.frz (ns.map .int)), .val (.int lap), .val (.int i), .val (.int x), .emp]) := by
    simp [bopE, m1, hx]
  rw [hs3, pure_bindM, andThen_nx, evB_cons]
  have hfor : evS ⟨run p n, p.cst⟩ (.for_ (.nm 4) (.seq (.sl (.var 0) .no (.yes (.int 63)))) D434_1) [.val (.frz (ns.map .int)), .val (.int lap), .val (.int i), .val (.int x), .emp] = pure (.nx [.val (.frz (ns.map .int)), .val (.int lap), .val (.int i), .val (.int y), s4']) := by
    simp [slE, hms, w]
  rw [hfor, pure_bindM, andThen_nx, bind_go, e]
  rfl
end
/-! a law: each lap's pool, its _law_right -/
theorem lap_all {f : PV → M (Option PV)} : ∀ {xs : List PV}, (∀ x ∈ xs, ∀ S, ∃ S', (f x).go S = .ok (some (.bl true)) S') → ∀ S, ∃ S', (lcGo f xs).go S = .ok (xs.map fun _ => .bl true) S'
  | [], _, S => ⟨S, by rw [lcGo]; rfl⟩
  | x :: xs, h, S => by
    obtain ⟨S1, e1⟩ := h x (by simp) S
    obtain ⟨S2, e2⟩ := lap_all (xs := xs) (fun y hy => h y (by simp [hy])) S1
    exact ⟨S2, by rw [lcGo, bind_go, e1]; simp only [bind_go, e2]; rfl⟩
end Wt
/-! M69: k69's law, in plain Lean. -/
namespace Wt
open PySem (Str)
/-- a board, its prices, a setting of it -/
structure Row (ts : List Tap) (ps ss : List Rat) : Prop where
  l1 : 1 ≤ ts.length
  l2 : ts.length ≤ 8
  tap : ∀ t ∈ ts, TapOk t
  lp : ps.length = ts.length
  pp : ∀ q ∈ ps, 0 ≤ q
  sp : ∀ q ∈ ps, Sm 10 q
  ls : ss.length = ts.length
  zs : ∀ q ∈ ts.zip ss, Sm 8 q.2 ∧ 0 ≤ q.2 ∧ q.2 ≤ q.1.1
section
variable {ts : List Tap} {ps ss : List Rat}
theorem zip_mem {α β : Type} : ∀ {xs : List α} {ys : List β}, xs.length = ys.length → ∀ y ∈ ys, ∃ x, (x, y) ∈ xs.zip ys
  | [], [], _, y, h => by simp at h
  | [], _ :: _, h, _, _ => by simp at h
  | _ :: _, [], h, _, _ => by simp at h
  | x :: xs, z :: ys, h, y, hy => by
    rcases List.mem_cons.mp hy with e | hy
    · subst e
      exact ⟨x, by rw [List.zip_cons_cons]; exact List.mem_cons_self⟩
    · obtain ⟨x', hx⟩ := zip_mem (xs := xs) (ys := ys) (by simpa using h) y hy
      exact ⟨x', by rw [List.zip_cons_cons]; exact List.mem_cons_of_mem _ hx⟩
theorem Row.ss8 (R : Row ts ps ss) : ∀ q ∈ ss, Sm 8 q := fun q hq => by
  obtain ⟨t, ht⟩ := zip_mem R.ls.symm q hq
  exact (R.zs _ ht).1
theorem Row.ss0 (R : Row ts ps ss) : ∀ q ∈ ss, 0 ≤ q := fun q hq => by
  obtain ⟨t, ht⟩ := zip_mem R.ls.symm q hq
  exact (R.zs _ ht).2.1
theorem Row.pos (R : Row ts ps ss) : ∀ t ∈ ts, 0 < t.1 := fun t ht => (R.tap t ht).pos
theorem Row.z4 (R : Row ts ps ss) : ∀ q ∈ ts.zip ss, Sm 5 q.1.1 ∧ Sm 8 q.2 ∧ 0 ≤ q.2 ∧ q.2 ≤ q.1.1 := fun q hq => ⟨(R.tap _ (List.of_mem_zip (a := q.1) (b := q.2) hq).1).s1, R.zs q hq⟩
theorem Row.qok (R : Row ts ps ss) : ∀ q ∈ ts.zip ps, QOk 5 10 10 q := fun q hq => ⟨(R.tap _ (List.of_mem_zip (a := q.1) (b := q.2) hq).1).s1, (R.tap _ (List.of_mem_zip (a := q.1) (b := q.2) hq).1).s2, R.sp _ (List.of_mem_zip (a := q.1) (b := q.2) hq).2⟩
theorem sumQ_nonneg : ∀ {xs : List Rat}, (∀ x ∈ xs, 0 ≤ x) → 0 ≤ sumQ xs
  | [], _ => Rat.le_refl
  | x :: xs, h => Rat.add_nonneg (h x (by simp)) (sumQ_nonneg fun y hy => h y (by simp [hy]))
theorem sumQ_sm {k : Nat} {xs : List Rat} (h : ∀ x ∈ xs, Sm k x) : Sm (1 + (k + 1) * xs.length) (sumQ xs) := by
  have := Sm.sum (a := 0) (j := 1) sm0 h
  rw [sumL_eq, Rat.zero_add] at this
  exact this
theorem Row.sD (R : Row ts ps ss) : Sm 200 (sumQ (dotL ss ps)) := by
  refine (sumQ_sm (dotL_sm R.ss8 R.sp)).mono ?_
  rw [dotL_len]
  have := R.l2
  have := R.ls
  have h3 : min ss.length ps.length ≤ 8 := by omega
  have : (8 + 10 + 1) * min ss.length ps.length ≤ 19 * 8 := Nat.mul_le_mul (by omega) h3
  omega
theorem sumQ_scale (c : Rat) : ∀ (xs ys : List Rat), sumQ (dotL ys (xs.map fun x => x * c)) = sumQ (dotL ys xs) * c
  | [], ys => by simp [dotL, sumQ]
  | xs, [] => by simp [dotL, sumQ]
  | x :: xs, y :: ys => by
    have := sumQ_scale c xs ys
    simp only [dotL, List.map_cons, List.zip_cons_cons, sumQ] at this ⊢
    rw [this]
    grind
theorem sumQ_shift (c : Rat) : ∀ (xs ys : List Rat), xs.length = ys.length → sumQ (dotL (xs.map fun x => x + c) ys) = sumQ (dotL ys xs) + sumQ ys * c
  | [], [], _ => by simp [dotL, sumQ]; grind
  | [], _ :: _, h => by simp at h
  | _ :: _, [], h => by simp at h
  | x :: xs, y :: ys, h => by
    have := sumQ_shift c xs ys (by simpa using h)
    simp only [dotL, List.map_cons, List.zip_cons_cons, sumQ] at this ⊢
    rw [this]
    grind
theorem sumQ_zero : ∀ (xs : List Rat) (n : Nat), sumQ (dotL xs (List.replicate n 0)) = 0
  | [], n => by simp [dotL, sumQ]
  | x :: xs, 0 => by simp [dotL, sumQ]
  | x :: xs, n + 1 => by
    have := sumQ_zero xs n
    simp only [dotL, List.replicate_succ, List.zip_cons_cons, List.map_cons, sumQ] at this ⊢
    rw [this]
    grind
end
class L69 (p : Prg) : Prop extends Arith p, Chks p, Cost p, LawA p, LawP p, LawV p, LawS p, LawR p where
  right : p.dt 589 = some D589
section
variable {p : Prg} [I : L69 p] {N n : Nat}
def env9 (n : Nat) (ts : List Tap) (ps ss : List Rat) (s1 s6 s8 s9 s10 s11 s12 s13 s14 s15 s16 s17 s18 s19 s20 : Slot) : Env :=
  [.val (.ref n), s1, .val (bd ts), .val (fl ps), .val (fl ss), .val (fr (sumQ (dotL ss ps))), s6, .val (tapV (sumQ ss, sumQ (dotL ss (ts.map (·.2))))), s8, s9, s10, s11, s12, s13, s14, s15, s16, s17, s18, s19, s20]
def Inv9 (n : Nat) (ts : List Tap) (ps ss : List Rat) (env : Env) : Prop := ∃ s1 s6 s8 s9 s10 s11 s12 s13 s14 s15 s16 s17 s18 s19 s20, env = env9 n ts ps ss s1 s6 s8 s9 s10 s11 s12 s13 s14 s15 s16 s17 s18 s19 s20
theorem inner {ts : List Tap} {ps ss : List Rat} (R : Row ts ps ss) {x : PV} {env : Env} (h : Inv9 n ts ps ss env) : Tri n 9 (forBody ⟨run p (N + 14), p.cst⟩ (.nm 8) D589_1 x env) fun r => ∃ env', r = .nx env' ∧ Inv9 n ts ps ss env' := by
  obtain ⟨s1, s6, s8, s9, s10, s11, s12, s13, s14, s15, s16, s17, s18, s19, s20, rfl⟩ := h
  have sV : Sm 200 (sumQ ss) := (sumQ_sm R.ss8).mono (by have := R.ls; have := R.l2; omega)
  have sH : Sm 200 (sumQ (dotL ss (ts.map (·.2)))) := by
    have h2 : ∀ w ∈ ts.map (·.2), Sm 10 w := fun w hw => by
      obtain ⟨t, ht, rfl⟩ := List.mem_map.mp hw
      exact (R.tap t ht).s2
    refine (sumQ_sm (dotL_sm R.ss8 h2)).mono ?_
    rw [dotL_len, List.length_map]
    have := R.l2
    have h3 : min ss.length ts.length ≤ 8 := by omega
    have : (8 + 10 + 1) * min ss.length ts.length ≤ 19 * 8 := Nat.mul_le_mul (by omega) h3
    omega
  have sD : Sm 200 (sumQ (dotL ss ps)) := by
    refine (sumQ_sm (dotL_sm R.ss8 R.sp)).mono ?_
    rw [dotL_len]
    have := R.l2
    have := R.ls
    have h3 : min ss.length ps.length ≤ 8 := by omega
    have : (8 + 10 + 1) * min ss.length ps.length ≤ 19 * 8 := Nat.mul_le_mul (by omega) h3
    omega
  unfold forBody
  simp only [asgT, lift_some, pure_bindM, env9, List.set, D589_1, evB_cons]
  simp [-bind_pure_comp]
  refine Tri.more (Tri.bind (c1 := 2) (c2 := 7) (fraction_tri (N := N + 11) (low := -9) (high := 9) (by omega) (by omega) (by omega)) fun v ⟨one, e, _, _, so⟩ => ?_) (by omega)
  subst e
  refine Tri.bind (c1 := 2) (c2 := 5) (fraction_tri (N := N + 11) (low := -3) (high := 3) (by omega) (by omega) (by omega)) fun v ⟨two, e, _, _, st⟩ => ?_
  subst e
  simp [-bind_pure_comp, parE]
  have hk : ∀ {m : Tap} {e : Nat}, 0 ≤ m.1 → Sm e m.1 → Sm e m.2 → e ≤ 500 → run p (N + 14) 480 [bd ts, fl ps, tapV m, fr one, fr two] = pure (fr (ratedQ ts ps m (one, two))) := fun h0 h1 h2 he =>
    rated_run (p := p) (n := N + 3) (r := (one, two)) R.pos R.l1 R.l2 R.lp R.pp h0 R.qok so st h1 h2 (by omega) he
  have hl : ∀ {m : Tap} {e : Nat}, Sm e m.1 → Sm e m.2 → e ≤ 500 → run p (N + 14) 588 [bd ts, fl ps, tapV m, fr one, fr two] = pure (fr (ratedQ ts ps m (one, two))) := fun h1 h2 he =>
    lrated_run (p := p) (n := N + 11) (r := (one, two)) R.qok so st h1 h2 (by have := R.l2; omega) (by omega) he
  have hs : ∀ q, run p (N + 14) 570 [fr q, fr q] = pure (.bl true) := fun q => same_fr (p := p) (n := N + 12)
  have hz : ∀ q ∈ ts.zip ps, QOk 5 10 10 q := R.qok
  have gl : (gainL (one, two) (ts.zip ps)).length ≤ 8 := by
    rw [gainL, List.length_map, List.length_zip]
    have := R.l2
    omega
  have sg : Sm 400 (sumQ (gainL (one, two) (ts.zip ps))) := (sumQ_sm (gain_sm hz so st)).mono (by omega)
  have sr : Sm 900 (ratedQ ts ps (sumQ ss, sumQ (dotL ss (ts.map (·.2)))) (one, two)) := (((so.mul sV).add (st.mul sH)).sub sg).mono (by omega)
  have hd := lisless_run (p := p) (n := N + 13) sD sr (by omega)
  have hw : ¬ (sumQ (dotL ss ps) < ratedQ ts ps (sumQ ss, sumQ (dotL ss (ts.map (·.2)))) (one, two)) := by
    have := sum_zipWith_le (r := (one, two)) R.lp R.ls fun q hq => (R.zs q hq).2
    exact Rat.not_lt.mpr this
  rw [decide_eq_false hw] at hd
  have k1 := hk (m := (sumQ ss, sumQ (dotL ss (ts.map (·.2))))) (sumQ_nonneg R.ss0) sV sH (by omega)
  have k2 := hl (m := (sumQ ss, sumQ (dotL ss (ts.map (·.2))))) sV sH (by omega)
  refine Tri.bind (c1 := 1) (c2 := 4) (below_tri (N := N + 13) (by omega) (by omega)) fun v ⟨r, e, _, _⟩ => ?_
  subst e
  simp [-bind_pure_comp, copE, datB, PV.dat, k1, k2, hs, hd]
  refine Tri.bind (c1 := 2) (c2 := 2) (flow_tri (N := N + 11)) fun v ⟨of, e, o0, o1⟩ => ?_
  subst e
  refine Tri.bind (c1 := 2) (c2 := 0) (fraction_tri (N := N + 11) (low := -9) (high := 9) (by omega) (by omega) (by omega)) fun v ⟨ow, e, _, _, o2⟩ => ?_
  subst e
  have k3 : run p (N + 14) 480 [bd ts, fl ps, .tup [fr of, fr ow], fr one, fr two] = _ := hk (m := (of, ow)) (e := 10) (Rat.le_of_lt o0) (o1.mono (by omega)) o2 (by omega)
  have k4 : run p (N + 14) 588 [bd ts, fl ps, .tup [fr of, fr ow], fr one, fr two] = _ := hl (m := (of, ow)) (e := 10) (o1.mono (by omega)) o2 (by omega)
  simp [-bind_pure_comp, k3, k4, hs]
  exact .pure ⟨_, rfl, s1, s6, .val x, s9, s10, s11, _, _, _, _, s16, s17, s18, s19, s20, rfl⟩
def InvO (n : Nat) (env : Env) : Prop := ∃ s1 s2 s3 s4 s5 s6 s7 s8 s9 s10 s11 s12 s13 s14 s15 s16 s17 s18 s19 s20, env = [.val (.ref n), s1, s2, s3, s4, s5, s6, s7, s8, s9, s10, s11, s12, s13, s14, s15, s16, s17, s18, s19, s20]
theorem div_sm {u b : Int} (hu : u.natAbs < 8) (hb : 0 < b) (hb2 : b < 8) : Sm 3 (Rat.divInt u b) := sm_divInt (by omega) (by omega) (by omega)
theorem share_ok {f : Rat} (hf : 0 < f) (sf : Sm 5 f) {u : Int} (h0 : 0 ≤ u) (h1 : u ≤ 4) : Sm 8 (f * Rat.divInt u 4) ∧ 0 ≤ f * Rat.divInt u 4 ∧ f * Rat.divInt u 4 ≤ f := by
  have d0 : 0 ≤ Rat.divInt u 4 := Rat.divInt_nonneg h0 (by omega)
  have e := divInt_mul (a := u) (b := 4) (by omega)
  have d1 : Rat.divInt u 4 ≤ 1 := by
    have : (u : Rat) ≤ (4 : Int) := Rat.intCast_le_intCast.mpr h1
    rw [← e] at this
    refine Rat.le_of_mul_le_mul_right (c := ((4 : Int) : Rat)) ?_ (Rat.intCast_pos.mpr (by omega))
    rw [Rat.one_mul]
    exact this
  refine ⟨(sf.mul (div_sm (by omega) (by omega) (by omega))).mono (by omega), Rat.mul_nonneg (Rat.le_of_lt hf) d0, ?_⟩
  have := Rat.mul_le_mul_of_nonneg_left d1 (Rat.le_of_lt hf)
  rw [Rat.mul_one] at this
  exact this
@[simp] theorem datB_fr (q : Rat) : datB (fr q) = true := rfl
@[simp] theorem dat_fr (q : Rat) : PV.dat 60 (fr q) = true := rfl
@[simp] theorem eqv_fr0 : PV.eqv (fr 0) (.tup [.int 0, .int 1]) = true := by decide +kernel
@[simp] theorem eqv_fr (q : Rat) : PV.eqv (fr q) (fr q) = true := by simp [fr, PV.eqv, PV.eqvs]
theorem cost_any {ts : List Tap} {ps ss : List Rat} (l1 : 1 ≤ ts.length) (l2 : ts.length ≤ 8) (tk : ∀ t ∈ ts, TapOk t) (lp : ps.length = ts.length) (pp : ∀ q ∈ ps, 0 ≤ q) (sp : ∀ q ∈ ps, Sm 16 q) (ls : ss.length = ts.length) (zs : ∀ q ∈ ts.zip ss, Sm 16 q.2 ∧ 0 ≤ q.2 ∧ q.2 ≤ q.1.1) : run p (N + 14) 476 [bd ts, fl ps, fl ss] = pure (fr (sumQ (dotL ss ps))) := by
  rw [dotL_comm]
  exact cost_run (p := p) (n := N + 4) (fun t ht => (tk t ht).pos) l1 l2 lp pp ls (fun q hq => ⟨(tk _ (List.of_mem_zip (a := q.1) (b := q.2) hq).1).s1, zs q hq⟩) sp (fun q hq => by
    obtain ⟨t, ht⟩ := zip_mem ls.symm q hq
    exact (zs _ ht).1) (by omega) (by omega)
theorem zip_map_mem {α β γ : Type} {f : β → γ} : ∀ {xs : List α} {ys : List β} {q : α × γ}, q ∈ xs.zip (ys.map f) → ∃ y, (q.1, y) ∈ xs.zip ys ∧ q.2 = f y
  | [], _, q, h => by simp at h
  | _ :: _, [], q, h => by simp at h
  | x :: xs, y :: ys, q, h => by
    rw [List.map_cons, List.zip_cons_cons] at h
    rcases List.mem_cons.mp h with e | h
    · subst e
      exact ⟨y, by rw [List.zip_cons_cons]; exact List.mem_cons_self, rfl⟩
    · obtain ⟨z, h1, h2⟩ := zip_map_mem h
      exact ⟨z, by rw [List.zip_cons_cons]; exact List.mem_cons_of_mem _ h1, h2⟩
theorem outer {x : PV} {env : Env} (h : InvO n env) : Tri n 86 (forBody ⟨run p (N + 14), p.cst⟩ (.nm 1) D589_2 x env) fun r => ∃ env', r = .nx env' ∧ InvO n env' := by
  obtain ⟨s1, s2, s3, s4, s5, s6, s7, s8, s9, s10, s11, s12, s13, s14, s15, s16, s17, s18, s19, s20, rfl⟩ := h
  unfold forBody
  simp only [asgT, lift_some, pure_bindM, List.set, D589_2, evB_cons]
  simp [-bind_pure_comp]
  refine Tri.more (Tri.bind (c1 := 34) (c2 := 52) (board_tri (N := N + 10) (most := 8) (by omega) (by omega)) fun v ⟨ts, e, l1, l2, tk⟩ => ?_) (by omega)
  subst e
  have l2' : ts.length ≤ 8 := by omega
  simp [-bind_pure_comp]
  -- the prices
  have lcp : Tri n 16 (noerr (lcGo (lcBody ⟨run p (N + 14), p.cst⟩ (.call 443 (.cons (.var 0) (.cons (.int 0) (.cons (.int 6) .nil)))) (.nm 16) .no [16] [.val (.ref n), .val x, .val (bd ts), s3, s4, s5, s6, s7, s8, s9, s10, s11, s12, s13, s14, s15, s16, s17, s18, s19, s20]) (ts.map tapV)))
      fun ys => ∃ ps : List Rat, ys = ps.map fr ∧ ps.length = ts.length ∧ ∀ q ∈ ts.zip ps, 0 ≤ q.2 ∧ Sm 10 q.2 := by
    refine Tri.more (c1 := 2 * ts.length) (Tri.noerr (Tri.lcZ (c := 2) (G := fun _ q => 0 ≤ q ∧ Sm 10 q) fun t ht => ?_)) (by omega)
    simp [-bind_pure_comp, lcBody, asgT, wipeE]
    refine Tri.bind (c1 := 2) (c2 := 0) (fraction_tri (N := N + 11) (low := 0) (high := 6) (by omega) (by omega) (by omega)) fun v ⟨q, e, h0, _, h2⟩ => ?_
    exact .pure ⟨q, by rw [e], h0, h2⟩
  refine Tri.bind (c1 := 16) (c2 := 36) lcp fun ys ⟨ps, e, lp, hp⟩ => ?_
  subst e
  have e1 : ∀ qs : List Rat, biE .tuple [.lst (qs.map fr)] = some (fl qs) := fun qs => rfl
  simp [-bind_pure_comp, e1]
  -- the setting
  have lcs : Tri n 8 (noerr (lcGo (lcBody ⟨run p (N + 14), p.cst⟩ (.call 449 (.cons (.var 17) (.cons (.tup (.cons (.call 458 (.cons (.var 0) (.cons (.tup (.cons (.int 0) (.cons (.int 1) (.cons (.int 2) (.cons (.int 4) .nil))))) .nil))) (.cons (.int 4) .nil))) .nil))) (.tp [(.nm 17), (.nm 18)]) .no [17, 18] [.val (.ref n), .val x, .val (bd ts), .val (fl ps), s4, s5, s6, s7, s8, s9, s10, s11, s12, s13, s14, s15, s16, s17, s18, s19, s20]) (ts.map tapV)))
      fun ys => ∃ ss : List Rat, ys = ss.map fr ∧ ss.length = ts.length ∧ ∀ q ∈ ts.zip ss, Sm 8 q.2 ∧ 0 ≤ q.2 ∧ q.2 ≤ q.1.1 := by
    refine Tri.more (c1 := 1 * ts.length) (Tri.noerr (Tri.lcZ (c := 1) (G := fun t q => Sm 8 q ∧ 0 ≤ q ∧ q ≤ t.1) fun t ht => ?_)) (by omega)
    have ht' := tk t ht
    simp [-bind_pure_comp, lcBody, asgT, asgTs, tapV, wipeE]
    refine Tri.bind (c1 := 1) (c2 := 0) (one_tri (N := N + 12) (by simp) (by simp)) fun v hv => ?_
    obtain ⟨u, rfl, u0, u1⟩ : ∃ u : Int, v = .int u ∧ 0 ≤ u ∧ u ≤ 4 := by
      simp at hv
      rcases hv with rfl | rfl | rfl | rfl <;> exact ⟨_, rfl, by omega, by omega⟩
    have k := ltimes_raw (p := p) (n := N + 12) (u := u) (b := 4) ht'.s1 (by omega) (by omega) (by omega) (by omega)
    have k' : run p (N + 14) 449 [fr t.1, .tup [.int u, .int 4]] = _ := k
    simp [-bind_pure_comp, k']
    exact .pure ⟨_, rfl, share_ok ht'.pos ht'.s1 u0 u1⟩
  refine Tri.bind (c1 := 8) (c2 := 28) lcs fun ys ⟨ss, e, ls, hs⟩ => ?_
  subst e
  have R : Row ts ps ss := ⟨l1, l2', fun t ht => tk t ht, lp, fun q hq => by
      obtain ⟨t, ht⟩ := zip_mem lp.symm q hq
      exact (hp _ ht).1, fun q hq => by
      obtain ⟨t, ht⟩ := zip_mem lp.symm q hq
      exact (hp _ ht).2, ls, hs⟩
  simp [-bind_pure_comp, e1]
  -- due
  have lcd : ∀ env : Env, env.length = 21 → lcGo (lcBody ⟨run p (N + 14), p.cst⟩ (.call 449 (.cons (.var 19) (.cons (.var 20) .nil))) (.tp [(.nm 19), (.nm 20)]) .no [19, 20] env) (zip2E (ss.map fr) (ps.map fr)) = pure ((dotL ss ps).map fr) := fun env he => by
    rw [zip2E_map, dotL, List.map_map]
    refine lcGo_enc _ _ fun q hq => ?_
    have k := ltimes_run (p := p) (n := N + 12) (R.ss8 _ (List.of_mem_zip (a := q.1) (b := q.2) hq).1) (R.sp _ (List.of_mem_zip (a := q.1) (b := q.2) hq).2) (by omega)
    simp [lcBody, asgT, asgTs, wipeE, he, k]
  have sD : Sm 200 (sumQ (dotL ss ps)) := R.sD
  have kd : run p (N + 14) 451 [.lst ((dotL ss ps).map fr)] = pure (fr (sumQ (dotL ss ps))) := lsum_run (p := p) (n := N + 11) rfl (dotL_sm R.ss8 R.sp) (by
    rw [dotL_len]
    have h3 : min ss.length ps.length ≤ 8 := by omega
    have : (8 + 10 + 1) * min ss.length ps.length ≤ 19 * 8 := Nat.mul_le_mul (by omega) h3
    omega)
  simp [-bind_pure_comp, -List.map_map, lcd, kd]
  have hss : ∀ q ∈ ss, Sm 8 q := R.ss8
  have hps : ∀ q ∈ ps, Sm 10 q := R.sp
  have d12 : Sm 3 (Rat.divInt 1 2) := div_sm (by omega) (by omega) (by omega)
  have d23 : Sm 3 (Rat.divInt 2 3) := div_sm (by omega) (by omega) (by omega)
  have p12 : 0 ≤ Rat.divInt 1 2 := Rat.divInt_nonneg (by omega) (by omega)
  have p23 : 0 ≤ Rat.divInt 2 3 := Rat.divInt_nonneg (by omega) (by omega)
  have kc := cost_any (p := p) (N := N) R.l1 R.l2 R.tap R.lp R.pp (fun q hq => (hps q hq).mono (by omega)) R.ls fun q hq => ⟨(R.zs q hq).1.mono (by omega), (R.zs q hq).2⟩
  have kch : run p (N + 14) 476 [bd ts, fl ps, fl (ss.map fun s => s * Rat.divInt 1 2)] = pure (fr (sumQ (dotL ss ps) * Rat.divInt 1 2)) := by
    have k := cost_any (p := p) (N := N) (ss := ss.map fun s => s * Rat.divInt 1 2) R.l1 R.l2 R.tap R.lp R.pp (fun q hq => (hps q hq).mono (by omega)) (by rw [List.length_map]; exact R.ls) fun q hq => by
      obtain ⟨y, hy, e⟩ := zip_map_mem hq
      obtain ⟨z1, z2, z3⟩ := R.zs _ hy
      rw [e]
      refine ⟨(z1.mul d12).mono (by omega), Rat.mul_nonneg z2 p12, ?_⟩
      have h12 : Rat.divInt 1 2 ≤ 1 := by decide +kernel
      have := Rat.mul_le_mul_of_nonneg_left h12 z2
      rw [Rat.mul_one] at this
      exact Rat.le_trans this z3
    rw [dotL_comm, sumQ_scale, dotL_comm] at k
    exact k
  have kcz : run p (N + 14) 476 [bd ts, fl ps, .tup (List.replicate ts.length (.tup [.int 0, .int 1]))] = pure (fr 0) := by
    have k := cost_any (p := p) (N := N) (ss := List.replicate ts.length 0) R.l1 R.l2 R.tap R.lp R.pp (fun q hq => (hps q hq).mono (by omega)) (by simp) fun q hq => by
      have h2 := (List.of_mem_zip (a := q.1) (b := q.2) hq).2
      have e : q.2 = 0 := (List.mem_replicate.mp h2).2
      rw [e]
      exact ⟨sm0, Rat.le_refl, Rat.le_of_lt (R.pos _ (List.of_mem_zip (a := q.1) (b := q.2) hq).1)⟩
    rw [dotL_comm, sumQ_zero] at k
    have e : fl (List.replicate ts.length 0) = .tup (List.replicate ts.length (.tup [.int 0, .int 1])) := by
      unfold fl
      rw [List.map_replicate]
      rfl
    rw [e] at k
    exact k
  have kcm : run p (N + 14) 476 [bd ts, fl (ps.map fun q => q + Rat.divInt 2 3), fl ss] = pure (fr (sumQ (dotL ss ps) + sumQ ss * Rat.divInt 2 3)) := by
    have k := cost_any (p := p) (N := N) (ps := ps.map fun q => q + Rat.divInt 2 3) R.l1 R.l2 R.tap (by rw [List.length_map]; exact R.lp) (fun q hq => by
      obtain ⟨y, hy, e⟩ := List.mem_map.mp hq
      rw [← e]
      exact Rat.add_nonneg (R.pp y hy) p23) (fun q hq => by
      obtain ⟨y, hy, e⟩ := List.mem_map.mp hq
      rw [← e]
      exact ((hps y hy).add d23).mono (by omega)) R.ls fun q hq => ⟨(R.zs q hq).1.mono (by omega), (R.zs q hq).2⟩
    rw [dotL_comm, sumQ_shift _ _ _ (by rw [lp, ls])] at k
    exact k
  have lch : ∀ env : Env, env.length = 21 → lcGo (lcBody ⟨run p (N + 14), p.cst⟩ (.call 449 (.cons (.var 19) (.cons (.tup (.cons (.int 1) (.cons (.int 2) .nil))) .nil))) (.nm 19) .no [19] env) (ss.map fr) = pure ((ss.map fun s => s * Rat.divInt 1 2).map fr) := fun env he => by
    rw [List.map_map]
    refine lcGo_enc _ _ fun q hq => ?_
    have k : run p (N + 14) 449 [fr q, .tup [.int 1, .int 2]] = _ := ltimes_raw (p := p) (n := N + 12) (u := 1) (b := 2) (hss q hq) (by omega) (by omega) (by omega) (by omega)
    simp [lcBody, asgT, asgTs, wipeE, he, k]
  have lcm : ∀ env : Env, env.length = 21 → lcGo (lcBody ⟨run p (N + 14), p.cst⟩ (.call 455 (.cons (.var 20) (.cons (.tup (.cons (.int 2) (.cons (.int 3) .nil))) .nil))) (.nm 20) .no [20] env) (ps.map fr) = pure ((ps.map fun s => s + Rat.divInt 2 3).map fr) := fun env he => by
    rw [List.map_map]
    refine lcGo_enc _ _ fun q hq => ?_
    have k : run p (N + 14) 455 [fr q, .tup [.int 2, .int 3]] = _ := lplus_raw (p := p) (n := N + 12) (u := 2) (b := 3) (hps q hq) (by omega) (by omega) (by omega) (by omega)
    simp [lcBody, asgT, asgTs, wipeE, he, k]
  have lcx : ∀ env : Env, env.length = 21 → lcGo (lcBody ⟨run p (N + 14), p.cst⟩ (.call 449 (.cons (.var 19) (.cons (.var 18) .nil))) (.tp [(.nm 19), (.tp [(.nm 17), (.nm 18)])]) .no [19, 17, 18] env) (zip2E (ss.map fr) (ts.map tapV)) = pure ((dotL ss (ts.map (·.2))).map fr) := fun env he => by
    have e : dotL ss (ts.map (·.2)) = (ss.zip ts).map fun q => q.1 * q.2.2 := by
      unfold dotL
      rw [List.zip_map_right, List.map_map]
      rfl
    rw [zip2E_map, e, List.map_map]
    refine lcGo_enc _ _ fun q hq => ?_
    have hm := List.of_mem_zip (a := q.1) (b := q.2) hq
    have k := ltimes_run (p := p) (n := N + 12) (hss _ hm.1) (tk _ hm.2).s2 (by omega)
    simp [lcBody, asgT, asgTs, tapV, wipeE, he, k]
  have kdh : run p (N + 14) 449 [fr (sumQ (dotL ss ps)), .tup [.int 1, .int 2]] = pure (fr (sumQ (dotL ss ps) * Rat.divInt 1 2)) := ltimes_raw (p := p) (n := N + 12) (u := 1) (b := 2) sD (by omega) (by omega) (by omega) (by omega)
  have sV : Sm 200 (sumQ ss) := (sumQ_sm hss).mono (by omega)
  have kv : run p (N + 14) 451 [fl ss] = pure (fr (sumQ ss)) := lsum_run (p := p) (n := N + 11) rfl hss (by omega)
  have kv2 : run p (N + 14) 449 [fr (sumQ ss), .tup [.int 2, .int 3]] = pure (fr (sumQ ss * Rat.divInt 2 3)) := ltimes_raw (p := p) (n := N + 12) (u := 2) (b := 3) sV (by omega) (by omega) (by omega) (by omega)
  have kv3 : run p (N + 14) 455 [fr (sumQ (dotL ss ps)), fr (sumQ ss * Rat.divInt 2 3)] = pure (fr (sumQ (dotL ss ps) + sumQ ss * Rat.divInt 2 3)) := lplus_run (p := p) (n := N + 12) sD (sV.mul d23) (by omega)
  have hw2 : ∀ w ∈ ts.map (·.2), Sm 10 w := fun w hw => by
    obtain ⟨t, ht, rfl⟩ := List.mem_map.mp hw
    exact (tk t ht).s2
  have kh : run p (N + 14) 451 [.lst ((dotL ss (ts.map (·.2))).map fr)] = pure (fr (sumQ (dotL ss (ts.map (·.2))))) := lsum_run (p := p) (n := N + 11) rfl (dotL_sm hss hw2) (by
    rw [dotL_len, List.length_map]
    have h3 : min ss.length ts.length ≤ 8 := by omega
    have : (8 + 10 + 1) * min ss.length ts.length ≤ 19 * 8 := Nat.mul_le_mul (by omega) h3
    omega)
  have hsame : ∀ q, run p (N + 14) 570 [fr q, fr q] = pure (.bl true) := fun q => same_fr (p := p) (n := N + 12)
  have hrep : bopE .mul (.tup [.tup [.int 0, .int 1]]) (.int ts.length) = some (.tup (List.replicate ts.length (.tup [.int 0, .int 1]))) := by
    show (if 1 ≤ (ts.length : Int) ∧ (ts.length : Int) ≤ 1000 ∧ 1 ≤ [PV.tup [.int 0, .int 1]].length ∧ [PV.tup [.int 0, .int 1]].length ≤ 1000 then some (PV.tup (List.replicate (ts.length : Int).toNat [PV.tup [.int 0, .int 1]]).flatten) else none) = _
    rw [if_pos ⟨by omega, by omega, by simp, by simp⟩]
    simp
  refine Tri.bind (c1 := 1) (c2 := 27) (below_tri (N := N + 13) (by omega) (by omega)) fun v ⟨r, e, _, _⟩ => ?_
  subst e
  simp [-bind_pure_comp, -List.map_map, copE, datB, PV.dat, PV.dats, kc, lch, lcm, parE, e1, hsame, kch, kdh, hrep, kcz, kcm, kv, kv2, kv3, lcx, kh]
  have w3 : Tri n (9 * (rngE 0 3).length) (forGo (forBody ⟨run p (N + 14), p.cst⟩ (.nm 8) D589_1) (rngE 0 3) (env9 n ts ps ss (.val x) (.val (fr (sumQ (dotL ss ps)))) s8 s9 (.val (fl (ss.map fun s => s * Rat.divInt 1 2))) (.val (fl (ps.map fun s => s + Rat.divInt 2 3))) s12 s13 s14 s15 s16 s17 s18 s19 s20)) fun r => ∃ env', r = .nx env' ∧ Inv9 n ts ps ss env' :=
    Tri.for_ (fun x _ env h => inner (p := p) (N := N) R h) ⟨_, _, _, _, _, _, _, _, _, _, _, _, _, _, _, rfl⟩
  rw [rngE_len] at w3
  refine Tri.bind (c1 := 27) (c2 := 0) w3 fun r ⟨env', e, h⟩ => ?_
  subst e
  obtain ⟨s1, s6, s8, s9, s10, s11, s12, s13, s14, s15, s16, s17, s18, s19, s20, rfl⟩ := h
  rw [andThen_nx, evB_nil]
  exact .pure ⟨_, rfl, _, _, _, _, _, _, _, _, _, _, _, _, _, _, _, _, _, _, _, _, rfl⟩
/-- _law_right -/
theorem right {k : Nat} {S : Sto} (f1 : run p (N + 14) 476 [.tup [.tup [.tup [.int 3, .int 1], .tup [.int 60, .int 1]], .tup [.tup [.int 2, .int 1], .tup [.int 20, .int 1]], .tup [.tup [.int 5, .int 1], .tup [.int 10, .int 1]]], .tup [.tup [.int 5, .int 1], .tup [.int 2, .int 1], .tup [.int 0, .int 1]], .tup [.tup [.int 3, .int 2], .tup [.int 2, .int 1], .tup [.int 0, .int 1]]] = pure (.tup [.int 23, .int 2]))
    (f2 : run p (N + 14) 480 [.tup [.tup [.tup [.int 3, .int 1], .tup [.int 60, .int 1]], .tup [.tup [.int 2, .int 1], .tup [.int 20, .int 1]], .tup [.tup [.int 5, .int 1], .tup [.int 10, .int 1]]], .tup [.tup [.int 5, .int 1], .tup [.int 2, .int 1], .tup [.int 0, .int 1]], .tup [.tup [.int 4, .int 1], .tup [.int 120, .int 1]], .tup [.int (-1), .int 1], .tup [.int 1, .int 10]] = pure (.tup [.int 8, .int 1])) (hk : 16 * 86 ≤ k) (hS : PoolI n k S) : ∃ S', (run p (N + 15) 589 [.ref n]).go S = .ok (.bl true) S' := by
  have w : Tri n (86 * (rngE 0 16).length) (forGo (forBody ⟨run p (N + 14), p.cst⟩ (.nm 1) D589_2) (rngE 0 16) (start0 D589 [.ref n])) fun r => ∃ env', r = .nx env' ∧ InvO n env' :=
    Tri.for_ (I := InvO n) (fun x _ env h => outer (N := N) h) ⟨_, _, _, _, _, _, _, _, _, _, _, _, _, _, _, _, _, _, _, _, rfl⟩
  rw [rngE_len] at w
  obtain ⟨r, S1, e, _, env', rfl, s1, s2, s3, s4, s5, s6, s7, s8, s9, s10, s11, s12, s13, s14, s15, s16, s17, s18, s19, s20, rfl⟩ := w (k - 16 * 86) S (by
    have : k - 16 * 86 + 86 * 16 = k := by omega
    rw [this]
    exact hS)
  refine ⟨S1, ?_⟩
  rw [run, I.right]
  have h0 : evS ⟨run p (N + 14), p.cst⟩ (.for_ (.nm 1) (.rng1 (.int 16)) D589_2) (start0 D589 [.ref n]) = forGo (forBody ⟨run p (N + 14), p.cst⟩ (.nm 1) D589_2) (rngE 0 16) (start0 D589 [.ref n]) := by
    simp
  show ((evB ⟨run p (N + 14), p.cst⟩ D589.body (start0 D589 [.ref n]) >>= fun r => Pure.pure (retF r))).go S = _
  have h1 : D589.body = .cons (.for_ (.nm 1) (.rng1 (.int 16)) D589_2) (match D589.body with | .cons _ b => b | b => b) := rfl
  rw [h1, evB_cons, h0, bind_assoc, bind_go, e]
  simp [-bind_pure_comp, D589, asgT, asgTs, f1, f2, copE, datB, PV.dat, PV.dats, PV.eqv, PV.eqvs, retF]
theorem noerr_ok {α : Type} {m : M α} {S S' : Sto} {a : α} (e : m.go S = .ok a S') : (noerr m).go S = .ok a S' := by
  unfold noerr
  dsimp only
  rw [e]
theorem rngE_mem {m : Nat} {x : PV} (h : x ∈ rngE 0 m) : ∃ i : Nat, x = .int (i : Int) ∧ i < m := by
  unfold rngE at h
  obtain ⟨i, hi, rfl⟩ := List.mem_map.mp h
  exact ⟨i, by simp, List.mem_range.mp hi⟩
theorem all_true {α : Type} (xs : List α) : asBs (xs.map fun _ => PV.bl true) = some (xs.map fun _ => true) := asBs_all (fun _ => true) xs
theorem law590 [J : LawI p] (hd : p.dt 590 = some D590) (f1 : run p (N + 14) 476 [.tup [.tup [.tup [.int 3, .int 1], .tup [.int 60, .int 1]], .tup [.tup [.int 2, .int 1], .tup [.int 20, .int 1]], .tup [.tup [.int 5, .int 1], .tup [.int 10, .int 1]]], .tup [.tup [.int 5, .int 1], .tup [.int 2, .int 1], .tup [.int 0, .int 1]], .tup [.tup [.int 3, .int 2], .tup [.int 2, .int 1], .tup [.int 0, .int 1]]] = pure (.tup [.int 23, .int 2]))
    (f2 : run p (N + 14) 480 [.tup [.tup [.tup [.int 3, .int 1], .tup [.int 60, .int 1]], .tup [.tup [.int 2, .int 1], .tup [.int 20, .int 1]], .tup [.tup [.int 5, .int 1], .tup [.int 10, .int 1]]], .tup [.tup [.int 5, .int 1], .tup [.int 2, .int 1], .tup [.int 0, .int 1]], .tup [.tup [.int 4, .int 1], .tup [.int 120, .int 1]], .tup [.int (-1), .int 1], .tup [.int 1, .int 10]] = pure (.tup [.int 8, .int 1])) (ns : List Int) (hl : ns.length ≤ 63) :
    ∃ S, (run p (N + 16) 590 [.frz (ns.map .int)]).go [] = .ok (.bl true) S := by
  obtain ⟨m, hm, m0, m1⟩ : ∃ m : Int, m = (if (if (3 : Int) < ns.length then 3 else (ns.length : Int)) > 1 then (if (3 : Int) < ns.length then 3 else (ns.length : Int)) else 1) ∧ 0 ≤ m ∧ m ≤ 3 := ⟨_, rfl, by split <;> split <;> omega, by split <;> split <;> omega⟩
  have lc := lap_all (f := lcBody ⟨run p (N + 15), p.cst⟩ (.call 589 (.cons (.call 434 (.cons (.var 0) (.cons (.var 1) .nil))) .nil)) (.nm 1) .no [1] [.val (.frz (ns.map .int)), .emp]) (xs := rngE 0 m.toNat) (fun x hx S => by
    obtain ⟨i, rfl, hi⟩ := rngE_mem hx
    obtain ⟨S1, e1, P1⟩ := pool_run (p := p) (n := N + 14) (ns := ns) (lap := (i : Int)) (by omega) (by omega) S
    obtain ⟨S2, e2⟩ := right (p := p) (N := N) (k := 2 ^ 1000) f1 f2 (Nat.le_trans (show 16 * 86 ≤ 2 ^ 20 by decide) (Nat.pow_le_pow_right (by decide) (by decide))) P1
    refine ⟨S2, ?_⟩
    simp [-bind_pure_comp, lcBody, asgT, wipeE, bind_go, e1, e2]) []
  obtain ⟨S, e⟩ := lc
  refine ⟨S, ?_⟩
  have e2 : (noerr (lcGo (lcBody ⟨run p (N + 15), p.cst⟩ (.call 589 (.cons (.call 434 (.cons (.var 0) (.cons (.var 1) .nil))) .nil)) (.nm 1) .no [1] [.val (.frz (ns.map .int)), .emp]) (rngE 0 m.toNat))).go [] = .ok ((rngE 0 m.toNat).map fun _ => .bl true) S := noerr_ok e
  have hall : ((rngE 0 m.toNat).all fun _ => true) = true := List.all_eq_true.mpr fun _ _ => rfl
  rw [run, hd]
  simp [-bind_pure_comp, D590, start0, biE, ← hm, rngM_ok2 (lo := 0) (hi := m) (by omega), bind_go, e2, all_true, hall, retF]
end
end Wt
namespace K69
open PySem PySem.Spec PyProof.Rows Wt
def top (i : Nat) : Stmt := PySem.Challenge.pw_warmtubs_k69_whole_costs_of_settings.main.body.getD i (.Pass ⟨0, 0, 0, 0⟩)
def dt : Nat → Option Def
  | 0 => some D0
  | 1 => some D1
  | 2 => some D2
  | 3 => some D3
  | 5 => some D5
  | 7 => some D7
  | 8 => some D8
  | 11 => some D11
  | 20 => some D20
  | 23 => some D23
  | 26 => some D26
  | 27 => some D27
  | 28 => some D28
  | 30 => some D30
  | 31 => some D31
  | 32 => some D32
  | 33 => some D33
  | 34 => some D34
  | 35 => some D35
  | 36 => some D36
  | 37 => some D37
  | 39 => some D39
  | 45 => some D45
  | 124 => some D124
  | 125 => some D125
  | 126 => some D126
  | 127 => some D127
  | 128 => some D128
  | 274 => some D274
  | 360 => some D360
  | 434 => some D434
  | 441 => some D441
  | 443 => some D443
  | 444 => some D444
  | 449 => some D449
  | 450 => some D450
  | 451 => some D451
  | 453 => some D453
  | 455 => some D455
  | 457 => some D457
  | 458 => some D458
  | 466 => some D466
  | 474 => some D474
  | 475 => some D475
  | 476 => some D476
  | 480 => some D480
  | 570 => some D570
  | 572 => some D572
  | 588 => some D588
  | 589 => some D589
  | 590 => some D590
  | _ => none
def cst : Nat → Int
  | 6944 => 14783
  | 6945 => 55601
  | 6946 => 3220630
  | 7312 => 223049
  | 7313 => 216039
  | 7314 => 775509
  | _ => 0
def p : Prg := ⟨dt, cst⟩
def ps : Nat → List Str
  | 0 => ["top", "bottom"]
  | 1 => ["one", "other"]
  | 2 => ["one", "other"]
  | 3 => ["one", "other"]
  | 5 => ["one", "other"]
  | 7 => ["one", "other"]
  | 8 => ["fraction"]
  | 11 => ["fractions"]
  | 20 => ["value"]
  | 23 => ["value", "least"]
  | 26 => ["value", "low", "high"]
  | 27 => ["value", "many"]
  | 28 => ["value"]
  | 30 => ["value", "low", "high", "is_one"]
  | 31 => ["value"]
  | 32 => ["value"]
  | 33 => ["value"]
  | 34 => ["value"]
  | 35 => ["value"]
  | 36 => ["tap", "value"]
  | 37 => ["board", "value"]
  | 39 => ["value"]
  | 45 => ["board"]
  | 124 => ["board", "value"]
  | 125 => ["prices", "setting"]
  | 126 => ["rates", "warmth"]
  | 127 => ["rates", "tap", "price"]
  | 128 => ["board", "prices", "mix", "rates"]
  | 274 => ["value"]
  | 360 => ["mix"]
  | 434 => ["script", "lap"]
  | 441 => ["pool", "most"]
  | 443 => ["pool", "low", "high"]
  | 444 => ["pool"]
  | 449 => ["one", "two"]
  | 450 => ["top", "low"]
  | 451 => ["some"]
  | 453 => ["one", "two"]
  | 455 => ["one", "two"]
  | 457 => ["pool", "many"]
  | 458 => ["pool", "some"]
  | 466 => ["board", "setting"]
  | 474 => ["board", "prices"]
  | 475 => ["board", "prices", "mix"]
  | 476 => ["board", "prices", "setting"]
  | 480 => ["board", "prices", "mix", "warmth", "number"]
  | 570 => ["told", "due"]
  | 572 => ["one", "two"]
  | 588 => ["board", "prices", "mix", "one", "two"]
  | 589 => ["pool"]
  | 590 => ["script"]
  | _ => []
def es0 : List Ent := [⟨0, "plain_of", top 10⟩, ⟨1, "plus", top 11⟩, ⟨2, "minus", top 12⟩, ⟨3, "times", top 13⟩, ⟨5, "is_less", top 14⟩, ⟨7, "greater_of", top 15⟩, ⟨8, "above_of", top 16⟩, ⟨11, "sum_of", top 17⟩, ⟨20, "is_whole", top 19⟩, ⟨23, "is_from", top 20⟩, ⟨26, "is_tuple_up_to", top 21⟩, ⟨27, "is_tuple_of", top 22⟩, ⟨28, "is_pair", top 23⟩, ⟨30, "wrong_in", top 24⟩, ⟨31, "is_fraction_of", top 27⟩, ⟨32, "is_from_nought", top 28⟩, ⟨33, "is_above_nought", top 29⟩, ⟨34, "is_tap", top 30⟩, ⟨35, "is_board_of", top 31⟩, ⟨36, "is_flow", top 32⟩, ⟨37, "wrong_in_setting", top 33⟩, ⟨39, "is_mix_of", top 34⟩, ⟨45, "check_board", top 36⟩, ⟨124, "wrong_in_prices", top 40⟩, ⟨125, "setting_cost_by", top 41⟩]
def es1 : List Ent := [⟨126, "worth_at", top 42⟩, ⟨127, "gain_at", top 43⟩, ⟨128, "rated_by", top 44⟩, ⟨274, "check_fraction", top 35⟩, ⟨360, "check_mix", top 38⟩, ⟨434, "_law_pool", top 51⟩, ⟨441, "_law_board", top 55⟩, ⟨443, "_law_fraction", top 56⟩, ⟨444, "_law_flow", top 60⟩, ⟨449, "_law_times", top 53⟩, ⟨450, "_law_ratio", top 61⟩, ⟨451, "_law_sum", top 57⟩, ⟨453, "_law_less", top 54⟩, ⟨455, "_law_plus", top 52⟩, ⟨457, "_law_below", top 63⟩, ⟨458, "_law_one", top 64⟩, ⟨466, "check_setting", top 37⟩, ⟨474, "check_priced", top 46⟩, ⟨475, "check_priced_mix", top 47⟩, ⟨476, "setting_cost", top 48⟩, ⟨480, "rated", top 49⟩, ⟨570, "_law_same", top 58⟩, ⟨572, "_law_is_less", top 59⟩, ⟨588, "_law_rated", top 62⟩, ⟨589, "_law_right", top 65⟩]
def es2 : List Ent := [⟨590, "law", top 66⟩]
def es : List Ent := es0 ++ es1 ++ es2
def cs : List (Str × PV) := [("MOST_TAPS", (.int 8)), ("NOUGHT", (.tup [(.int 0), (.int 1)]))]
def gc : Bool := true
def kw : List (Nat × List Str × List Nat) := [(476, ["setting", "prices", "board"], [2, 1, 0]), (480, ["number", "warmth", "mix", "prices", "board"], [4, 3, 2, 1, 0])]
def tb : Tb := tbOf es ps p.cst cs gc kw
def lo0 : List Str := ["gcd", "__name__", "WarmError", "InvalidFraction", "InvalidBoard", "InvalidMix", "InvalidSetting", "InvalidPrices", "NOUGHT", "plain_of", "plus", "minus", "times", "is_less", "greater_of", "above_of", "sum_of", "is_whole", "is_from", "is_tuple_up_to", "is_tuple_of", "is_pair", "wrong_in", "MOST_TAPS", "is_fraction_of", "is_from_nought", "is_above_nought", "is_tap", "is_board_of", "is_flow"]
def lo1 : List Str := ["wrong_in_setting", "is_mix_of", "check_fraction", "check_board", "check_setting", "check_mix", "wrong_in_prices", "setting_cost_by", "worth_at", "gain_at", "rated_by", "check_priced", "check_priced_mix", "setting_cost", "rated", "_law_pool", "_law_plus", "_law_times", "_law_less", "_law_board", "_law_fraction", "_law_sum", "_law_same", "_law_is_less", "_law_flow", "_law_ratio", "_law_rated", "_law_below", "_law_one", "_law_right"]
def lo : List Str := lo0 ++ lo1
abbrev R : PySem.W.OpenRow := PySem.W.OpenLaw.row PySem.Challenge.rw_warmtubs_k69_whole_costs_of_settings
abbrev hk : PySem.W.Hook := hookC 4 (factsOf es) (defsOf es) cs gc
def ob (s : PySem.W.SharedT) : He.AlD × Bool := obC 4 (factsOf es) (defsOf es) cs gc (HandSHeadRun.getT s)
theorem ob_eq (s : PySem.W.SharedT) : ob s = hk.obs s.abs := obC_eq (HandSHeadRun.getT_eq s)
theorem run (w : World) : HandSHeadRun.RunEqI R (PySem.W.view R.prog [0, 66]) hk ob 20000 lo w := by
  unfold HandSHeadRun.RunEqI
  kernel_rfl
theorem ok0 : (es0.all fun e => entB tb p e) = true := by decide +kernel
theorem ok1 : (es1.all fun e => entB tb p e) = true := by decide +kernel
theorem ok2 : (es2.all fun e => entB tb p e) = true := by decide +kernel
theorem hd : ∀ e ∈ es, entB tb p e = true := by
  intro e he
  unfold es at he
  simp only [List.mem_append] at he
  rcases he with (h | h) | h
  · exact List.all_eq_true.mp ok0 e h
  · exact List.all_eq_true.mp ok1 e h
  · exact List.all_eq_true.mp ok2 e h

theorem hkw : ∀ q ∈ kw, kwOkB (ps q.1) q.2.1 q.2.2 = true := by
  have h : (kw.all fun q => kwOkB (ps q.1) q.2.1 q.2.2) = true := by decide +kernel
  exact List.all_eq_true.mp h
def elaw : Ent := ⟨590, "law", top 66⟩
instance : L69 p where
  d0 := rfl
  d1 := rfl
  d2 := rfl
  d3 := rfl
  d5 := rfl
  d7 := rfl
  d8 := rfl
  d11 := rfl
  d20 := rfl
  d23 := rfl
  d26 := rfl
  d27 := rfl
  d28 := rfl
  d31 := rfl
  d33 := rfl
  d34 := rfl
  d35 := rfl
  d45 := rfl
  d30 := rfl
  d32 := rfl
  d36 := rfl
  d37 := rfl
  d39 := rfl
  d124 := rfl
  d125 := rfl
  d126 := rfl
  d127 := rfl
  d128 := rfl
  d274 := rfl
  d360 := rfl
  d466 := rfl
  d474 := rfl
  d475 := rfl
  d476 := rfl
  d480 := rfl
  ratio := rfl
  times := rfl
  less := rfl
  plus := rfl
  sum := rfl
  below := rfl
  one := rfl
  k0 := by decide +kernel
  k1 := by decide +kernel
  k2 := by decide +kernel
  board := rfl
  fraction := rfl
  flow := rfl
  same := rfl
  rated := rfl
  isless := rfl
  right := rfl
instance : LawI p where
  pool := rfl
  i0 := by decide +kernel
  i1 := by decide +kernel
  i2 := by decide +kernel
theorem main : ∀ ns : List Int, ns.length ≤ 63 → ∃ S, (Wt.run p 30 590 [.frz (ns.map .int)]).go [] = .ok (.bl true) S :=
  law590 (p := p) (N := 14) rfl (M.ext fun S => by kernel_rfl) (M.ext fun S => by kernel_rfl)
end K69
open PySem PySem.W PySem.Calls PyProof.Rows
theorem PySem.Challenge.cw_warmtubs_k69_whole_costs_of_settings_holds : PySem.Challenge.rw_warmtubs_k69_whole_costs_of_settings.Holds := by
  w_on; o_law
  refine HandSHeadRun.head_imp (r := OpenLaw.row PySem.Challenge.rw_warmtubs_k69_whole_costs_of_settings) (q := view (OpenLaw.row PySem.Challenge.rw_warmtubs_k69_whole_costs_of_settings).prog [0, 66]) (H := K69.hk) (ob := K69.ob) (M := 20000) (loose := K69.lo) (d := HandSHeadRun.topDef (OpenLaw.row PySem.Challenge.rw_warmtubs_k69_whole_costs_of_settings).prog 66) (kwd := []) K69.ob_eq
    K69.run (by kernel_rfl) (by kernel_rfl) (by kernel_rfl) (by rfl) (by first | assumption | decide +kernel) (by decide +kernel) ⟨rfl, rfl, rfl, rfl, rfl, by decide +kernel⟩ ?hw ?hc
  case hw => w_witness2
  case hc =>
    exact Wt.law_walk (l := PySem.Challenge.rw_warmtubs_k69_whole_costs_of_settings) (n := 63) (k := 30) (fl := 590) (el := K69.elaw) rfl (by decide) (by kernel_rfl) ⟨rfl, by decide, by decide⟩ (by kernel_rfl) (by kernel_rfl) rfl K69.hd K69.hkw K69.main
