import PyProof.Rows.All
import Wide.All
import OpenK.AllK
import Wide.FinOn
import HandS.ForMost
import HandS.Exc
import HandS.ExcOwn
import HandS.WordsExc
import HandS.Walk
import HandS.Wide
import HandS.IsInst
import HandS.TupAny
import HandS.TupMul
import HandS.Style
import HandS.Conv
import HandS.Star
import HandS.Zip
import KE.GoesNew
import PyProof.ReprLen
import HandS.Dict
import HandS.Small
import HandS.Defaults
import HandS.HeadEnd
import HandS.Head0
import HandS.Head1
import HandS.Head2
import HandS.HeadHook1
import HandS.HeadHook2
import PySem.Challenge.RW_allstay_k35_whole_scripts_pay
set_option Elab.async false
set_option linter.all false
set_option maxRecDepth 100000
namespace MP
open PySem

/-! ### values -/
inductive D where
  | non | bl (b : Bool) | int (i : Int) | str (s : Str)
  | tup (xs : List D) | lst (xs : List D) | emp | ref (n : Nat) | fn (n : Nat) | scr (ns : List Int)

inductive Ob where
  | lst (xs : List D) | dct (kvs : List (Str × D)) | gone
abbrev Sto := List Ob
def Ob.live : Ob → Bool
  | .gone => false
  | _ => true

/-- a result: data, or a list that nobody else holds -/
inductive W where
  | dat (d : D) | own (xs : List D)
def W.d : W → D
  | .dat d => d
  | .own xs => .lst xs

inductive R (α : Type) where
  | ok (a : α) (st : Sto) | exc (c : Nat) (p : D) (st : Sto) | bad
def R.bind {α β : Type} (r : R α) (f : α → Sto → R β) : R β := match r with
  | .ok a st => f a st
  | .exc c p st => .exc c p st
  | .bad => .bad
theorem bind_ok {α β : Type} {r : R α} {f : α → Sto → R β} {b : β} {st : Sto} (h : r.bind f = .ok b st) : ∃ a s1, r = .ok a s1 ∧ f a s1 = .ok b st := by
  cases r with
  | ok a s1 => exact ⟨a, s1, rfl, h⟩
  | exc c p s => cases h
  | bad => cases h

inductive Slot where
  | un | dat (d : D) | mut (xs : List D)
abbrev Fr := List Slot

inductive Bop where | add | sub | mul | fdiv | mod | pow
inductive Cop where | eq | ne | lt | le | gt | ge | inn | nin | is | isnot
inductive B1 where | len | sum | all | any | list | tuple | sorted | int | abs | min | max | repr | str | tupZ
inductive B2 where | min | max
inductive Ty where | int | bool | tuple | str | list | dict
mutual
inductive G where
  | nm (i : Nat) | tp (gs : Gs)
inductive Gs where
  | nil | cons (g : G) (r : Gs)
end
mutual
inductive E where
  | var (i : Nat)
  | con (d : D)
  | glo (x : Str) (d : D)
  | tup (es : A) | lst (es : A)
  | bin (o : Bop) (a b : E)
  | neg (a : E)
  | cmp (o : Cop) (a b : E)
  | chain (o o' : Cop) (a b c : E)
  | not (a : E) | and (a b : E) | or (a b : E)
  | ite (c a b : E)
  | idx (a i : E)
  | idxM (m : Nat) (i : E)
  | lenM (m : Nat)
  | slc (a : E) (lo hi : O)
  | rev (a : E)
  | call (f : Nat) (x : Str) (es : A)
  | b1 (f : B1) (a : E)
  | b2 (f : B2) (a b : E)
  | isi (a : E) (t : Ty)
  | lrng (tp : Bool) (it : It)
  | comp (elt : E) (g : G) (own : List Nat) (it : It) (c : C)
  | get (a : E) (x : Str)
  | obi (a i : E)
  | obl (a : E)
  | obe (a : E)
  | new (a : E)
inductive A where
  | nil | cons (e : E) (r : A) | star (e : E) (r : A)
inductive O where
  | none | some (e : E)
inductive It where
  | seq (e : E) | mut (i : Nat) | rng1 (a : E) | rng2 (a b : E) | zip (a b : E) | enum (a : E)
inductive C where
  | yes | one (e : E)
end
mutual
inductive S where
  | asg (g : G) (e : E)
  | own (i : Nat) (e : E)
  | par (gs : List (Bool × Nat)) (es : A)
  | setm (i : Nat) (k e : E)
  | augm (i : Nat) (o : Bop) (k e : E)
  | appm (i : Nat) (e : E) | extm (i : Nat) (e : E)
  | ife (c : E) (a b : Ss)
  | for_ (g : G) (it : It) (b : Ss)
  | whl (c : E) (b : Ss)
  | ret (e : E)
  | exp (e : E)
  | mk (a b c : E)
  | put (a : E) (x : Str) (e : E)
  | obs (a i e : E)
  | ppar (a : E) (x : Str) (i : Nat) (e1 e2 : E)
  | dead
inductive Ss where
  | nil | cons (s : S) (r : Ss) | frz (i : Nat) (r : Ss) | melt (i : Nat) (r : Ss)
end

/-! ### data -/
def toPy : Nat → D → PyData
  | _, .non => .none
  | _, .bl b => .bool b
  | _, .int i => .int i
  | _, .str s => .str s
  | 0, _ => .none
  | n + 1, .tup xs => .tuple (xs.map (toPy n))
  | n + 1, .lst xs => .list (xs.map (toPy n))
  | _ + 1, .emp => .dict []
  | _ + 1, .ref _ => .none
  | _ + 1, .fn _ => .none
  | _ + 1, .scr _ => .none
/-- data of at most so deep a nesting, without dicts and objects -/
def okD : Nat → D → Bool
  | _, .non => true
  | _, .bl _ => true
  | _, .int _ => true
  | _, .str s => PyData.strOk s
  | 0, _ => false
  | n + 1, .tup xs => xs.all (okD n)
  | n + 1, .lst xs => xs.all (okD n)
  | _ + 1, .emp => false
  | _ + 1, .ref _ => false
  | _ + 1, .fn _ => false
  | _ + 1, .scr _ => false
/-- == -/
def eqD (d e : D) : Bool := PyData.eqv (toPy 60 d) (toPy 60 e)
def scalar : D → Bool
  | .non => true
  | .bl _ => true
  | .int _ => true
  | .str _ => true
  | _ => false
/-- a text of at most so many signs shows it -/
def wt : Nat → D → Nat
  | _, .non => 4
  | _, .bl _ => 5
  | _, .int i => if i.natAbs < 10 ^ 18 then 20 else 2000
  | _, .str s => 10 * s.length + 2
  | 0, _ => 0
  | n + 1, .tup xs => 3 + (xs.map fun x => wt n x + 2).sum
  | n + 1, .lst xs => 3 + (xs.map fun x => wt n x + 2).sum
  | _ + 1, .emp => 2
  | _ + 1, .ref _ => 0
  | _ + 1, .fn _ => 0
  | _ + 1, .scr _ => 0
def showD : Nat → D → Bool
  | _, .int i => decide (i.natAbs.log2 < 1920)
  | n + 1, .tup xs => xs.all (showD n)
  | n + 1, .lst xs => xs.all (showD n)
  | _, _ => true
def shown (d : D) : Str := (toPy 60 d).shown

def items : D → Option (List D)
  | .tup xs => some xs
  | .lst xs => some xs
  | .scr ns => some (ns.map .int)
  | _ => none
def intsOf : List D → Option (List Int)
  | [] => some []
  | .int i :: r => (intsOf r).map (i :: ·)
  | _ => none
def bools : List D → Option (List Bool)
  | [] => some []
  | .bl b :: r => (bools r).map (b :: ·)
  | _ => none

/-! ### operations -/
abbrev big : Nat := 400000
def mulOk (i j : Int) : Bool := decide (i.natAbs < 2 ^ 63) || decide (j.natAbs < 2 ^ 63) || decide (i.natAbs < 2 ^ big) && decide (j.natAbs < 2 ^ big)
def divOk (j : Int) : Bool := decide (0 < j) && decide (j.natAbs < 2 ^ 9000)
def rep (k : Int) (xs : List D) : List D := (List.replicate k.toNat xs).flatten
def binD (o : Bop) (a b : D) : Option W := match o, a, b with
  | .add, .int i, .int j => some (.dat (.int (i + j)))
  | .add, .str x, .str y => if x.length + y.length ≤ sizeLine then some (.dat (.str (x ++ y))) else none
  | .add, .tup xs, .tup ys => if xs.length + ys.length ≤ sizeLine then some (.dat (.tup (xs ++ ys))) else none
  | .add, .lst xs, .lst ys => if xs.length + ys.length ≤ sizeLine then some (.own (xs ++ ys)) else none
  | .sub, .int i, .int j => some (.dat (.int (i - j)))
  | .mul, .int i, .int j => if mulOk i j then some (.dat (.int (i * j))) else none
  | .mul, .lst xs, .int k => if decide (-(2 ^ 63) ≤ k) && decide (k < 2 ^ 63) && decide (xs.length * k.toNat ≤ sizeLine) then some (.own (rep k xs)) else none
  | .mul, .tup xs, .int k => if decide (-1000 ≤ k) && decide (k ≤ 1000) && decide (xs.length ≤ 1000) then some (.dat (.tup (rep k xs))) else none
  | .fdiv, .int i, .int j => if divOk j then some (.dat (.int (i / j))) else none
  | .mod, .int i, .int j => if decide (0 < j) then some (.dat (.int (i % j))) else none
  | .pow, .int i, .int j => if decide (0 ≤ j) && decide (j ≤ 1000) && decide (i.natAbs < 2 ^ 64) then some (.dat (.int (i ^ j.toNat))) else none
  | _, _, _ => none
def inD (x : D) (ys : List D) : Bool := ys.any fun y => eqD y x
def cmpD (o : Cop) (a b : D) : Option Bool := match o, a, b with
  | .lt, .int i, .int j => some (decide (i < j))
  | .le, .int i, .int j => some (decide (i ≤ j))
  | .gt, .int i, .int j => some (decide (j < i))
  | .ge, .int i, .int j => some (decide (j ≤ i))
  | .eq, .str x, .str y => some (decide (x = y))
  | .ne, .str x, .str y => some (!decide (x = y))
  | .eq, a, b => if okD 60 a && okD 60 b then some (eqD a b) else none
  | .ne, a, b => if okD 60 a && okD 60 b then some (!eqD a b) else none
  | .is, a, .non => some (match a with | .non => true | _ => false)
  | .isnot, a, .non => some (match a with | .non => false | _ => true)
  | .is, .bl a, .bl b => some (decide (a = b))
  | .isnot, .bl a, .bl b => some (!decide (a = b))
  | .inn, x, .tup ys => if scalar x && ys.all scalar then some (inD x ys) else none
  | .inn, x, .lst ys => if scalar x && ys.all scalar then some (inD x ys) else none
  | .nin, x, .tup ys => if scalar x && ys.all scalar then some (!inD x ys) else none
  | .nin, x, .lst ys => if scalar x && ys.all scalar then some (!inD x ys) else none
  | _, _, _ => none
/-- the place that an index means -/
def ixD (n : Nat) (i : Int) : Option Nat := if 0 ≤ i then (if i < n then some i.toNat else none) else if -(n : Int) ≤ i then some (i + n).toNat else none
def atD (xs : List D) (i : Int) : Option D := (ixD xs.length i).bind fun j => xs[j]?
def sIxD (n d : Nat) : Option Int → Nat
  | none => d
  | some i => if 0 ≤ i then min i.toNat n else (i + n).toNat
def cutD (xs : List D) (lo hi : Option Int) : List D := (xs.drop (sIxD xs.length 0 lo)).take (sIxD xs.length xs.length hi - sIxD xs.length 0 lo)
def slcD (x : D) (l h : Option Int) : Option W := match x with
  | .tup xs => some (.dat (.tup (cutD xs l h)))
  | .lst xs => some (.own (cutD xs l h))
  | _ => none
def revD (x : D) : Option W := match x with
  | .tup xs => some (.dat (.tup xs.reverse))
  | .lst xs => some (.own xs.reverse)
  | _ => none
def isiD (d : D) (t : Ty) : Option Bool := match d, t with
  | .ref _, _ => none
  | .fn _, _ => none
  | .scr _, _ => none
  | .int _, .int => some true
  | .bl _, .int => some true
  | .bl _, .bool => some true
  | .tup _, .tuple => some true
  | .str _, .str => some true
  | .lst _, .list => some true
  | .emp, .dict => some true
  | _, _ => some false
def mx (a : Int) (r : List Int) : Int := r.foldl (fun m x => if m < x then x else m) a
def mn (a : Int) (r : List Int) : Int := r.foldl (fun m x => if x < m then x else m) a
/-- sorted of intsOf: a plain insertion -/
def insI (i : Int) : List Int → List Int
  | [] => [i]
  | j :: r => if i ≤ j then i :: j :: r else j :: insI i r
def sortI : List Int → List Int
  | [] => []
  | i :: r => insI i (sortI r)
def b1D (f : B1) (d : D) : Option W := match f, d with
  | .len, .tup xs => some (.dat (.int xs.length))
  | .len, .lst xs => some (.dat (.int xs.length))
  | .len, .scr ns => some (.dat (.int ns.length))
  | .len, .str s => if s.length ≤ sizeLine then some (.dat (.int s.length)) else none
  | .sum, .lst xs => (intsOf xs).map fun is => .dat (.int is.sum)
  | .all, .lst xs => (bools xs).map fun bs => .dat (.bl (bs.all id))
  | .any, .lst xs => (bools xs).map fun bs => .dat (.bl (bs.any id))
  | .list, .tup xs => some (.own xs)
  | .list, .lst xs => some (.own xs)
  | .tuple, .lst xs => some (.dat (.tup xs))
  | .tuple, .tup xs => some (.dat (.tup xs))
  | .sorted, .lst xs => (intsOf xs).bind fun is => if is.length < 64 then some (.own ((sortI is).map .int)) else none
  | .int, .int i => some (.dat (.int i))
  | .int, .bl b => some (.dat (.int (if b then 1 else 0)))
  | .abs, .int i => some (.dat (.int (if i < 0 then -i else i)))
  | .max, .lst xs => match intsOf xs with
    | some (a :: r) => some (.dat (.int (mx a r)))
    | _ => none
  | .min, .lst xs => match intsOf xs with
    | some (a :: r) => some (.dat (.int (mn a r)))
    | _ => none
  | .repr, d => if okD 60 d && showD 60 d && decide (wt 60 d ≤ sizeLine) && !scalar d then some (.dat (.str (shown d))) else none
  | _, _ => none
def augD (o : Bop) (a b : D) : Option D := match o, a, b with
  | .add, .int i, .int j => some (.int (i + j))
  | .sub, .int i, .int j => some (.int (i - j))
  | _, _, _ => none
def b2D (f : B2) (a b : D) : Option W := match f, a, b with
  | .min, .int i, .int j => some (.dat (.int (if j < i then j else i)))
  | .max, .int i, .int j => some (.dat (.int (if j > i then j else i)))
  | _, _, _ => none
def rng (a b : Int) : List D := (List.range (b - a).toNat).map fun i => .int (a + (i : Nat))
def rngOk (a b : Int) : Bool := decide (-(2 ^ 62) ≤ a) && decide (a < 2 ^ 62) && decide (-(2 ^ 62) ≤ b) && decide (b < 2 ^ 62) && decide ((b - a).toNat ≤ 2 ^ 24)
def enumF (xs : List D) : List D := xs.zipIdx.map fun (x, i) => .tup [.int (i : Nat), x]
def zipF (xs ys : List D) : List D := (xs.zip ys).map fun (x, y) => .tup [x, y]

/-! ### objects -/
def valD (x : Str) : List (Str × D) → Option D
  | [] => none
  | (y, d) :: r => if y = x then some d else valD x r
def putD (x : Str) (d : D) : List (Str × D) → Option (List (Str × D))
  | [] => none
  | (y, e) :: r => if y = x then some ((y, d) :: r) else (putD x d r).map ((y, e) :: ·)
def keysOk : List Str → Bool
  | [] => true
  | x :: r => !r.contains x && keysOk r
def getF (x : Str) (d : D) (st : Sto) : Option D := match d with
  | .ref n => match st[n]? with
    | some (.dct kvs) => valD x kvs
    | _ => none
  | _ => none
def lstF (d : D) (st : Sto) : Option (List D) := match d with
  | .ref n => match st[n]? with
    | some (.lst xs) => some xs
    | _ => none
  | _ => none
def putF (x : Str) (d e : D) (st : Sto) : Option Sto := match d with
  | .ref n => match st[n]? with
    | some (.dct kvs) => if keysOk (kvs.map (·.1)) && decide (kvs.length < 100) then (putD x e kvs).map fun q => st.set n (.dct q) else none
    | _ => none
  | _ => none
def setF (d : D) (k : Int) (e : D) (st : Sto) : Option Sto := match d with
  | .ref n => match st[n]? with
    | some (.lst xs) => (ixD xs.length k).map fun j => st.set n (.lst (xs.set j e))
    | _ => none
  | _ => none
/-- lists of the store become data -/
def meltD : List D → Sto → Option (List D × Sto)
  | [], st => some ([], st)
  | .ref n :: r, st => match st[n]? with
    | some (.lst xs) => (meltD r (st.set n .gone)).map fun q => (.lst xs :: q.1, q.2)
    | _ => none
  | _, _ => none

def opt (o : Option α) (st : Sto) : R α := match o with
  | some a => .ok a st
  | none => .bad

/-! ### targets -/
mutual
def putG : G → D → Fr → Option Fr
  | .nm i, d, env => if i < env.length then some (env.set i (.dat d)) else none
  | .tp gs, .tup xs, env => putGs gs xs env
  | .tp _, _, _ => none
def putGs : Gs → List D → Fr → Option Fr
  | .nil, [], env => some env
  | .cons g r, x :: xs, env => (putG g x env).bind fun env' => putGs r xs env'
  | _, _, _ => none
end
def wipeE (env : Fr) : List Nat → Fr
  | [] => env
  | v :: vs => (wipeE env vs).set v .un
def getD (env : Fr) (i : Nat) : Option D := match env[i]? with
  | some (.dat d) => some d
  | _ => none
def getM (env : Fr) (i : Nat) : Option (List D) := match env[i]? with
  | some (.mut xs) => some xs
  | _ => none

/-! ### loops -/
def compL (f : D → Sto → R (Option D)) : List D → Sto → R (List D)
  | [], st => .ok [] st
  | x :: xs, st => match f x st with
    | .ok o s1 => match compL f xs s1 with
      | .ok r s2 => .ok (match o with | some d => d :: r | none => r) s2
      | _ => .bad
    | _ => .bad

section
variable (cf : Nat → List D → Sto → R W)
mutual
def ev : E → Fr → Sto → R W
  | .var i, env, st => opt ((getD env i).map .dat) st
  | .con d, _, st => .ok (.dat d) st
  | .glo _ d, _, st => .ok (.dat d) st
  | .tup es, env, st => (evA es env st).bind fun ds s1 => if ds.length ≤ sizeLine then .ok (.dat (.tup ds)) s1 else .bad
  | .lst es, env, st => (evA es env st).bind fun ds s1 => if ds.length ≤ sizeLine then .ok (.own ds) s1 else .bad
  | .bin o a b, env, st => (ev a env st).bind fun x s1 => (ev b env s1).bind fun y s2 => opt (binD o x.d y.d) s2
  | .neg a, env, st => (ev a env st).bind fun x s1 => match x.d with
    | .int i => .ok (.dat (.int (-i))) s1
    | _ => .bad
  | .cmp o a b, env, st => (ev a env st).bind fun x s1 => (ev b env s1).bind fun y s2 => opt ((cmpD o x.d y.d).map fun k => .dat (.bl k)) s2
  | .chain o o' a b c, env, st => (ev a env st).bind fun x s1 => (ev b env s1).bind fun y s2 => match cmpD o x.d y.d with
    | some true => (ev c env s2).bind fun z s3 => opt ((cmpD o' y.d z.d).map fun k => .dat (.bl k)) s3
    | some false => .ok (.dat (.bl false)) s2
    | none => .bad
  | .not a, env, st => (ev a env st).bind fun x s1 => match x.d with
    | .bl k => .ok (.dat (.bl (!k))) s1
    | _ => .bad
  | .and a b, env, st => (ev a env st).bind fun x s1 => match x.d with
    | .bl true => ev b env s1
    | .bl false => .ok (.dat (.bl false)) s1
    | _ => .bad
  | .or a b, env, st => (ev a env st).bind fun x s1 => match x.d with
    | .bl true => .ok (.dat (.bl true)) s1
    | .bl false => ev b env s1
    | _ => .bad
  | .ite c a b, env, st => (ev c env st).bind fun x s1 => match x.d with
    | .bl true => ev a env s1
    | .bl false => ev b env s1
    | _ => .bad
  | .idx a i, env, st => (ev a env st).bind fun x s1 => (ev i env s1).bind fun y s2 => match items x.d, y.d with
    | some xs, .int k => opt ((atD xs k).map .dat) s2
    | _, _ => .bad
  | .idxM m i, env, st => match getM env m with
    | some xs => (ev i env st).bind fun y s1 => match y.d with
      | .int k => opt ((atD xs k).map .dat) s1
      | _ => .bad
    | none => .bad
  | .lenM m, env, st => opt ((getM env m).map fun xs => .dat (.int xs.length)) st
  | .slc a lo hi, env, st => (ev a env st).bind fun x s1 => (evO lo env s1).bind fun l s2 => (evO hi env s2).bind fun h s3 => opt (slcD x.d l h) s3
  | .rev a, env, st => (ev a env st).bind fun x s1 => opt (revD x.d) s1
  | .call f _ es, env, st => (evA es env st).bind fun ds s1 => cf f ds s1
  | .b1 f a, env, st => (ev a env st).bind fun x s1 => opt (b1D f x.d) s1
  | .b2 f a b, env, st => (ev a env st).bind fun x s1 => (ev b env s1).bind fun y s2 => opt (b2D f x.d y.d) s2
  | .isi a t, env, st => (ev a env st).bind fun x s1 => opt ((isiD x.d t).map fun k => .dat (.bl k)) s1
  | .lrng tp it, env, st => (evI it env st).bind fun xs s1 => .ok (if tp then .dat (.tup xs) else .own xs) s1
  | .comp e g own it c, env, st => (evI it env st).bind fun xs s1 => if own.any fun i => (getM env i).isSome then .bad else
    (compL (fun x s2 => (opt (putG g x (wipeE env own)) s2).bind fun env' s2 => (evC c env' s2).bind fun k s3 =>
      if k then (ev e env' s3).bind fun y s4 => .ok (some y.d) s4 else .ok none s3) xs s1).bind fun ys s5 => if ys.length ≤ sizeLine then .ok (.own ys) s5 else .bad
  | .get a x, env, st => (ev a env st).bind fun d s1 => opt ((getF x d.d s1).map .dat) s1
  | .obi a i, env, st => (ev a env st).bind fun d s1 => (ev i env s1).bind fun y s2 => match lstF d.d s2, y.d with
    | some xs, .int k => opt ((atD xs k).map .dat) s2
    | _, _ => .bad
  | .obl a, env, st => (ev a env st).bind fun d s1 => opt ((lstF d.d s1).map fun xs => .dat (.int xs.length)) s1
  | .obe a, env, st => (ev a env st).bind fun d s1 => match lstF d.d s1 with
    | some xs => if okD 60 (.lst xs) then .ok (.dat (.bl (!xs.isEmpty))) s1 else .bad
    | none => .bad
  | .new a, env, st => (ev a env st).bind fun d s1 => match d with
    | .own xs => .ok (.dat (.ref s1.length)) (s1 ++ [.lst xs])
    | .dat _ => .bad
def evA : A → Fr → Sto → R (List D)
  | .nil, _, st => .ok [] st
  | .cons e r, env, st => (ev e env st).bind fun x s1 => (evA r env s1).bind fun xs s2 => .ok (x.d :: xs) s2
  | .star e r, env, st => (ev e env st).bind fun x s1 => match items x.d with
    | some ys => (evA r env s1).bind fun xs s2 => .ok (ys ++ xs) s2
    | none => .bad
def evO : O → Fr → Sto → R (Option Int)
  | .none, _, st => .ok none st
  | .some e, env, st => (ev e env st).bind fun x s1 => match x.d with
    | .int i => .ok (some i) s1
    | _ => .bad
def evI : It → Fr → Sto → R (List D)
  | .seq e, env, st => (ev e env st).bind fun x s1 => opt (items x.d) s1
  | .mut i, env, st => opt (getM env i) st
  | .rng1 a, env, st => (ev a env st).bind fun x s1 => match x.d with
    | .int n => if rngOk 0 n then .ok (rng 0 n) s1 else .bad
    | _ => .bad
  | .rng2 a b, env, st => (ev a env st).bind fun x s1 => (ev b env s1).bind fun y s2 => match x.d, y.d with
    | .int m, .int n => if rngOk m n then .ok (rng m n) s2 else .bad
    | _, _ => .bad
  | .zip a b, env, st => (ev a env st).bind fun x s1 => (ev b env s1).bind fun y s2 => match items x.d, items y.d with
    | some xs, some ys => .ok (zipF xs ys) s2
    | _, _ => .bad
  | .enum a, env, st => (ev a env st).bind fun x s1 => opt ((items x.d).map enumF) s1
def evC : C → Fr → Sto → R Bool
  | .yes, _, st => .ok true st
  | .one e, env, st => (ev e env st).bind fun x s1 => match x.d with
    | .bl k => .ok k s1
    | _ => .bad
end
/-- the items as they come: an own list stays one -/
def evW : A → Fr → Sto → R (List W)
  | .nil, _, st => .ok [] st
  | .cons e r, env, st => (ev cf e env st).bind fun x s1 => (evW r env s1).bind fun xs s2 => .ok (x :: xs) s2
  | .star _ _, _, _ => .bad

inductive Out where
  | nx (env : Fr) (st : Sto) | rt (w : W) (st : Sto) | exc (c : Nat) (p : D) (env : Fr) (st : Sto) | bad
def R.out (r : R α) (env : Fr) (f : α → Sto → Out) : Out := match r with
  | .ok a st => f a st
  | .exc c p st => .exc c p env st
  | .bad => .bad
def Out.andThen (o : Out) (f : Fr → Sto → Out) : Out := match o with
  | .nx env st => f env st
  | o => o
def forL (body : D → Fr → Sto → Out) : List D → Fr → Sto → Out
  | [], env, st => .nx env st
  | x :: xs, env, st => (body x env st).andThen fun env' s1 => forL body xs env' s1
def whileL (c : Fr → Sto → R Bool) (body : Fr → Sto → Out) : Nat → Fr → Sto → Out
  | 0, _, _ => .bad
  | n + 1, env, st => (c env st).out env fun k s1 => if k then (body env s1).andThen fun env' s2 => whileL c body n env' s2 else .nx env s1
/-- several names at once -/
def putP : List (Bool × Nat) → List W → Fr → Option Fr
  | [], [], env => some env
  | (false, i) :: r, w :: ws, env => if i < env.length then putP r ws (env.set i (.dat w.d)) else none
  | (true, i) :: r, .own xs :: ws, env => if i < env.length then putP r ws (env.set i (.mut xs)) else none
  | _, _, _ => none
variable (wf : Nat)
mutual
def ex : S → Fr → Sto → Out
  | .asg g e, env, st => (ev cf e env st).out env fun x s1 => match putG g x.d env with
    | some env' => .nx env' s1
    | none => .bad
  | .own i e, env, st => (ev cf e env st).out env fun x s1 => match x with
    | .own xs => if i < env.length then .nx (env.set i (.mut xs)) s1 else .bad
    | _ => .bad
  | .par gs es, env, st => (evW cf es env st).out env fun ws s1 => match putP gs ws env with
    | some env' => .nx env' s1
    | none => .bad
  | .setm i k e, env, st => match getM env i with
    | some xs => (ev cf e env st).out env fun x s1 => (ev cf k env s1).out env fun y s2 => match y.d with
      | .int n => match ixD xs.length n with
        | some j => .nx (env.set i (.mut (xs.set j x.d))) s2
        | none => .bad
      | _ => .bad
    | none => .bad
  | .augm i o k e, env, st => match getM env i with
    | some xs => (ev cf k env st).out env fun y s1 => match y.d with
      | .int n => match ixD xs.length n with
        | some j => match xs[j]? with
          | some z => (ev cf e env s1).out env fun x s2 => match augD o z x.d with
            | some q => .nx (env.set i (.mut (xs.set j q))) s2
            | none => .bad
          | none => .bad
        | none => .bad
      | _ => .bad
    | none => .bad
  | .appm i e, env, st => match getM env i with
    | some xs => (ev cf e env st).out env fun x s1 => if xs.length < sizeLine then .nx (env.set i (.mut (xs ++ [x.d]))) s1 else .bad
    | none => .bad
  | .extm i e, env, st => match getM env i with
    | some xs => (ev cf e env st).out env fun x s1 => match x.d with
      | .lst ys => if xs.length + ys.length ≤ sizeLine then .nx (env.set i (.mut (xs ++ ys))) s1 else .bad
      | _ => .bad
    | none => .bad
  | .ife c a b, env, st => (ev cf c env st).out env fun x s1 => match x.d with
    | .bl true => exs a env s1
    | .bl false => exs b env s1
    | _ => .bad
  | .for_ g it b, env, st => (evI cf it env st).out env fun xs s1 => forL (fun x env s2 => match putG g x env with
    | some env' => exs b env' s2
    | none => .bad) xs env s1
  | .whl c b, env, st => whileL (fun env st => (ev cf c env st).bind fun x s1 => match x.d with
    | .bl k => .ok k s1
    | _ => .bad) (fun env st => exs b env st) wf env st
  | .ret e, env, st => (ev cf e env st).out env fun x s1 => .rt x s1
  | .exp e, env, st => (ev cf e env st).out env fun _ s1 => .nx env s1
  | .mk a b c, env, st => (ev cf a env st).out env fun x s1 => (ev cf b env s1).out env fun y s2 => (ev cf c env s2).out env fun z s3 => match x.d, y, z.d with
    | .int m, .own xs, .int t => .rt (.dat (.ref (s3.length + 1))) (s3 ++ [.lst xs, .dct [("mixed", .int m), ("great", .ref s3.length), ("turn", .int t)]])
    | _, _, _ => .bad
  | .put a x e, env, st => (ev cf e env st).out env fun y s1 => (ev cf a env s1).out env fun d s2 => match putF x d.d y.d s2 with
    | some s3 => .nx env s3
    | none => .bad
  | .obs a i e, env, st => (ev cf e env st).out env fun y s1 => (ev cf a env s1).out env fun d s2 => (ev cf i env s2).out env fun z s3 => match z.d with
    | .int k => match setF d.d k y.d s3 with
      | some s4 => .nx env s4
      | none => .bad
    | _ => .bad
  | .ppar a x i e1 e2, env, st => (ev cf e1 env st).out env fun y s1 => (ev cf e2 env s1).out env fun z s2 => (ev cf a env s2).out env fun d s3 => match putF x d.d y.d s3 with
    | some s4 => if i < env.length then .nx (env.set i (.dat z.d)) s4 else .bad
    | none => .bad
  | .dead, _, _ => .bad
def exs : Ss → Fr → Sto → Out
  | .nil, env, st => .nx env st
  | .cons s r, env, st => (ex s env st).andThen fun env' s1 => exs r env' s1
  | .frz i r, env, st => match getM env i with
    | some xs => exs r (env.set i (.dat (.lst xs))) st
    | none => .bad
  | .melt i r, env, st => match getD env i with
    | some (.lst xs) => match meltD xs st with
      | some q => exs r (env.set i (.dat (.lst q.1))) q.2
      | none => .bad
    | _ => .bad
end
end

/-! ### defs -/
structure Fn where
  np : Nat
  nN : Nat
  body : Ss
/-- a table of defs; natives: what they do is told from outside -/
structure Tab where
  fn : Nat → Option Fn
  nat : Nat → (Nat → List D → Sto → R W) → List D → Sto → R W
def st0 (f : Fn) (ds : List D) : Fr := ds.map .dat ++ List.replicate (f.nN - ds.length) .un
def done (o : Out) : R W := match o with
  | .nx _ st => .ok (.dat .non) st
  | .rt w st => .ok w st
  | .exc c p _ st => .exc c p st
  | .bad => .bad
def run (T : Tab) (wf : Nat) : Nat → Nat → List D → Sto → R W
  | 0, _, _, _ => .bad
  | k + 1, f, ds, st => match T.fn f with
    | some F => if ds.length = F.np then done (exs (run T wf k) wf F.body (st0 F ds) st) else .bad
    | none => T.nat f (run T wf k) ds st
end MP

set_option Elab.async false
set_option linter.all false
set_option maxRecDepth 100000
namespace MP
open PySem PySem.Spec L2

structure Gb where
  P : Program
  w : World
  K : PySem.W.Frag
  mg : Str → Option Value
  base : Heap
  fa : Nat → Addr
  ca : Nat → Addr
  cx : Nat → Str
abbrev Rho := List Addr
abbrev sh (ρ : Rho) : List Addr := ρ

mutual
inductive VR (g : Gb) (F : Hp) (ρ : Rho) : D → V → Prop
  | non : VR g F ρ .non .non
  | bl (b : Bool) : VR g F ρ (.bl b) (.bl b)
  | int (i : Int) : VR g F ρ (.int i) (.int i)
  | str (s : Str) : VR g F ρ (.str s) (.str s)
  | tup {a : Addr} {vs : List V} {ds : List D} : SqT g.K F a vs → VRs g F ρ ds vs → VR g F ρ (.tup ds) (.ref a)
  | lst {a : Addr} {vs : List V} {ds : List D} : F a = some (.lst vs) → VRs g F ρ ds vs → VR g F ρ (.lst ds) (.ref a)
  | emp {a : Addr} : F a = some (.dK []) → VR g F ρ .emp (.ref a)
  | ref {n : Nat} {p : Addr} : ρ[n]? = some p → VR g F ρ (.ref n) (.ref p)
  | fn {n : Nat} : VR g F ρ (.fn n) (.ref (g.fa n))
  | scr {a : Addr} {ns : List Int} : SqL g.K F a (ns.map V.int) → VR g F ρ (.scr ns) (.ref a)
inductive VRs (g : Gb) (F : Hp) (ρ : Rho) : List D → List V → Prop
  | nil : VRs g F ρ [] []
  | cons {d : D} {v : V} {ds : List D} {vs : List V} : VR g F ρ d v → VRs g F ρ ds vs → VRs g F ρ (d :: ds) (v :: vs)
end

section
variable {g : Gb} {F : Hp} {ρ : Rho} {v : V}
theorem VR.tupI {ds : List D} (h : VR g F ρ (.tup ds) v) : ∃ a vs, v = .ref a ∧ SqT g.K F a vs ∧ VRs g F ρ ds vs := by
  cases h with
  | tup a b => exact ⟨_, _, rfl, a, b⟩
theorem VR.lstI {ds : List D} (h : VR g F ρ (.lst ds) v) : ∃ a vs, v = .ref a ∧ F a = some (.lst vs) ∧ VRs g F ρ ds vs := by
  cases h with
  | lst a b => exact ⟨_, _, rfl, a, b⟩
theorem VR.scrI {ns : List Int} (h : VR g F ρ (.scr ns) v) : ∃ a, v = .ref a ∧ SqL g.K F a (ns.map V.int) := by
  cases h with
  | scr a => exact ⟨_, rfl, a⟩
theorem VR.empI (h : VR g F ρ .emp v) : ∃ a, v = .ref a ∧ F a = some (.dK []) := by
  cases h with
  | emp a => exact ⟨_, rfl, a⟩
theorem VR.nonI (h : VR g F ρ .non v) : v = .non := by cases h; rfl
theorem VR.blI {b : Bool} (h : VR g F ρ (.bl b) v) : v = .bl b := by cases h; rfl
theorem VR.intI {i : Int} (h : VR g F ρ (.int i) v) : v = .int i := by cases h; rfl
theorem VR.strI {s : Str} (h : VR g F ρ (.str s) v) : v = .str s := by cases h; rfl
end
theorem same_seqT {K : PySem.W.Frag} {F F' : Hp} {a : Addr} {xs : List V} (e : Same F F') (h : SqT K F a xs) : SqT K F' a xs := by
  rcases h with (h | ⟨o, h⟩) | h
  · exact .inl (.inl (e _ _ h))
  · exact .inl (.inr ⟨o, e _ _ h⟩)
  · exact .inr h
section
variable {g : Gb} {F F' : Hp} {ρ ρ' : Rho}
mutual
theorem VR.mono (e : Same F F') (r : ρ <+: ρ') : ∀ {d : D} {v : V}, VR g F ρ d v → VR g F' ρ' d v
  | .non, _, h => by cases h; exact .non
  | .bl b, _, h => by cases h; exact .bl b
  | .int i, _, h => by cases h; exact .int i
  | .str s, _, h => by cases h; exact .str s
  | .tup ds, _, h => by
    cases h with
    | tup a b => exact .tup (same_seqT e a) (VRs.mono e r b)
  | .lst ds, _, h => by
    cases h with
    | lst a b => exact .lst (e _ _ a) (VRs.mono e r b)
  | .emp, _, h => by
    cases h with
    | emp a => exact .emp (e _ _ a)
  | .ref n, _, h => by
    cases h with
    | ref a =>
      obtain ⟨t, rfl⟩ := r
      exact .ref (by rw [List.getElem?_append_left (List.getElem?_eq_some_iff.mp a).1]; exact a)
  | .fn n, _, h => by cases h; exact .fn
  | .scr ns, _, h => by
    cases h with
    | scr a => exact .scr (e.seq a)
theorem VRs.mono (e : Same F F') (r : ρ <+: ρ') : ∀ {ds : List D} {vs : List V}, VRs g F ρ ds vs → VRs g F' ρ' ds vs
  | [], _, h => by cases h; exact .nil
  | d :: ds, _, h => by
    cases h with
    | cons a b => exact .cons (VR.mono e r a) (VRs.mono e r b)
end
theorem VRs.length : ∀ {ds : List D} {vs : List V}, VRs g F ρ ds vs → ds.length = vs.length
  | [], _, h => by cases h; rfl
  | d :: ds, _, h => by
    cases h with
    | cons a b => simp [VRs.length b]
theorem VRs.get : ∀ {ds : List D} {vs : List V} {i : Nat} {d : D}, VRs g F ρ ds vs → ds[i]? = some d → ∃ v, vs[i]? = some v ∧ VR g F ρ d v
  | [], _, _, _, _, e => by simp at e
  | x :: ds, _, 0, d, h, e => by
    cases h with
    | cons a b => simp at e; subst e; exact ⟨_, rfl, a⟩
  | x :: ds, _, i + 1, d, h, e => by
    cases h with
    | cons a b =>
      obtain ⟨v, h1, h2⟩ := VRs.get (i := i) (d := d) b (by simpa using e)
      exact ⟨v, by simpa using h1, h2⟩
theorem VRs.get' : ∀ {ds : List D} {vs : List V} {i : Nat} {v : V}, VRs g F ρ ds vs → vs[i]? = some v → ∃ d, ds[i]? = some d ∧ VR g F ρ d v := fun {ds vs i v} h e => by
  have h1 : i < ds.length := by rw [h.length]; exact (List.getElem?_eq_some_iff.mp e).1
  obtain ⟨v', h2, h3⟩ := h.get (List.getElem?_eq_getElem h1)
  rw [e] at h2; cases h2
  exact ⟨_, List.getElem?_eq_getElem h1, h3⟩
theorem VRs.append : ∀ {ds es : List D} {vs us : List V}, VRs g F ρ ds vs → VRs g F ρ es us → VRs g F ρ (ds ++ es) (vs ++ us)
  | [], _, _, _, h, s => by cases h; exact s
  | d :: ds, _, _, _, h, s => by
    cases h with
    | cons a b => exact .cons a (VRs.append b s)
theorem VRs.take : ∀ {ds : List D} {vs : List V} (n : Nat), VRs g F ρ ds vs → VRs g F ρ (ds.take n) (vs.take n)
  | _, _, 0, _ => by simpa using VRs.nil
  | [], _, n + 1, h => by cases h; exact .nil
  | d :: ds, _, n + 1, h => by
    cases h with
    | cons a b => exact .cons a (VRs.take n b)
theorem VRs.drop : ∀ {ds : List D} {vs : List V} (n : Nat), VRs g F ρ ds vs → VRs g F ρ (ds.drop n) (vs.drop n)
  | _, _, 0, h => h
  | [], _, n + 1, h => by cases h; exact .nil
  | d :: ds, _, n + 1, h => by
    cases h with
    | cons a b => exact VRs.drop n b
theorem VRs.set : ∀ {ds : List D} {vs : List V} (n : Nat) {d : D} {v : V}, VRs g F ρ ds vs → VR g F ρ d v → VRs g F ρ (ds.set n d) (vs.set n v)
  | [], _, n, _, _, h, r => by cases h; simpa using VRs.nil
  | x :: ds, _, 0, _, _, h, r => by
    cases h with
    | cons a b => exact .cons r b
  | x :: ds, _, n + 1, _, _, h, r => by
    cases h with
    | cons a b => exact .cons a (VRs.set n b r)
theorem VRs.one {d : D} {v : V} (h : VR g F ρ d v) : VRs g F ρ [d] [v] := .cons h .nil
theorem VRs.reverse : ∀ {ds : List D} {vs : List V}, VRs g F ρ ds vs → VRs g F ρ ds.reverse vs.reverse
  | [], _, h => by cases h; exact .nil
  | d :: ds, _, h => by
    cases h with
    | cons a b => simpa using VRs.append (VRs.reverse b) (.one a)
theorem VRs.rep {ds : List D} {vs : List V} (h : VRs g F ρ ds vs) : ∀ n : Nat, VRs g F ρ (List.replicate n ds).flatten (List.replicate n vs).flatten
  | 0 => .nil
  | n + 1 => by
    rw [List.replicate_succ, List.replicate_succ, List.flatten_cons, List.flatten_cons]
    exact h.append (VRs.rep h n)
theorem VRs.ints : ∀ {ds : List D} {vs : List V} {is : List Int}, VRs g F ρ ds vs → intsOf ds = some is → vs = is.map V.int
  | [], _, _, h, e => by cases h; simp [intsOf] at e; subst e; rfl
  | .int i :: ds, _, is, h, e => by
    cases h with
    | cons a b =>
      cases a
      simp only [intsOf] at e
      cases q : intsOf ds with
      | none => rw [q] at e; cases e
      | some js =>
        rw [q] at e
        simp at e; subst e
        rw [VRs.ints b q]; rfl
  | .non :: ds, _, _, h, e => by simp [intsOf] at e
  | .bl _ :: ds, _, _, h, e => by simp [intsOf] at e
  | .str _ :: ds, _, _, h, e => by simp [intsOf] at e
  | .tup _ :: ds, _, _, h, e => by simp [intsOf] at e
  | .lst _ :: ds, _, _, h, e => by simp [intsOf] at e
  | .emp :: ds, _, _, h, e => by simp [intsOf] at e
  | .ref _ :: ds, _, _, h, e => by simp [intsOf] at e
  | .fn _ :: ds, _, _, h, e => by simp [intsOf] at e
  | .scr _ :: ds, _, _, h, e => by simp [intsOf] at e
theorem VRs.bools : ∀ {ds : List D} {vs : List V} {is : List Bool}, VRs g F ρ ds vs → bools ds = some is → vs = is.map V.bl
  | [], _, _, h, e => by cases h; simp [MP.bools] at e; subst e; rfl
  | .bl i :: ds, _, is, h, e => by
    cases h with
    | cons a b =>
      cases a
      simp only [MP.bools] at e
      cases q : MP.bools ds with
      | none => rw [q] at e; cases e
      | some js =>
        rw [q] at e
        simp at e; subst e
        rw [VRs.bools b q]; rfl
  | .non :: ds, _, _, h, e => by simp [MP.bools] at e
  | .int _ :: ds, _, _, h, e => by simp [MP.bools] at e
  | .str _ :: ds, _, _, h, e => by simp [MP.bools] at e
  | .tup _ :: ds, _, _, h, e => by simp [MP.bools] at e
  | .lst _ :: ds, _, _, h, e => by simp [MP.bools] at e
  | .emp :: ds, _, _, h, e => by simp [MP.bools] at e
  | .ref _ :: ds, _, _, h, e => by simp [MP.bools] at e
  | .fn _ :: ds, _, _, h, e => by simp [MP.bools] at e
  | .scr _ :: ds, _, _, h, e => by simp [MP.bools] at e
theorem VRs.of_ints : ∀ is : List Int, VRs g F ρ (is.map D.int) (is.map V.int)
  | [] => .nil
  | i :: is => .cons (.int i) (VRs.of_ints is)
end

/-! ### objects -/
def ObR (g : Gb) (F : Hp) (ρ : Rho) (H : Hp) : Ob → Addr → Prop
  | .lst xs, a => ∃ vs, H a = some (.lst vs) ∧ VRs g F ρ xs vs
  | .dct kvs, a => ∃ vs, H a = some (.dK ((kvs.map fun kv => (Sum.inr kv.1 : Key)).zip vs)) ∧ VRs g F ρ (kvs.map (·.2)) vs
  | .gone, a => ∃ o, F a = some o
structure StR (g : Gb) (F : Hp) (ρ : Rho) (H : Hp) (st : Sto) : Prop where
  len : ρ.length = st.length
  at_ : ∀ (n : Nat) o p, st[n]? = some o → ρ[n]? = some p → ObR g F ρ H o p
  nd : (sh ρ).Nodup
section
variable {g : Gb} {F F' : Hp} {ρ ρ' : Rho} {H H' : Hp} {st : Sto}
theorem ObR.some {o : Ob} {p : Addr} (h : ObR g F ρ H o p) (s : Same F H) : ∃ x, H p = some x := by
  cases o with
  | lst xs => obtain ⟨vs, h, _⟩ := h; exact ⟨_, h⟩
  | dct kvs => obtain ⟨vs, h, _⟩ := h; exact ⟨_, h⟩
  | gone => obtain ⟨o, h⟩ := h; exact ⟨_, s _ _ h⟩
theorem ObR.of {o : Ob} {p : Addr} (h : ObR g F ρ H o p) (h1 : H' p = H p) : ObR g F ρ H' o p := by
  cases o with
  | lst xs => obtain ⟨vs, h, r⟩ := h; exact ⟨vs, h1.trans h, r⟩
  | dct kvs => obtain ⟨vs, h, r⟩ := h; exact ⟨vs, h1.trans h, r⟩
  | gone => exact h
theorem ObR.mono {o : Ob} {p : Addr} (h : ObR g F ρ H o p) (s : Same F F') (q : ρ <+: ρ') : ObR g F' ρ' H o p := by
  cases o with
  | lst xs => obtain ⟨vs, h, r⟩ := h; exact ⟨vs, h, r.mono s q⟩
  | dct kvs => obtain ⟨vs, h, r⟩ := h; exact ⟨vs, h, r.mono s q⟩
  | gone => obtain ⟨o, h⟩ := h; exact ⟨o, s _ _ h⟩
theorem StR.some (h : StR g F ρ H st) (s : Same F H) {a : Addr} (ha : a ∈ sh ρ) : ∃ x, H a = some x := by
  obtain ⟨n, hn, q⟩ := List.getElem_of_mem ha
  have h1 : n < st.length := by rw [← h.len]; exact hn
  exact (h.at_ n _ a (List.getElem?_eq_getElem h1) (by rw [List.getElem?_eq_getElem hn, q])).some s
theorem StR.of (h : StR g F ρ H st) (k : ∀ a ∈ sh ρ, H' a = H a) : StR g F ρ H' st :=
  ⟨h.len, fun n o p e1 e2 => (h.at_ n o p e1 e2).of (k _ (List.mem_of_getElem? e2)), h.nd⟩
theorem StR.mono (h : StR g F ρ H st) (s : Same F F') : StR g F' ρ H st := ⟨h.len, fun n o p e1 e2 => (h.at_ n o p e1 e2).mono s (List.prefix_refl _), h.nd⟩
end

/-! ### a body's state -/
structure Bs where
  H0 : Hp
  F0 : Hp
  ρ0 : Rho
  P : List (Addr × HO)
structure Ab (g : Gb) (b : Bs) (F : Hp) (ρ : Rho) (σ : St) (H : Hp) (fr : Fr) (st : Sto) : Prop where
  sub : Same F H
  ext : Same b.F0 F
  new : ∀ a o, F a = some o → b.F0 a = some o ∨ b.H0 a = none ∨ a ∈ sh b.ρ0
  rho : ∃ more, ρ = b.ρ0 ++ more ∧ ∀ a ∈ sh more, b.H0 a = none
  keep : ∀ a o, b.H0 a = some o → a ∉ sh b.ρ0 → H a = some o
  fsh : ∀ (n : Nat) a o, ρ[n]? = some a → st[n]? = some o → o.live = true → F a = none
  sto : StR g F ρ H st
  len : fr.length = σ.length
  dat : ∀ (i : Nat) d, fr[i]? = some (.dat d) → ∃ v, σ[i]? = some (some v) ∧ VR g F ρ d v
  mu : ∀ (i : Nat) xs, fr[i]? = some (.mut xs) → ∃ a vs, σ[i]? = some (some (.ref a)) ∧ H a = some (.lst vs) ∧ VRs g F ρ xs vs ∧ F a = none ∧ a ∉ sh ρ ∧ b.H0 a = none
  apart : ∀ (i j : Nat) a xs ys, fr[i]? = some (.mut xs) → fr[j]? = some (.mut ys) → σ[i]? = some (some (.ref a)) → σ[j]? = some (some (.ref a)) → i = j
  pin : ∀ q ∈ b.P, H q.1 = some q.2 ∧ F q.1 = none ∧ q.1 ∉ sh ρ ∧ b.H0 q.1 = none ∧ ∀ (i : Nat) ys, fr[i]? = some (.mut ys) → σ[i]? ≠ some (some (.ref q.1))
/-- a result stands so -/
def WR (g : Gb) (b : Bs) (F : Hp) (ρ : Rho) (H : Hp) (σ : St) (fr : Fr) : W → V → Prop
  | .dat d, v => VR g F ρ d v
  | .own xs, v => ∃ a vs, v = .ref a ∧ H a = some (.lst vs) ∧ VRs g F ρ xs vs ∧ F a = none ∧ a ∉ sh ρ ∧ b.H0 a = none ∧ (∀ (i : Nat) ys, fr[i]? = some (.mut ys) → σ[i]? ≠ some (some (.ref a))) ∧ ∀ q ∈ b.P, q.1 ≠ a
def DR (g : Gb) (_ : Bs) (F : Hp) (ρ : Rho) (_ : Hp) (_ : St) (_ : Fr) (w : W) (v : V) : Prop := VR g F ρ w.d v
def BR (_ : Gb) (_ : Bs) (_ : Hp) (_ : Rho) (_ : Hp) (_ : St) (_ : Fr) (a b : Bool) : Prop := a = b
def LR (g : Gb) (_ : Bs) (F : Hp) (ρ : Rho) (_ : Hp) (_ : St) (_ : Fr) (ds : List D) (vs : List V) : Prop := VRs g F ρ ds vs
def IR (_ : Gb) (_ : Bs) (_ : Hp) (_ : Rho) (_ : Hp) (_ : St) (_ : Fr) (a b : Option Int) : Prop := a = b
/-- an exception in the air -/
structure XR (g : Gb) (F : Hp) (ρ : Rho) (H : Hp) (c : Nat) (p : D) (cls : Value) (d : Option Addr) : Prop where
  cls : cls = .ref (g.ca c)
  fld : ∃ a v, d = some a ∧ H a = some (.xd [(g.cx c, v)]) ∧ VR g F ρ p v
abbrev Rel (α β : Type) := Gb → Bs → Hp → Rho → Hp → St → Fr → α → β → Prop
def Po {α β : Type} (g : Gb) (b : Bs) (wx : WX) (Rl : Rel α β) (r : R α) (F : Hp) (ρ : Rho) (σ : St) (fr : Fr) (Q : β → Hp → Prop) : Prop := match r with
  | .ok a st => ∀ F' ρ' H' v, Same F F' → ρ <+: ρ' → Ab g b F' ρ' σ H' fr st → Rl g b F' ρ' H' σ fr a v → Q v H'
  | .exc c p st => ∀ F' ρ' H' cls d, Same F F' → ρ <+: ρ' → Ab g b F' ρ' σ H' fr st → XR g F' ρ' H' c p cls d → wx cls d σ H'
  | .bad => False
def T {α β : Type} (g : Gb) (b : Bs) (wx : WX) (Rl : Rel α β) (f : Fr → Sto → R α) : St → Hp → (β → Hp → Prop) → Prop := fun σ H Q =>
  ∃ F ρ fr st, Ab g b F ρ σ H fr st ∧ Po g b wx Rl (f fr st) F ρ σ fr Q
section
variable {g : Gb} {b : Bs} {wx : WX} {F F' : Hp} {ρ ρ' : Rho} {σ : St} {H : Hp} {fr : Fr} {st : Sto}
theorem Po.mono {α β : Type} {Rl : Rel α β} {r : R α} {Q : β → Hp → Prop} (h : Po g b wx Rl r F ρ σ fr Q) (e : Same F F') (q : ρ <+: ρ') : Po g b wx Rl r F' ρ' σ fr Q := by
  cases r with
  | ok a st => exact fun F2 ρ2 H2 v s p => h F2 ρ2 H2 v (e.trans s) (q.trans p)
  | exc c p st => exact fun F2 ρ2 H2 cls d s p => h F2 ρ2 H2 cls d (e.trans s) (q.trans p)
  | bad => exact h
/-- one part after another -/
theorem Po.seq {α β γ δ : Type} {R1 : Rel α β} {R2 : Rel γ δ} {r : R α} {k : α → Sto → R γ} {Q : δ → Hp → Prop} {Q1 : β → Hp → Prop} (h : Po g b wx R2 (r.bind k) F ρ σ fr Q)
    (hk : ∀ a s1 F1 ρ1 H1 v, r = .ok a s1 → Same F F1 → ρ <+: ρ1 → Ab g b F1 ρ1 σ H1 fr s1 → R1 g b F1 ρ1 H1 σ fr a v → Po g b wx R2 (k a s1) F1 ρ1 σ fr Q → Q1 v H1) : Po g b wx R1 r F ρ σ fr Q1 := by
  cases r with
  | ok a st => exact fun F2 ρ2 H2 v s p A rl => hk a st F2 ρ2 H2 v rfl s p A rl (Po.mono (r := k a st) h s p)
  | exc c p st => exact h
  | bad => exact h.elim
theorem Ab.fresh0 (A : Ab g b F ρ σ H fr st) {p : Addr} (hp : H p = none) : b.H0 p = none := by
  cases e : b.H0 p with
  | none => rfl
  | some o =>
    by_cases m : p ∈ sh b.ρ0
    · obtain ⟨more, rfl, _⟩ := A.rho
      obtain ⟨x, q⟩ := A.sto.some A.sub (show p ∈ sh (b.ρ0 ++ more) from List.mem_append_left _ m)
      rw [hp] at q; cases q
    · rw [A.keep p o e m] at hp; cases hp
theorem Ab.nsh (A : Ab g b F ρ σ H fr st) {p : Addr} (hp : H p = none) : p ∉ sh ρ := fun m => by
  obtain ⟨x, q⟩ := A.sto.some A.sub m
  rw [hp] at q; cases q
theorem Ab.nF (A : Ab g b F ρ σ H fr st) {p : Addr} (hp : H p = none) : F p = none := A.sub.free hp
theorem same_upd {H : Hp} {p : Addr} {o : HO} (h : H p = none) : Same H (upd H p o) := fun c x e => by
  rw [upd_ne (ne_of_none e h)]
  exact e
theorem Ab.npin (A : Ab g b F ρ σ H fr st) {p : Addr} (hp : H p = none) {q : Addr × HO} (hq : q ∈ b.P) : q.1 ≠ p := fun z => by
  have h := (A.pin q hq).1
  rw [z, hp] at h; cases h
/-- something new, owned -/
theorem Ab.alloc (A : Ab g b F ρ σ H fr st) {p : Addr} (o : HO) (hp : H p = none) : Ab g b F ρ σ (upd H p o) fr st where
  sub := A.sub.trans (same_upd hp)
  ext := A.ext
  new := A.new
  rho := A.rho
  keep := fun a x e m => same_upd hp _ _ (A.keep a x e m)
  fsh := A.fsh
  sto := A.sto.of fun a ha => upd_ne fun z => A.nsh hp (z ▸ ha)
  len := A.len
  dat := A.dat
  mu := fun i xs e => by
    obtain ⟨a, vs, h1, h2, h3⟩ := A.mu i xs e
    exact ⟨a, vs, h1, same_upd hp _ _ h2, h3⟩
  apart := A.apart
  pin := fun q hq => by
    obtain ⟨h1, h2⟩ := A.pin q hq
    exact ⟨same_upd hp _ _ h1, h2⟩
/-- something that is owned (or tracked by nobody) becomes data -/
theorem Ab.frzAt (A : Ab g b F ρ σ H fr st) {p : Addr} {o : HO} (hp : H p = some o) (h1 : F p = none) (h2 : p ∉ sh ρ) (h3 : b.H0 p = none) (h4 : ∀ (i : Nat) ys, fr[i]? = some (.mut ys) → σ[i]? ≠ some (some (.ref p))) (h5 : ∀ q ∈ b.P, q.1 ≠ p) :
    Ab g b (upd F p o) ρ σ H fr st ∧ Same F (upd F p o) := by
  have s : Same F (upd F p o) := same_upd h1
  refine ⟨?_, s⟩
  exact {
    sub := fun a x e => by
      by_cases z : a = p
      · subst z; rw [upd_same] at e; cases e; exact hp
      · rw [upd_ne z] at e; exact A.sub _ _ e
    ext := A.ext.trans s
    new := fun a x e => by
      by_cases z : a = p
      · subst z; exact .inr (.inl h3)
      · rw [upd_ne z] at e; exact A.new _ _ e
    rho := A.rho
    keep := A.keep
    fsh := fun n a o' ha hs hl => by
      rw [upd_ne (show a ≠ p from fun z => h2 (z ▸ List.mem_of_getElem? ha))]
      exact A.fsh n a o' ha hs hl
    sto := A.sto.mono s
    len := A.len
    dat := fun i d e => by
      obtain ⟨v, q1, q2⟩ := A.dat i d e
      exact ⟨v, q1, q2.mono s (List.prefix_refl _)⟩
    mu := fun i xs e => by
      obtain ⟨a, vs, q1, q2, q3, q4, q5, q6⟩ := A.mu i xs e
      refine ⟨a, vs, q1, q2, q3.mono s (List.prefix_refl _), ?_, q5, q6⟩
      rw [upd_ne (show a ≠ p from fun z => h4 i xs e (z ▸ q1))]
      exact q4
    apart := A.apart
    pin := fun q hq => by
      obtain ⟨q1, q2, q3⟩ := A.pin q hq
      refine ⟨q1, ?_, q3⟩
      rw [upd_ne (h5 q hq)]
      exact q2 }
/-- something new as data -/
theorem Ab.allocF (A : Ab g b F ρ σ H fr st) {p : Addr} (o : HO) (hp : H p = none) : Ab g b (upd F p o) ρ σ (upd H p o) fr st ∧ Same F (upd F p o) :=
  (A.alloc o hp).frzAt upd_same (A.nF hp) (A.nsh hp) (A.fresh0 hp) (fun i ys e z => by
    obtain ⟨a, vs, q1, q2, _⟩ := A.mu i ys e
    rw [z] at q1; cases q1
    rw [hp] at q2; cases q2) fun q hq => A.npin hp hq
theorem WR.frz {w : W} {v : V} (A : Ab g b F ρ σ H fr st) (h : WR g b F ρ H σ fr w v) : ∃ F', Same F F' ∧ Ab g b F' ρ σ H fr st ∧ VR g F' ρ w.d v := by
  cases w with
  | dat d => exact ⟨F, .refl _, A, (show VR g F ρ d v from h)⟩
  | own xs =>
    obtain ⟨a, vs, rfl, h1, h2, h3, h4, h5, h6, h7⟩ := h
    obtain ⟨A', s⟩ := A.frzAt h1 h3 h4 h5 h6 h7
    exact ⟨_, s, A', .lst upd_same (h2.mono s (List.prefix_refl _))⟩
/-- a new list is an owned result -/
theorem Ab.own (A : Ab g b F ρ σ H fr st) {p : Addr} (hp : H p = none) {xs : List D} {vs : List V} (h : VRs g F ρ xs vs) : WR g b F ρ (upd H p (.lst vs)) σ fr (.own xs) (.ref p) :=
  ⟨p, vs, rfl, upd_same, h, A.nF hp, A.nsh hp, A.fresh0 hp, (fun i ys e z => by
    obtain ⟨a, vs, q1, q2, _⟩ := A.mu i ys e
    rw [z] at q1; cases q1
    rw [hp] at q2; cases q2), fun q hq => A.npin hp hq⟩
end
theorem PE.by {X : Cx} {e : Expr} {t' : TE} (h : ∀ σ H Q, t' σ H Q → ∃ t, PE X e t ∧ t σ H Q) : PE X e t' := ⟨fun pins s σ H Q I q => by
  obtain ⟨t, p, q'⟩ := h σ H Q q
  exact p.run pins s σ H Q I q'⟩
theorem PT.by {X : Cx} {e : Expr} {t' : TT} (h : ∀ σ H Q, t' σ H Q → ∃ t, PT X e t ∧ t σ H Q) : PT X e t' := ⟨fun pins s σ H Q I q => by
  obtain ⟨t, p, q'⟩ := h σ H Q q
  exact p.run pins s σ H Q I q'⟩
theorem PA.by {X : Cx} {e : List Expr} {t' : TA} (h : ∀ σ H Q, t' σ H Q → ∃ t, PA X e t ∧ t σ H Q) : PA X e t' := ⟨fun pos pins s σ H Q I q => by
  obtain ⟨t, p, q'⟩ := h σ H Q q
  exact p.run pos pins s σ H Q I q'⟩
theorem PSs.by {X : Cx} {e : List Stmt} {t' : TS} (h : ∀ D σ H, t' D σ H → ∃ t, PSs X e t ∧ t D σ H) : PSs X e t' := ⟨fun pins s σ H D I q => by
  obtain ⟨t, p, q'⟩ := h D σ H q
  exact p.run pins s σ H D I q'⟩
theorem PS.by {X : Cx} {e : Stmt} {t' : TS} (h : ∀ D σ H, t' D σ H → ∃ t, PS X e t ∧ t D σ H) : PS X e t' := ⟨fun pins s σ H D I q => by
  obtain ⟨t, p, q'⟩ := h D σ H q
  exact p.run pins s σ H D I q'⟩
section
variable {g : Gb} {b : Bs} {wx : WX} {X : Cx}
/-- as data -/
theorem _root_.L2.PE.dat {e : Expr} {f : Fr → Sto → R W} (h : PE X e (T g b wx WR f)) : PE X e (T g b wx DR f) := PE.by fun σ H Q q => by
  refine ⟨_, h, ?_⟩
  obtain ⟨F, ρ, fr, st, A, p⟩ := q
  refine ⟨F, ρ, fr, st, A, ?_⟩
  cases r : f fr st with
  | ok w s1 =>
    rw [r] at p
    intro F1 ρ1 H1 v s q A1 rl
    obtain ⟨F2, s2, A2, rv⟩ := rl.frz A1
    exact p F2 ρ1 H1 v (s.trans s2) q A2 rv
  | exc c p' s1 => rw [r] at p; exact p
  | bad => rw [r] at p; exact p.elim
end
end MP

set_option Elab.async false
set_option linter.all false
set_option maxRecDepth 100000
set_option maxHeartbeats 8000000
namespace MP
open PySem PySem.Spec PyProof.Rows L2
theorem tuple_mulS (l : Addr) (items : Array Value) (n : Nat) (dd : Option Addr) (sl : Array (Option Value)) (x : Int) (u : Tok) (c0 : (decide (x < -(2 ^ 63)) || decide (x ≥ 2 ^ 63)) = false) (c1 : (items.isEmpty || x == 1) = true) :
    Meets (Builtin.«tuple.__mul__» ⟨[.ref l, .int x u], []⟩) (fun _ R s => s.heap.get? l = some { cls := .type "tuple", dict := dd, data := .seq items n, slots := sl } ∧ R (.ok (.ret (Value.ref l))) s) :=
  .of_wp fun prog w A R s h => by
    obtain ⟨hp, g, d, tk, os⟩ := s
    obtain ⟨hl, h⟩ := h
    have f1 := AutoSeq1.idx_int
    wp_walk using wpAny_loadPart' hl
    repeat (first
      | (refine wpAny_ite_false (decide_eq_false (by rw [c0]; exact Bool.false_ne_true)) ?_; wp_walk using wpAny_loadPart' hl)
      | (refine wpAny_ite_true (decide_eq_true (by rw [c1])) ?_; wp_walk using wpAny_loadPart' hl))
    exact ⟨_, rfl, h⟩
theorem tuple_mulZ (l : Addr) (items : Array Value) (n : Nat) (dd : Option Addr) (sl : Array (Option Value)) (x : Int) (u : Tok) (c0 : (decide (x < -(2 ^ 63)) || decide (x ≥ 2 ^ 63)) = false) (c1 : (items.isEmpty || x == 1) = false) (c2 : (decide (x ≤ 0) || items.isEmpty) = true) :
    Meets (Builtin.«tuple.__mul__» ⟨[.ref l, .int x u], []⟩) (fun _ R s => s.heap.get? l = some { cls := .type "tuple", dict := dd, data := .seq items n, slots := sl } ∧
      R (.ok (.ret (Value.ref s.heap.objs.size))) { s with heap := s.heap.push { cls := Value.type "tuple", data := Data.seq #[] }, toks := s.toks }) :=
  .of_wp fun prog w A R s h => by
    obtain ⟨hp, g, d, tk, os⟩ := s
    obtain ⟨hl, h⟩ := h
    have f1 := AutoSeq1.idx_int
    wp_walk using wpAny_loadPart' hl
    repeat (first
      | (refine wpAny_ite_false (decide_eq_false (by rw [c0]; exact Bool.false_ne_true)) ?_; wp_walk using wpAny_loadPart' hl)
      | (refine wpAny_ite_false (decide_eq_false (by rw [c1]; exact Bool.false_ne_true)) ?_; wp_walk using wpAny_loadPart' hl)
      | (refine wpAny_ite_true (decide_eq_true (by rw [c2])) ?_; wp_walk using wpAny_loadPart' hl))
    exact ⟨_, rfl, h⟩
/-- a tuple times a number -/
theorem op_repAny {X : Cx} : OpR X (binaryOp .Mult) (fun x y H Q => ∃ l k xs, x = .ref l ∧ y = .int k ∧ SqT X.K H l xs ∧ -1000 ≤ k ∧ k ≤ 1000 ∧ xs.length ≤ 1000 ∧
    ((List.replicate k.toNat xs).flatten = xs → Q (.ref l) H) ∧ ∀ p, H p = none → Q (.ref p) (upd H p (.tup (List.replicate k.toNat xs).flatten))) := by
  intro pins s σ H x y v u Q I rx ry h
  obtain ⟨l, k, xs, rfl, rfl, hT, h1, h2, hz, q1, q2⟩ := h
  by_cases e1 : xs ≠ [] ∧ 2 ≤ k
  · exact op_repT pins s σ H _ _ v u Q I rx ry ⟨l, k, xs, rfl, rfl, hT, e1.1, e1.2, h2, hz, q2⟩
  cases rx
  obtain ⟨t, rfl⟩ := ry
  obtain ⟨its, r, ⟨⟨cls, dd, data, sl⟩, ho, hc, n, hd⟩, hs⟩ := I.tuple hT
  simp only at hc hd
  subst hc hd
  have hle : its.length = xs.length := r.length.symm
  have c0 : (decide (k < -(2 ^ 63)) || decide (k ≥ 2 ^ 63)) = false := by
    rw [decide_eq_false (by omega), decide_eq_false (by omega)] <;> rfl
  cases c1 : (its.toArray.isEmpty || k == 1) with
  | true =>
    refine wpAny_binaryOp_repeat_ref (T := "tuple") (U := "int") (by decide) ⟨_, ho, rfl⟩ (fun s' => typeIs_int s' k t) noFill_tuple_mul F.fills_int_mul F.slot_int_rmul repeat_tuple F.slot_int_index.lookup
      (call_meets F.slot_int_rmul (typeIs_int s k t) F.entry_int_rmul (F.args_int_rmul_2 _ _) (int_rmul_tuple k t l its.toArray n dd sl)
        ⟨ho, rfl, ⟨_, ho, rfl⟩, call_meets F.slot_tuple_mul ⟨_, ho, rfl⟩ F.entry_tuple_mul (F.args_tuple_mul_2 _ _) (tuple_mulS l its.toArray n dd sl k t c0 c1) ⟨ho, ?_⟩⟩)
    refine ⟨.ref l, H, I, rfl, q1 ?_⟩
    rcases Bool.or_eq_true _ _ ▸ c1 with e | e
    · have : its = [] := by simpa using e
      rw [this] at hle
      have : xs = [] := List.eq_nil_of_length_eq_zero hle.symm
      rw [this]; simp
    · have : k = 1 := eq_of_beq e
      rw [this]; simp
  | false =>
    have c1' := c1
    rw [Bool.or_eq_false_iff] at c1'
    have hne : xs ≠ [] := fun e => by
      rw [e] at hle
      have : its = [] := List.eq_nil_of_length_eq_zero hle
      rw [this] at c1'; cases c1'.1
    have hk1 : k ≠ 1 := fun e => by rw [e] at c1'; cases c1'.2
    have hk : k ≤ 0 := by
      have : ¬ 2 ≤ k := fun e => e1 ⟨hne, e⟩
      omega
    refine wpAny_binaryOp_repeat_ref (T := "tuple") (U := "int") (by decide) ⟨_, ho, rfl⟩ (fun s' => typeIs_int s' k t) noFill_tuple_mul F.fills_int_mul F.slot_int_rmul repeat_tuple F.slot_int_index.lookup
      (call_meets F.slot_int_rmul (typeIs_int s k t) F.entry_int_rmul (F.args_int_rmul_2 _ _) (int_rmul_tuple k t l its.toArray n dd sl)
        ⟨ho, rfl, ⟨_, ho, rfl⟩, call_meets F.slot_tuple_mul ⟨_, ho, rfl⟩ F.entry_tuple_mul (F.args_tuple_mul_2 _ _) (tuple_mulZ l its.toArray n dd sl k t c0 c1 (by rw [decide_eq_true hk]; rfl)) ⟨ho, ?_⟩⟩)
    have ek : k.toNat = 0 := by omega
    rw [ek] at q2
    refine ⟨.ref s.heap.objs.size, _, I.laid (t' := s.toks) (o := .tup (List.replicate 0 xs).flatten) (fun b ob q => Heap.get?_push_of_some _ q) (Nat.le_refl _) ?_, rfl, q2 _ (I.hok.fresh (Nat.le_refl _))⟩
    exact ⟨Nat.zero_le _, [], .nil, IsTup.new _ _⟩
theorem shownAll_map (n : Nat) : ∀ xs : List D, PyData.shownAll (xs.map (toPy n)) = xs.map fun x => (toPy n x).shown
  | [] => rfl
  | x :: xs => by
    show (toPy n x).shown :: PyData.shownAll (xs.map (toPy n)) = _
    rw [shownAll_map n xs]; rfl
theorem sum_le {f h : D → Nat} : ∀ xs : List D, (∀ x ∈ xs, f x ≤ h x) → (xs.map f).sum + 2 * xs.length ≤ (xs.map fun x => h x + 2).sum
  | [], _ => by simp
  | x :: xs, q => by
    have h1 := q x (by simp)
    have h2 := sum_le xs fun y hy => q y (by simp [hy])
    simp only [List.map_cons, List.sum_cons, List.length_cons]
    omega
theorem int_wt (i : Int) (h : i.natAbs.log2 < 1920) : (PyData.shown (.int i)).length ≤ (if i.natAbs < 10 ^ 18 then 20 else 2000) := by
  have e : (PyData.shown (.int i)).length = (toString i).length := by
    show (Str.ofString (toString i)).length = _
    rw [PySem.ofString_length]
  rw [e]
  split
  · rename_i q
    have := int_text_length_le10 (k := 18) (by decide) q
    omega
  · have := int_text_length_le (k := 1920) (by decide) h
    omega
theorem str_wt (s : Str) (h : PyData.strOk s = true) : (PyData.shown (.str s)).length ≤ 10 * s.length + 2 := by
  have e := StrLaws.reprText_len s (by
    intro c hc
    have := Array.all_eq_true'.mp h c (Array.mem_toList_iff.mp hc)
    have h2 : c < 0x110000 := of_decide_eq_true this
    omega)
  show (reprText s).length ≤ _
  omega
theorem wt_py : ∀ (n : Nat) (d : D), okD n d = true → showD n d = true → (toPy n d).shown.length ≤ wt n d
  | 0, .non, _, _ => by decide
  | 0, .bl b, _, _ => by cases b <;> decide
  | 0, .int i, _, q => int_wt i (by simpa [showD] using q)
  | 0, .str s, h, _ => str_wt s h
  | n + 1, .non, _, _ => show (PyData.shown .none).length ≤ 4 by decide
  | n + 1, .bl b, _, _ => show (PyData.shown (.bool b)).length ≤ 5 by cases b <;> decide
  | n + 1, .int i, _, q => int_wt i (by simpa [showD] using q)
  | n + 1, .str s, h, _ => str_wt s h
  | 0, .tup _, h, _ => by cases h
  | 0, .lst _, h, _ => by cases h
  | 0, .emp, h, _ => by cases h
  | 0, .ref _, h, _ => by cases h
  | 0, .fn _, h, _ => by cases h
  | 0, .scr _, h, _ => by cases h
  | n + 1, .emp, h, _ => by cases h
  | n + 1, .ref _, h, _ => by cases h
  | n + 1, .fn _, h, _ => by cases h
  | n + 1, .scr _, h, _ => by cases h
  | n + 1, .tup xs, h, q => by
    show (tupleText (PyData.shownAll (xs.map (toPy n)))).length ≤ 3 + (xs.map fun x => wt n x + 2).sum
    have h2 := tupleText_len_le (PyData.shownAll (xs.map (toPy n)))
    rw [shownAll_map] at h2 ⊢
    have h3 := sum_le (f := fun x => (toPy n x).shown.length) (h := wt n) xs fun x hx => wt_py n x (List.all_eq_true.mp h x hx) (List.all_eq_true.mp q x hx)
    rw [List.map_map, List.length_map] at h2
    have e : ((fun x => Str.length x) ∘ fun x => (toPy n x).shown) = fun x => (toPy n x).shown.length := rfl
    rw [e] at h2
    omega
  | n + 1, .lst xs, h, q => by
    show (listText (PyData.shownAll (xs.map (toPy n)))).length ≤ 3 + (xs.map fun x => wt n x + 2).sum
    have h2 := listText_len_le (PyData.shownAll (xs.map (toPy n)))
    rw [shownAll_map] at h2 ⊢
    have h3 := sum_le (f := fun x => (toPy n x).shown.length) (h := wt n) xs fun x hx => wt_py n x (List.all_eq_true.mp h x hx) (List.all_eq_true.mp q x hx)
    rw [List.map_map, List.length_map] at h2
    have e : ((fun x => Str.length x) ∘ fun x => (toPy n x).shown) = fun x => (toPy n x).shown.length := rfl
    rw [e] at h2
    omega
end MP

set_option Elab.async false
set_option linter.all false
set_option maxRecDepth 100000
namespace MP
open PySem PySem.Spec L2

/-- the context in which a body runs -/
structure Gd (g : Gb) (wx : WX) (k : Nat) (X : Cx) : Prop where
  hP : X.prog = g.P
  hw : X.w = g.w
  hK : X.K = g.K
  hmg : X.mg = g.mg
  hbase : X.base = g.base
  calm : X.calm = true
  nd : X.N.Nodup
  room : Room k X.A
  guards : X.A.guards = some []
  takes : Takes X wx
  own : PassesOwn (model X.prog X.w) X.A X.env X.xe
section
variable {g : Gb} {b : Bs} {wx : WX} {k : Nat} {X : Cx} {F : Hp} {ρ : Rho} {σ : L2.St} {H : Hp} {fr : Fr} {st : Sto} {Q : VK} {x y : D} {v u : V}
theorem pfx (ρ : Rho) : ρ <+: ρ := List.prefix_refl _
/-- a plain answer -/
theorem Po.dat {d : D} {v : V} (p : Po g b wx WR (.ok (.dat d) st) F ρ σ fr Q) (A : Ab g b F ρ σ H fr st) (r : VR g F ρ d v) : Q v H := p F ρ H v (.refl _) (pfx _) A r
/-- a new tuple, a new list -/
theorem Po.tup {xs : List D} {vs : List V} (p : Po g b wx WR (.ok (.dat (.tup xs)) st) F ρ σ fr Q) (A : Ab g b F ρ σ H fr st) (r : VRs g F ρ xs vs) : ∀ q, H q = none → Q (.ref q) (upd H q (.tup vs)) := fun q hq => by
  obtain ⟨A', s⟩ := A.allocF (.tup vs) hq
  exact p _ ρ _ _ s (pfx _) A' (.tup (.inl (.inl upd_same)) (r.mono s (pfx _)))
theorem Po.lst {xs : List D} {vs : List V} (p : Po g b wx WR (.ok (.own xs) st) F ρ σ fr Q) (A : Ab g b F ρ σ H fr st) (r : VRs g F ρ xs vs) : ∀ q, H q = none → Q (.ref q) (upd H q (.lst vs)) := fun q hq =>
  p F ρ _ _ (.refl _) (pfx _) (A.alloc _ hq) (A.own hq r)
theorem Ab.sqT (A : Ab g b F ρ σ H fr st) {K : PySem.W.Frag} {a : Addr} {vs : List V} (h : SqT K F a vs) : SqT K H a vs := same_seqT A.sub h

def opOf : Bop → Operator
  | .add => .Add
  | .sub => .Sub
  | .mul => .Mult
  | .fdiv => .FloorDiv
  | .mod => .Mod
  | .pow => .Pow
theorem lt_log {n m : Nat} (h0 : 0 < m) (h : n < 2 ^ m) : n.log2 < m := PySem.Flt.log2_lt_of h0 h
theorem bin_ok (G : Gd g wx k X) (o : Bop) (A : Ab g b F ρ σ H fr st) (rv : VR g F ρ x v) (ru : VR g F ρ y u) (p : Po g b wx WR (opt (binD o x y) st) F ρ σ fr Q) : ∃ r, OpR X (binaryOp (opOf o)) r ∧ r v u H Q := by
  unfold binD at p
  split at p
  · cases rv; cases ru
    exact ⟨_, op_add, _, _, rfl, rfl, p.dat A (.int _)⟩
  · cases rv; cases ru
    split at p
    · exact ⟨_, op_add_str, _, _, rfl, rfl, by assumption, p.dat A (.str _)⟩
    · exact p.elim
  · rename_i xs ys
    obtain ⟨a, vs, rfl, a1, a2⟩ := rv.tupI
    obtain ⟨a', us, rfl, b1, b2⟩ := ru.tupI
    split at p
    · rename_i h
      refine ⟨_, op_catA, a, a', vs, us, rfl, rfl, ?_, ?_, by rw [← a2.length, ← b2.length]; exact h, fun e => ?_, fun e1 e2 => ?_, fun _ _ => ?_⟩
      · rw [G.hK]; exact A.sqT a1
      · rw [G.hK]; exact A.sqT b1
      · subst e
        have e0 : xs = [] := List.eq_nil_of_length_eq_zero a2.length
        subst e0
        exact p.dat A (.tup b1 b2)
      · subst e2
        have e0 : ys = [] := List.eq_nil_of_length_eq_zero b2.length
        subst e0
        exact p.dat A (.tup a1 (by rw [List.append_nil]; exact a2))
      · exact p.tup A (a2.append b2)
    · exact p.elim
  · obtain ⟨a, vs, rfl, a1, a2⟩ := rv.lstI
    obtain ⟨a', us, rfl, b1, b2⟩ := ru.lstI
    split at p
    · rename_i h
      exact ⟨_, op_cat, _, _, _, _, rfl, rfl, A.sub _ _ a1, A.sub _ _ b1, by rw [← a2.length, ← b2.length]; exact h, p.lst A (a2.append b2)⟩
    · exact p.elim
  · cases rv; cases ru
    exact ⟨_, op_sub, _, _, rfl, rfl, p.dat A (.int _)⟩
  · cases rv; cases ru
    split at p
    · rename_i h
      simp only [mulOk, Bool.and_eq_true, Bool.or_eq_true, decide_eq_true_eq] at h
      rcases h with (h | h) | h
      · exact ⟨_, op_mul, _, _, rfl, rfl, .inl ⟨by omega, by omega⟩, p.dat A (.int _)⟩
      · exact ⟨_, op_mul, _, _, rfl, rfl, .inr ⟨by omega, by omega⟩, p.dat A (.int _)⟩
      · refine ⟨_, op_mulW, _, _, rfl, rfl, ?_, p.dat A (.int _)⟩
        exact wide_mul (a := big) (b := big) h.1 h.2 (by decide) (by decide) (by decide)
    · exact p.elim
  · obtain ⟨a, vs, rfl, a1, a2⟩ := rv.lstI
    cases ru
    split at p
    · rename_i h
      simp only [Bool.and_eq_true, decide_eq_true_eq] at h
      exact ⟨_, op_rep, _, _, _, rfl, rfl, A.sub _ _ a1, h.1.1, h.1.2, by rw [← a2.length]; exact h.2, p.lst A (a2.rep _)⟩
    · exact p.elim
  · rename_i xs j
    obtain ⟨a, vs, rfl, a1, a2⟩ := rv.tupI
    have e1 := ru.intI
    subst e1
    split at p
    · rename_i h
      simp only [Bool.and_eq_true, decide_eq_true_eq] at h
      refine ⟨_, op_repAny, a, j, vs, rfl, rfl, by rw [G.hK]; exact A.sqT a1, h.1.1, h.1.2, by rw [← a2.length]; exact h.2, fun e => ?_, p.tup A (a2.rep _)⟩
      have r := a2.rep j.toNat
      rw [e] at r
      exact p.dat A (.tup a1 r)
    · exact p.elim
  · cases rv; cases ru
    split at p
    · rename_i h
      simp only [divOk, Bool.and_eq_true, decide_eq_true_eq] at h
      exact ⟨_, op_fdivW, _, _, rfl, rfl, wide_div h.1 h.2 (by decide) (by decide), p.dat A (.int _)⟩
    · exact p.elim
  · cases rv; cases ru
    split at p
    · rename_i h
      exact ⟨_, op_mod, _, _, rfl, rfl, of_decide_eq_true h, p.dat A (.int _)⟩
    · exact p.elim
  · cases rv; cases ru
    split at p
    · rename_i h
      simp only [Bool.and_eq_true, decide_eq_true_eq] at h
      exact ⟨_, op_pow, _, _, rfl, rfl, ⟨h.1.1, by omega, h.2⟩, p.dat A (.int _)⟩
    · exact p.elim
  · exact p.elim

/-! ### comparisons -/
def cpOf : Cop → CmpOp
  | .eq => .Eq
  | .ne => .NotEq
  | .lt => .Lt
  | .le => .LtE
  | .gt => .Gt
  | .ge => .GtE
  | .inn => .In
  | .nin => .NotIn
  | .is => .Is
  | .isnot => .IsNot
theorem all_map {α β : Type} {f : α → β} {p : β → Bool} (l : List α) : (l.map f).all p = l.all fun x => p (f x) := by
  induction l with
  | nil => rfl
  | cons a r ih => simp [ih]
theorem canLay_all : ∀ ds : List PyData, PyData.canLayAll0 ds = ds.all PyData.canLay0
  | [] => rfl
  | d :: ds => by
    show (PyData.canLay0 d && PyData.canLayAll0 ds) = _
    rw [canLay_all ds]; rfl
theorem ok_lay : ∀ (n : Nat) (d : D), okD n d = true → (toPy n d).canLay0 = true
  | n, .non, _ => by cases n <;> rfl
  | n, .bl _, _ => by cases n <;> rfl
  | n, .int _, _ => by cases n <;> rfl
  | n, .str s, h => by cases n <;> exact h
  | 0, .tup _, h => by cases h
  | 0, .lst _, h => by cases h
  | 0, .emp, h => by cases h
  | 0, .ref _, h => by cases h
  | 0, .fn _, h => by cases h
  | 0, .scr _, h => by cases h
  | n + 1, .emp, h => by cases h
  | n + 1, .ref _, h => by cases h
  | n + 1, .fn _, h => by cases h
  | n + 1, .scr _, h => by cases h
  | n + 1, .tup xs, h => by
    show PyData.canLayAll0 (xs.map (toPy n)) = true
    rw [canLay_all, all_map]
    exact List.all_eq_true.mpr fun x hx => ok_lay n x (List.all_eq_true.mp h x hx)
  | n + 1, .lst xs, h => by
    show PyData.canLayAll0 (xs.map (toPy n)) = true
    rw [canLay_all, all_map]
    exact List.all_eq_true.mpr fun x hx => ok_lay n x (List.all_eq_true.mp h x hx)
theorem depth_all : ∀ (n : Nat) (ds : List PyData), (∀ d ∈ ds, d.depth ≤ n) → PyData.depthAll ds ≤ n
  | n, [], _ => by simp [PyData.depthAll]
  | n, d :: ds, h => by
    have h1 := h d List.mem_cons_self
    have h2 := depth_all n ds fun x hx => h x (List.mem_cons_of_mem _ hx)
    simp only [PyData.depthAll]
    omega
theorem ok_depth : ∀ (n : Nat) (d : D), (toPy n d).depth ≤ n + 1
  | n, .non => by cases n <;> simp [toPy, PyData.depth]
  | n, .bl _ => by cases n <;> simp [toPy, PyData.depth]
  | n, .int _ => by cases n <;> simp [toPy, PyData.depth]
  | n, .str s => by cases n <;> simp [toPy, PyData.depth]
  | 0, .tup _ => by simp [toPy, PyData.depth]
  | 0, .lst _ => by simp [toPy, PyData.depth]
  | 0, .emp => by simp [toPy, PyData.depth]
  | 0, .ref _ => by simp [toPy, PyData.depth]
  | 0, .fn _ => by simp [toPy, PyData.depth]
  | 0, .scr _ => by simp [toPy, PyData.depth]
  | n + 1, .emp => by simp [toPy, PyData.depth, PyData.depthKv]
  | n + 1, .ref _ => by simp [toPy, PyData.depth]
  | n + 1, .fn _ => by simp [toPy, PyData.depth]
  | n + 1, .scr _ => by simp [toPy, PyData.depth]
  | n + 1, .tup xs => by
    have := depth_all (n + 1) (xs.map (toPy n)) fun d hd => by
      obtain ⟨x, _, rfl⟩ := List.mem_map.mp hd
      exact ok_depth n x
    simp only [toPy, PyData.depth]
    omega
  | n + 1, .lst xs => by
    have := depth_all (n + 1) (xs.map (toPy n)) fun d hd => by
      obtain ⟨x, _, rfl⟩ := List.mem_map.mp hd
      exact ok_depth n x
    simp only [toPy, PyData.depth]
    omega
theorem ok_shaped {d : D} (h : okD 60 d = true) : SeqAt.shaped (toPy 60 d) = true := by
  unfold SeqAt.shaped
  rw [ok_lay 60 d h, Bool.true_and]
  exact decide_eq_true (Nat.le_trans (ok_depth 60 d) (by decide))
mutual
theorem VR.dp {K : PySem.W.Frag} (hK : K = g.K) (hs : Same F H) : ∀ (n : Nat) (d : D) (v : V), okD n d = true → VR g F ρ d v → Dp K H v (toPy n d)
  | n, .non, _, _, h => by cases h; cases n <;> exact .non
  | n, .bl b, _, _, h => by cases h; cases n <;> exact .bl b
  | n, .int i, _, _, h => by cases h; cases n <;> exact .int i
  | n, .str s, _, _, h => by cases h; cases n <;> exact .str s
  | 0, .tup _, _, h, _ => by cases h
  | 0, .lst _, _, h, _ => by cases h
  | 0, .emp, _, h, _ => by cases h
  | 0, .ref _, _, h, _ => by cases h
  | 0, .fn _, _, h, _ => by cases h
  | 0, .scr _, _, h, _ => by cases h
  | n + 1, .emp, _, h, _ => by cases h
  | n + 1, .ref _, _, h, _ => by cases h
  | n + 1, .fn _, _, h, _ => by cases h
  | n + 1, .scr _, _, h, _ => by cases h
  | n + 1, .tup xs, _, h, r => by
    obtain ⟨a, vs, rfl, r1, r2⟩ := r.tupI
    refine .tup ?_ (VR.dps hK hs n xs vs h r2)
    rw [hK]
    exact same_seqT hs r1
  | n + 1, .lst xs, _, h, r => by
    obtain ⟨a, vs, rfl, r1, r2⟩ := r.lstI
    exact .lst (.inl (.inl (hs _ _ r1))) (VR.dps hK hs n xs vs h r2)
theorem VR.dps {K : PySem.W.Frag} (hK : K = g.K) (hs : Same F H) : ∀ (n : Nat) (ds : List D) (vs : List V), ds.all (okD n) = true → VRs g F ρ ds vs → DpAll K H vs (ds.map (toPy n))
  | n, [], _, _, h => by cases h; exact .nil
  | n, d :: ds, _, o, h => by
    simp only [List.all_cons, Bool.and_eq_true] at o
    cases h with
    | cons a b => exact .cons (VR.dp hK hs n d _ o.1 a) (VR.dps hK hs n ds _ o.2 b)
end
theorem flat_of {d : D} {v : V} (h : VR g F ρ d v) (s : scalar d = true) : flatV v = true := by
  cases d <;> first | (cases s; done) | (cases h; rfl)
theorem flats_of : ∀ {ds : List D} {vs : List V}, VRs g F ρ ds vs → ds.all scalar = true → vs.all flatV = true
  | [], _, h, _ => by cases h; rfl
  | d :: ds, _, h, s => by
    simp only [List.all_cons, Bool.and_eq_true] at s
    cases h with
    | cons a b => simp only [List.all_cons, Bool.and_eq_true]; exact ⟨flat_of a s.1, flats_of b s.2⟩
theorem eqV_of {d e : D} {v u : V} (h : VR g F ρ d v) (h' : VR g F ρ e u) (s : scalar d = true) (s' : scalar e = true) : eqV v u = eqD d e := by
  cases d <;> first | (cases s; done) | (cases e <;> first | (cases s'; done) | (cases h; cases h'; simp [eqV, eqD, toPy, PyData.eqv]))
theorem inV_of {d : D} {v : V} (h : VR g F ρ d v) (s : scalar d = true) : ∀ {ds : List D} {vs : List V}, VRs g F ρ ds vs → ds.all scalar = true → inV v vs = inD d ds
  | [], _, r, _ => by cases r; rfl
  | e :: ds, _, r, q => by
    simp only [List.all_cons, Bool.and_eq_true] at q
    cases r with
    | cons a b =>
      have ih := inV_of h s b q.2
      unfold inV inD at *
      rw [List.any_cons, List.any_cons, ih, eqV_of a h q.1 s]
theorem cmp_ok (G : Gd g wx k X) (o : Cop) (A : Ab g b F ρ σ H fr st) (rv : VR g F ρ x v) (ru : VR g F ρ y u) {c : Bool} (e : cmpD o x y = some c) {Q : VK} (q : Q (.bl c) H) : ∃ r, OpR X (compareOp (cpOf o)) r ∧ r v u H Q := by
  unfold cmpD at e
  split at e
  · cases e; cases rv; cases ru
    exact ⟨_, op_lt, _, _, rfl, rfl, q⟩
  · cases e; cases rv; cases ru
    exact ⟨_, op_le, _, _, rfl, rfl, q⟩
  · cases e; cases rv; cases ru
    exact ⟨_, op_gt, _, _, rfl, rfl, q⟩
  · cases e; cases rv; cases ru
    exact ⟨_, op_ge, _, _, rfl, rfl, q⟩
  · rename_i x y
    cases e; cases rv; cases ru
    refine ⟨_, op_eq, rfl, ?_⟩
    rw [show decide (V.str x = V.str y) = decide (x = y) by by_cases h : x = y <;> simp [h]]
    exact q
  · rename_i x y
    cases e; cases rv; cases ru
    refine ⟨_, op_ne, rfl, ?_⟩
    rw [show decide (V.str x = V.str y) = decide (x = y) by by_cases h : x = y <;> simp [h]]
    exact q
  · split at e
    · rename_i h
      simp only [Bool.and_eq_true] at h
      cases e
      exact ⟨_, op_eqD G.room.units, _, _, VR.dp G.hK A.sub 60 _ _ h.1 rv, VR.dp G.hK A.sub 60 _ _ h.2 ru, ok_shaped h.1, ok_shaped h.2, q⟩
    · cases e
  · split at e
    · rename_i h
      simp only [Bool.and_eq_true] at h
      cases e
      exact ⟨_, op_neD G.room.units, _, _, VR.dp G.hK A.sub 60 _ _ h.1 rv, VR.dp G.hK A.sub 60 _ _ h.2 ru, ok_shaped h.1, ok_shaped h.2, q⟩
    · cases e
  · have e2 := ru.nonI
    subst e2
    refine ⟨_, op_isN, rfl, ?_⟩
    split at e
    · cases e
      have e3 := rv.nonI
      subst e3
      exact q
    · cases e
      rename_i hn
      rw [decide_eq_false (fun z => by subst z; cases rv; exact hn rfl)]
      exact q
  · have e2 := ru.nonI
    subst e2
    refine ⟨_, op_notN, rfl, ?_⟩
    split at e
    · cases e
      have e3 := rv.nonI
      subst e3
      exact q
    · cases e
      rename_i hn
      rw [decide_eq_false (fun z => by subst z; cases rv; exact hn rfl)]
      exact q
  · cases e; cases rv; cases ru
    exact ⟨_, op_isBl, _, _, rfl, rfl, q⟩
  · cases e; cases rv; cases ru
    exact ⟨_, op_notBl, _, _, rfl, rfl, q⟩
  · split at e
    · rename_i h
      simp only [Bool.and_eq_true] at h
      cases e
      obtain ⟨a, vs, rfl, a1, a2⟩ := ru.tupI
      refine ⟨_, op_in_seq, a, vs, rfl, .inr (by rw [G.hK]; exact A.sqT a1), flat_of rv h.1, flats_of a2 h.2, ?_⟩
      rw [if_neg Bool.false_ne_true, inV_of rv h.1 a2 h.2]
      exact q
    · cases e
  · split at e
    · rename_i h
      simp only [Bool.and_eq_true] at h
      cases e
      obtain ⟨a, vs, rfl, a1, a2⟩ := ru.lstI
      refine ⟨_, op_in_seq, a, vs, rfl, .inl (.inl (.inl (A.sub _ _ a1))), flat_of rv h.1, flats_of a2 h.2, ?_⟩
      rw [if_neg Bool.false_ne_true, inV_of rv h.1 a2 h.2]
      exact q
    · cases e
  · split at e
    · rename_i h
      simp only [Bool.and_eq_true] at h
      cases e
      obtain ⟨a, vs, rfl, a1, a2⟩ := ru.tupI
      refine ⟨_, op_notIn_seq, a, vs, rfl, .inr (by rw [G.hK]; exact A.sqT a1), flat_of rv h.1, flats_of a2 h.2, ?_⟩
      rw [if_pos rfl, inV_of rv h.1 a2 h.2]
      exact q
    · cases e
  · split at e
    · rename_i h
      simp only [Bool.and_eq_true] at h
      cases e
      obtain ⟨a, vs, rfl, a1, a2⟩ := ru.lstI
      refine ⟨_, op_notIn_seq, a, vs, rfl, .inl (.inl (.inl (A.sub _ _ a1))), flat_of rv h.1, flats_of a2 h.2, ?_⟩
      rw [if_pos rfl, inV_of rv h.1 a2 h.2]
      exact q
    · cases e
  · cases e

/-! ### parts of sequences -/
theorem ixD_eq (n : Nat) (i : Int) : ixD n i = ixN n i := rfl
theorem atD_ok {ds : List D} {vs : List V} (r : VRs g F ρ ds vs) {i : Int} {d : D} (e : atD ds i = some d) : ∃ v, L2.atI vs i = some v ∧ VR g F ρ d v := by
  unfold atD at e
  unfold L2.atI
  rw [← r.length, ← ixD_eq]
  cases q : ixD ds.length i with
  | none => rw [q] at e; cases e
  | some j =>
    rw [q] at e
    exact r.get e
theorem sIx_eq (n d : Nat) (o : Option Int) : sIxD n d o = HT.sIx n d o := by
  cases o with
  | none => exact (HT.sIx_none n d).symm
  | some i =>
    show (if 0 ≤ i then min i.toNat n else (i + n).toNat) = if i < 0 then (i + (n : Int)).toNat else min i.toNat n
    by_cases h : 0 ≤ i
    · rw [if_pos h, if_neg (by omega)]
    · rw [if_neg h, if_pos (by omega)]
theorem cut_ok {ds : List D} {vs : List V} (r : VRs g F ρ ds vs) (lo hi : Option Int) : VRs g F ρ (cutD ds lo hi) (cutV vs lo hi) := by
  unfold cutD cutV
  rw [sIx_eq, sIx_eq, r.length]
  exact (r.drop _).take _
theorem idx_ok (G : Gd g wx k X) (A : Ab g b F ρ σ H fr st) {xs : List D} {i : Int} (hx : items x = some xs) (rv : VR g F ρ x v) {d : D} (e : atD xs i = some d) (q : ∀ v, VR g F ρ d v → Q v H) :
    ∃ r, IxR X r ∧ r v (.int i) H Q := by
  cases x <;> simp only [items] at hx <;> first | (cases hx; done) | skip
  · cases hx
    obtain ⟨a, vs, rfl, a1, a2⟩ := rv.tupI
    obtain ⟨z, e1, e2⟩ := atD_ok a2 e
    exact ⟨_, ix_tup, a, vs, i, z, rfl, rfl, by rw [G.hK]; exact A.sqT a1, e1, q z e2⟩
  · cases hx
    obtain ⟨a, vs, rfl, a1, a2⟩ := rv.lstI
    obtain ⟨z, e1, e2⟩ := atD_ok a2 e
    exact ⟨_, ix_list, a, vs, i, z, rfl, rfl, .inl (.inl (A.sub _ _ a1)), e1, q z e2⟩
  · cases hx
    obtain ⟨a, rfl, a1⟩ := rv.scrI
    obtain ⟨z, e1, e2⟩ := atD_ok (VRs.of_ints _) e
    exact ⟨_, ix_list, a, _, i, z, rfl, rfl, by rw [G.hK]; exact A.sub.seq a1, e1, q z e2⟩
theorem slc_ok (G : Gd g wx k X) (A : Ab g b F ρ σ H fr st) (rv : VR g F ρ x v) (l h : Option Int)
    (p : Po g b wx WR (opt (slcD x l h) st) F ρ σ fr Q) : ∃ r, SlR X r ∧ r v l h H Q := by
  cases x <;> first | exact p.elim | skip
  · rename_i xs
    obtain ⟨a, vs, rfl, a1, a2⟩ := rv.tupI
    refine ⟨_, sl_tupA, a, vs, rfl, by rw [G.hK]; exact A.sqT a1, fun e => ?_, fun _ => p.tup A (cut_ok a2 _ _)⟩
    have e2 : cutV vs l h = vs := by
      unfold cutV
      rw [e.1, e.2, Nat.sub_zero, List.drop_zero, List.take_length]
    have r := cut_ok a2 l h
    rw [e2] at r
    exact p.dat A (.tup a1 r)
  · obtain ⟨a, vs, rfl, a1, a2⟩ := rv.lstI
    exact ⟨_, sl_list, a, vs, rfl, .inl (.inl (A.sub _ _ a1)), p.lst A (cut_ok a2 _ _)⟩

/-! ### built-in functions -/
def b1N : B1 → Str
  | .len => "len"
  | .sum => "sum"
  | .all => "all"
  | .any => "any"
  | .list => "list"
  | .tuple => "tuple"
  | .sorted => "sorted"
  | .int => "int"
  | .abs => "abs"
  | .min => "min"
  | .max => "max"
  | .repr => "repr"
  | .str => "str"
  | .tupZ => "tuple"
def b1V : B1 → Value
  | .len => .builtin "len"
  | .sum => .builtin "sum"
  | .all => .builtin "all"
  | .any => .builtin "any"
  | .list => .type "list"
  | .tuple => .type "tuple"
  | .sorted => .builtin "sorted"
  | .int => .type "int"
  | .abs => .builtin "abs"
  | .min => .builtin "min"
  | .max => .builtin "max"
  | .repr => .builtin "repr"
  | .str => .type "str"
  | .tupZ => .type "tuple"
theorem b1_boot (f : B1) : bootBuiltins (b1N f) = some (b1V f) := by cases f <;> decide +kernel
theorem mx_max : ∀ (r : List Int) (a : Int), (mx a r ∈ a :: r) ∧ ∀ y ∈ a :: r, y ≤ mx a r
  | [], a => ⟨by simp [mx], fun y hy => by simp at hy; subst hy; exact Int.le_refl _⟩
  | x :: r, a => by
    have e : mx a (x :: r) = mx (if a < x then x else a) r := rfl
    obtain ⟨h1, h2⟩ := mx_max r (if a < x then x else a)
    rw [e]
    have h3 := h2 _ List.mem_cons_self
    have k1 : a ≤ (if a < x then x else a) := by split <;> omega
    have k2 : x ≤ (if a < x then x else a) := by split <;> omega
    refine ⟨?_, fun y hy => ?_⟩
    · rcases List.mem_cons.mp h1 with z | z
      · rw [z]; split <;> simp
      · exact List.mem_cons_of_mem _ (List.mem_cons_of_mem _ z)
    · rcases List.mem_cons.mp hy with z | z
      · subst z; exact Int.le_trans k1 h3
      · rcases List.mem_cons.mp z with z | z
        · subst z; exact Int.le_trans k2 h3
        · exact h2 y (List.mem_cons_of_mem _ z)
theorem mn_min : ∀ (r : List Int) (a : Int), (mn a r ∈ a :: r) ∧ ∀ y ∈ a :: r, mn a r ≤ y
  | [], a => ⟨by simp [mn], fun y hy => by simp at hy; subst hy; exact Int.le_refl _⟩
  | x :: r, a => by
    have e : mn a (x :: r) = mn (if x < a then x else a) r := rfl
    obtain ⟨h1, h2⟩ := mn_min r (if x < a then x else a)
    rw [e]
    have h3 := h2 _ List.mem_cons_self
    have k1 : (if x < a then x else a) ≤ a := by split <;> omega
    have k2 : (if x < a then x else a) ≤ x := by split <;> omega
    refine ⟨?_, fun y hy => ?_⟩
    · rcases List.mem_cons.mp h1 with z | z
      · rw [z]; split <;> simp
      · exact List.mem_cons_of_mem _ (List.mem_cons_of_mem _ z)
    · rcases List.mem_cons.mp hy with z | z
      · subst z; exact Int.le_trans h3 k1
      · rcases List.mem_cons.mp z with z | z
        · subst z; exact Int.le_trans h3 k2
        · exact h2 y (List.mem_cons_of_mem _ z)
theorem insI_perm (i : Int) : ∀ l : List Int, (insI i l).Perm (i :: l)
  | [] => .refl _
  | j :: r => by
    unfold insI
    split
    · exact .refl _
    · exact (List.Perm.cons j (insI_perm i r)).trans (List.Perm.swap i j r)
theorem insI_sorted (i : Int) : ∀ l : List Int, l.Pairwise (· ≤ ·) → (insI i l).Pairwise (· ≤ ·)
  | [], _ => by simp [insI]
  | j :: r, h => by
    unfold insI
    split
    · rename_i hij
      refine List.pairwise_cons.mpr ⟨fun y hy => ?_, h⟩
      rcases List.mem_cons.mp hy with z | z
      · subst z; exact hij
      · exact Int.le_trans hij ((List.pairwise_cons.mp h).1 y z)
    · rename_i hij
      refine List.pairwise_cons.mpr ⟨fun y hy => ?_, insI_sorted i r (List.pairwise_cons.mp h).2⟩
      rcases List.mem_cons.mp ((insI_perm i r).mem_iff.mp hy) with z | z
      · subst z; omega
      · exact (List.pairwise_cons.mp h).1 y z
theorem sortI_perm : ∀ l : List Int, (sortI l).Perm l
  | [] => .refl _
  | i :: r => (insI_perm i _).trans (List.Perm.cons i (sortI_perm r))
theorem sortI_sorted : ∀ l : List Int, (sortI l).Pairwise (· ≤ ·)
  | [] => .nil
  | i :: r => insI_sorted i _ (sortI_sorted r)
theorem sorted_one : ∀ {a b : List Int}, a.Perm b → a.Pairwise (· ≤ ·) → b.Pairwise (· ≤ ·) → a = b
  | [], b, p, _, _ => (List.nil_perm.mp p).symm
  | x :: a, [], p, _, _ => by have := p.length_eq; simp at this
  | x :: a, y :: b, p, ha, hb => by
    have h1 : x ≤ y := by
      rcases List.mem_cons.mp (p.mem_iff.mpr List.mem_cons_self) with z | z
      · omega
      · exact (List.pairwise_cons.mp ha).1 y z
    have h2 : y ≤ x := by
      rcases List.mem_cons.mp (p.mem_iff.mp List.mem_cons_self) with z | z
      · omega
      · exact (List.pairwise_cons.mp hb).1 x z
    have e : x = y := by omega
    subst e
    rw [sorted_one (List.Perm.cons_inv p) (List.pairwise_cons.mp ha).2 (List.pairwise_cons.mp hb).2]
/-- repr of data -/
theorem call_repr (hg : X.A.guards = some []) (hu : X.A.units + 64 < cLine) : CallR X (.builtin "repr") (fun xs H Q => ∃ (a : Addr) (d : PyData), xs = [.ref a] ∧ Dp X.K H (.ref a) d ∧ d.showable = true ∧ d.hasDict = false ∧ d.depth ≤ 62 ∧ d.shown.length ≤ sizeLine ∧ Q (.str d.shown) H) := by
  intro pins s σ H xs us Q I r h
  obtain ⟨a, d, rfl, hd, h1, h2, h3, h4, q⟩ := h
  obtain ⟨u, rfl, rx⟩ := vals1 r
  obtain ⟨as, rd⟩ := Dp.reads I d _ u hd rx
  cases rx
  exact PySem.repr_of_reads' (h₀ := s.heap) rd h1 (PyData.noDict_hsm h2) hg (by omega) (fun _ _ e => e) (fun h' u tk hk => ⟨.str d.shown, H, I.kept (t' := tk) hk, ⟨_, rfl⟩, q⟩) h4
theorem show_all : ∀ ds : List PyData, PyData.showableAll ds = ds.all PyData.showable
  | [] => rfl
  | d :: ds => by
    show (PyData.showable d && PyData.showableAll ds) = _
    rw [show_all ds]; rfl
theorem show_py : ∀ (n : Nat) (d : D), okD n d = true → showD n d = true → (toPy n d).showable = true
  | n, .non, _, _ => by cases n <;> rfl
  | n, .bl _, _, _ => by cases n <;> rfl
  | n, .int _, _, h => by cases n <;> exact h
  | n, .str s, _, _ => by cases n <;> rfl
  | 0, .tup _, h, _ => by cases h
  | 0, .lst _, h, _ => by cases h
  | 0, .emp, h, _ => by cases h
  | 0, .ref _, h, _ => by cases h
  | 0, .fn _, h, _ => by cases h
  | 0, .scr _, h, _ => by cases h
  | n + 1, .emp, h, _ => by cases h
  | n + 1, .ref _, h, _ => by cases h
  | n + 1, .fn _, h, _ => by cases h
  | n + 1, .scr _, h, _ => by cases h
  | n + 1, .tup xs, h, q => by
    show PyData.showableAll (xs.map (toPy n)) = true
    rw [show_all, all_map]
    exact List.all_eq_true.mpr fun x hx => show_py n x (List.all_eq_true.mp h x hx) (List.all_eq_true.mp q x hx)
  | n + 1, .lst xs, h, q => by
    show PyData.showableAll (xs.map (toPy n)) = true
    rw [show_all, all_map]
    exact List.all_eq_true.mpr fun x hx => show_py n x (List.all_eq_true.mp h x hx) (List.all_eq_true.mp q x hx)
theorem b1_ok (G : Gd g wx k X) (f : B1) (A : Ab g b F ρ σ H fr st) (rv : VR g F ρ x v) (p : Po g b wx WR (opt (b1D f x) st) F ρ σ fr Q) : ∃ r, CallR X (b1V f) r ∧ r [v] H Q := by
  have sqL : ∀ {a : Addr} {vs : List V}, F a = some (.lst vs) → SqL X.K H a vs := fun h => .inl (.inl (A.sub _ _ h))
  unfold b1D at p
  split at p
  · obtain ⟨a, vs, rfl, a1, a2⟩ := rv.tupI
    exact ⟨_, call_len, _, _, rfl, .inr ⟨vs, by rw [G.hK]; exact A.sqT a1, a2.length⟩, p.dat A (.int _)⟩
  · obtain ⟨a, vs, rfl, a1, a2⟩ := rv.lstI
    exact ⟨_, call_len, _, _, rfl, .inl ⟨vs, sqL a1, a2.length⟩, p.dat A (.int _)⟩
  · obtain ⟨a, rfl, a1⟩ := rv.scrI
    exact ⟨_, call_len, _, _, rfl, .inl ⟨_, by rw [G.hK]; exact A.sub.seq a1, by rw [List.length_map]⟩, p.dat A (.int _)⟩
  · have e := rv.strI
    subst e
    split at p
    · rename_i h
      exact ⟨_, call_len, _, _, rfl, ⟨h, rfl⟩, p.dat A (.int _)⟩
    · exact p.elim
  · obtain ⟨a, vs, rfl, a1, a2⟩ := rv.lstI
    rename_i xs
    cases e : intsOf xs with
    | none => rw [e] at p; exact p.elim
    | some is =>
      rw [e] at p
      refine ⟨_, cr_sum G.calm, a, is, rfl, ?_, Po.dat (d := .int is.sum) p A (.int _)⟩
      rw [← a2.ints e]; exact sqL a1
  · obtain ⟨a, vs, rfl, a1, a2⟩ := rv.lstI
    rename_i xs
    cases e : bools xs with
    | none => rw [e] at p; exact p.elim
    | some is =>
      rw [e] at p
      refine ⟨_, cr_all G.calm, a, is, rfl, ?_, Po.dat (d := .bl (is.all id)) p A (.bl _)⟩
      rw [← a2.bools e]; exact sqL a1
  · obtain ⟨a, vs, rfl, a1, a2⟩ := rv.lstI
    rename_i xs
    cases e : bools xs with
    | none => rw [e] at p; exact p.elim
    | some is =>
      rw [e] at p
      refine ⟨_, cr_any G.calm, a, is, rfl, ?_, Po.dat (d := .bl (is.any id)) p A (.bl _)⟩
      rw [← a2.bools e]; exact sqL a1
  · obtain ⟨a, vs, rfl, a1, a2⟩ := rv.tupI
    exact ⟨_, call_list_of, a, vs, rfl, .inr (by rw [G.hK]; exact A.sqT a1), p.lst A a2⟩
  · obtain ⟨a, vs, rfl, a1, a2⟩ := rv.lstI
    exact ⟨_, call_list_of, a, vs, rfl, .inl (sqL a1), p.lst A a2⟩
  · obtain ⟨a, vs, rfl, a1, a2⟩ := rv.lstI
    exact ⟨_, call_tuple_of, a, vs, rfl, .inl ⟨sqL a1, p.tup A a2⟩⟩
  · obtain ⟨a, vs, rfl, a1, a2⟩ := rv.tupI
    exact ⟨_, call_tuple_of, a, vs, rfl, .inr ⟨by rw [G.hK]; exact A.sqT a1, p.dat A (.tup a1 a2)⟩⟩
  · obtain ⟨a, vs, rfl, a1, a2⟩ := rv.lstI
    rename_i xs
    cases e : intsOf xs with
    | none => rw [e] at p; exact p.elim
    | some is =>
      rw [e] at p
      simp only [Option.bind_some] at p
      split at p
      · rename_i h
        refine ⟨_, cr_sorted, a, is, rfl, by rw [← a2.ints e]; exact sqL a1, h, fun ns' q h1 h2 h3 => ?_⟩
        have e2 : ns' = sortI is := sorted_one (h1.trans (sortI_perm is).symm) h2 (sortI_sorted is)
        subst e2
        exact Po.lst (xs := (sortI is).map D.int) p A (.of_ints _) q h3
      · exact p.elim
  · have e := rv.intI
    subst e
    exact ⟨_, call_int1, .inl ⟨_, rfl, p.dat A (.int _)⟩⟩
  · have e := rv.blI
    subst e
    exact ⟨_, call_int1, .inr ⟨_, rfl, p.dat A (.int _)⟩⟩
  · have e := rv.intI
    subst e
    exact ⟨_, call_abs, _, rfl, p.dat A (.int _)⟩
  · obtain ⟨a, vs, rfl, a1, a2⟩ := rv.lstI
    rename_i xs
    split at p
    · rename_i i r e
      refine ⟨_, cr_max G.calm, a, i :: r, rfl, by rw [← a2.ints e]; exact sqL a1, by simp, fun m h1 h2 => ?_⟩
      obtain ⟨z1, z2⟩ := mx_max r i
      have e2 : m = mx i r := Int.le_antisymm (z2 m h1) (h2 _ z1)
      subst e2
      exact Po.dat (d := .int (mx i r)) p A (.int _)
    · exact p.elim
  · obtain ⟨a, vs, rfl, a1, a2⟩ := rv.lstI
    rename_i xs
    split at p
    · rename_i i r e
      refine ⟨_, cr_min G.calm, a, i :: r, rfl, by rw [← a2.ints e]; exact sqL a1, by simp, fun m h1 h2 => ?_⟩
      obtain ⟨z1, z2⟩ := mn_min r i
      have e2 : m = mn i r := Int.le_antisymm (h2 _ z1) (z2 m h1)
      subst e2
      exact Po.dat (d := .int (mn i r)) p A (.int _)
    · exact p.elim
  · split at p
    · rename_i h
      simp only [Bool.and_eq_true, decide_eq_true_eq] at h
      obtain ⟨⟨⟨h1, h2⟩, h3⟩, h4⟩ := h
      have ha : ∃ a, v = .ref a := by
        cases x <;> first | (cases h4; done) | (cases rv; exact ⟨_, rfl⟩)
      obtain ⟨a, rfl⟩ := ha
      refine ⟨_, call_repr G.guards G.room.units, a, toPy 60 x, rfl, VR.dp G.hK A.sub 60 _ _ h1 rv, show_py 60 x h1 h2, PyData.hasDict_of_canLay _ (ok_lay 60 x h1), Nat.le_trans (ok_depth 60 x) (by decide), Nat.le_trans (wt_py 60 x h1 h2) h3, p.dat A (.str _)⟩
    · exact p.elim
  · exact p.elim

def b2N : B2 → Str
  | .min => "min"
  | .max => "max"
def b2V : B2 → Value
  | .min => .builtin "min"
  | .max => .builtin "max"
theorem b2_boot (f : B2) : bootBuiltins (b2N f) = some (b2V f) := by cases f <;> decide +kernel
theorem b2_ok (G : Gd g wx k X) (f : B2) (A : Ab g b F ρ σ H fr st) (rv : VR g F ρ x v) (ru : VR g F ρ y u) (p : Po g b wx WR (opt (b2D f x y) st) F ρ σ fr Q) : ∃ r, CallR X (b2V f) r ∧ r [v, u] H Q := by
  unfold b2D at p
  split at p
  · cases rv; cases ru
    exact ⟨_, call_min2 G.calm, _, _, rfl, p.dat A (.int _)⟩
  · cases rv; cases ru
    exact ⟨_, call_max2 G.calm, _, _, rfl, p.dat A (.int _)⟩
  · exact p.elim
def tyN : Ty → Str
  | .int => "int"
  | .bool => "bool"
  | .tuple => "tuple"
  | .str => "str"
  | .list => "list"
  | .dict => "dict"
def tyS : Ty → String
  | .int => "int"
  | .bool => "bool"
  | .tuple => "tuple"
  | .str => "str"
  | .list => "list"
  | .dict => "dict"
theorem ty_boot (t : Ty) : bootBuiltins (tyN t) = some (.type (tyS t)) := by cases t <;> decide +kernel
theorem tyX_tup (G : Gd g wx k X) (A : Ab g b F ρ σ H fr st) {a : Addr} {vs : List V} (h : SqT g.K F a vs) : TyX X.K H (.ref a) (.type "tuple") := by
  rcases h with (h | ⟨o, h⟩) | ⟨o, its, n, h1, h2, _⟩
  · exact .base (.tup (A.sub _ _ h))
  · exact .fTuple (A.sub _ _ h)
  · exact .kTuple (by rw [G.hK]; exact h1) h2
theorem isi_ok (G : Gd g wx k X) (t : Ty) (A : Ab g b F ρ σ H fr st) (rv : VR g F ρ x v) {c : Bool} (e : isiD x t = some c) (q : Q (.bl c) H) : rIsi X.K [v, .ty (tyS t)] H Q := by
  have key : ∀ {T : String}, TyX X.K H v (.type T) → kitB T (tyS t) = some c → rIsi X.K [v, .ty (tyS t)] H Q := fun h1 h2 => ⟨v, _, _, _, c, rfl, .ty _, h1, kit_ty h2, q⟩
  cases x with
  | non => cases rv; refine key (.base .non) ?_; cases t <;> (cases e; decide +kernel)
  | bl b => cases rv; refine key (.base (.bl _)) ?_; cases t <;> (cases e; decide +kernel)
  | int i => cases rv; refine key (.base (.int _)) ?_; cases t <;> (cases e; decide +kernel)
  | str i => cases rv; refine key (.base (.str _)) ?_; cases t <;> (cases e; decide +kernel)
  | tup xs =>
    obtain ⟨a, vs, rfl, a1, a2⟩ := rv.tupI
    refine key (tyX_tup G A a1) ?_
    cases t <;> (cases e; decide +kernel)
  | lst xs =>
    obtain ⟨a, vs, rfl, a1, a2⟩ := rv.lstI
    refine key (.base (.lst (A.sub _ _ a1))) ?_
    cases t <;> (cases e; decide +kernel)
  | emp =>
    obtain ⟨a, rfl, a1⟩ := rv.empI
    refine key (.base (.dK (A.sub _ _ a1))) ?_
    cases t <;> (cases e; decide +kernel)
  | ref n => cases t <;> cases e
  | fn n => cases t <;> cases e
  | scr n => cases t <;> cases e
end
end MP

set_option Elab.async false
set_option linter.all false
set_option maxRecDepth 100000
namespace MP
open PySem PySem.Spec L2

/-! ### the text of a def and its term -/
structure Cc where
  N : List Str
  sc : Scope
  st : Str → Bool
  fx : Str → Option Nat
  cs : Str → Option D
def nkB : Option NameKind → Bool
  | some .local => true
  | some .cell => true
  | some .free => true
  | _ => false
def lcB : Option NameKind → Bool
  | some .local => true
  | some .cell => true
  | _ => false
def glK : Option NameKind → Bool
  | some .globalImplicit => true
  | _ => false
def visB (c : Cc) (i : Nat) (x : Str) : Bool := decide (c.N[i]? = some x) && nkB (c.sc.names.lookup x) && !(x == ("__debug__" : Str)) && !(x == ("__classdict__" : Str))
def locB (c : Cc) (i : Nat) (x : Str) : Bool := decide (c.N[i]? = some x) && lcB (c.sc.names.lookup x) && c.st x
def glB (c : Cc) (x : Str) : Bool := glK (c.sc.names.lookup x) && !(x == ("__debug__" : Str)) && !decide (x = "__name__")
def sameD : Nat → D → D → Bool
  | _, .non, .non => true
  | _, .bl a, .bl b => a == b
  | _, .int a, .int b => a == b
  | _, .str a, .str b => decide (a = b)
  | n + 1, .tup xs, .tup ys => xs.length == ys.length && (xs.zip ys).all fun p => sameD n p.1 p.2
  | _, _, _ => false
def conB : D → Const → Bool
  | .non, .none => true
  | .bl a, .bool b => a == b
  | .int a, .int b => a == b
  | .str a, .str b => decide (a = b)
  | _, _ => false
def noStar : Expr → Bool
  | .Starred _ _ => false
  | _ => true
def noSet : Expr → Bool
  | .Set _ _ _ => false
  | _ => true
def noSlice : Expr → Bool
  | .Slice _ _ _ _ => false
  | _ => true
def noLC : Expr → Bool
  | .ListComp _ _ _ _ => false
  | _ => true
def nameIs (x : Str) : Expr → Bool
  | .Name y _ => decide (x = y)
  | _ => false
def inner (c : Cc) (scope : Scope) : Cc := { c with sc := relS scope c.sc, st := fun x => match scope.names.lookup x with
  | some .cell => true
  | some .local => true
  | _ => false }
def ownN (c : Cc) (own : List Nat) : List (Str × Nat) := own.map fun i => ((c.N[i]?).getD "", i)
mutual
def mG (c : Cc) : G → Expr → Bool
  | .nm i, e => match e with
    | .Name x _ => locB c i x
    | _ => false
  | .tp gs, e => match e with
    | .Tuple es _ _ => mGs c gs es
    | _ => false
def mGs (c : Cc) : Gs → List Expr → Bool
  | .nil, es => match es with
    | [] => true
    | _ => false
  | .cons g r, es => match es with
    | e :: es => noStar e && mG c g e && mGs c r es
    | _ => false
end
def okT : E → Bool
  | .not a => okT a
  | .and a b => okT a && okT b
  | .or a b => okT a && okT b
  | .ite _ _ _ => false
  | .new _ => false
  | _ => true
def keepOf : It → List Nat
  | .mut m => [m]
  | _ => []
mutual
def slG : G → List Nat
  | .nm i => [i]
  | .tp gs => slGs gs
def slGs : Gs → List Nat
  | .nil => []
  | .cons g r => slG g ++ slGs r
end
def isTup : Expr → Bool
  | .Tuple _ _ _ => true
  | _ => false
mutual
def mE (c : Cc) : E → Expr → Bool
  | .var i, e => match e with
    | .Name x _ => visB c i x
    | _ => false
  | .con d, e => match e with
    | .Constant k _ _ => conB d k
    | _ => false
  | .glo x d, e => match e with
    | .Name y _ => decide (x = y) && glB c x && (match c.cs x with
      | some d' => sameD 5 d d'
      | none => false)
    | _ => false
  | .tup es, e => match e with
    | .Tuple es' _ _ => mA c es es'
    | _ => false
  | .lst es, e => match e with
    | .List es' _ => mA c es es'
    | _ => false
  | .bin o a b, e => match e with
    | .BinOp a' o' b' _ => decide (o' = opOf o) && mE c a a' && mE c b b'
    | _ => false
  | .neg a, e => match e with
    | .UnaryOp o a' _ => decide (o = .USub) && mE c a a'
    | _ => false
  | .cmp o a b, e => match e with
    | .Compare a' [o'] [b'] _ => decide (o' = cpOf o) && noSet b' && mE c a a' && mE c b b'
    | _ => false
  | .chain o o2 a b d, e => match e with
    | .Compare a' [o', o2'] [b', d'] _ => decide (o' = cpOf o) && decide (o2' = cpOf o2) && noSet b' && noSet d' && mE c a a' && mE c b b' && mE c d d'
    | _ => false
  | .not a, e => match e with
    | .UnaryOp o a' _ => decide (o = .Not) && mE c a a'
    | _ => false
  | .and a b, e => match e with
    | .BoolOp o (a' :: b' :: r) pos => decide (o = .And) && mE c a a' && (match r with
      | [] => mE c b b'
      | _ :: _ => mE c b (.BoolOp .And (b' :: r) pos))
    | _ => false
  | .or a b, e => match e with
    | .BoolOp o (a' :: b' :: r) pos => decide (o = .Or) && mE c a a' && (match r with
      | [] => mE c b b'
      | _ :: _ => mE c b (.BoolOp .Or (b' :: r) pos))
    | _ => false
  | .ite t a b, e => match e with
    | .IfExp t' a' b' _ => okT t && mE c t t' && mE c a a' && mE c b b'
    | _ => false
  | .idx a i, e => match e with
    | .Subscript a' i' _ => noSlice i' && mE c a a' && mE c i i'
    | _ => false
  | .idxM m i, e => match e with
    | .Subscript (.Name x _) i' _ => noSlice i' && visB c m x && mE c i i'
    | _ => false
  | .lenM m, e => match e with
    | .Call (.Name f _) [.Name x _] [] _ => decide (f = "len") && glB c f && visB c m x
    | _ => false
  | .slc a lo hi, e => match e with
    | .Subscript a' (.Slice lo' hi' none _) _ => mE c a a' && mO c lo lo' && mO c hi hi'
    | _ => false
  | .rev a, e => match e with
    | .Subscript a' (.Slice none none (some (.UnaryOp o (.Constant (.int j) _ _) _)) _) _ => decide (o = .USub) && decide (j = 1) && mE c a a'
    | _ => false
  | .call f x es, e => match e with
    | .Call (.Name y _) (a :: as) [] _ => decide (x = y) && glB c x && decide (c.fx x = some f) && mA0 c es (a :: as)
    | _ => false
  | .b1 f a, e => match e with
    | .Call (.Name y _) [a'] [] _ => decide (y = b1N f) && glB c y && noStar a' && mE c a a'
    | _ => false
  | .b2 f a b, e => match e with
    | .Call (.Name y _) [a', b'] [] _ => decide (y = b2N f) && glB c y && noStar a' && noStar b' && mE c a a' && mE c b b'
    | _ => false
  | .isi a t, e => match e with
    | .Call (.Name y _) [a', .Name z _] [] _ => decide (y = "isinstance") && glB c y && decide (z = tyN t) && glB c z && noStar a' && mE c a a'
    | _ => false
  | .lrng tp it, e => match e with
    | .Call (.Name y _) [a'] [] _ => decide (y = if tp then "tuple" else "list") && glB c y && noStar a' && mR c it a'
    | _ => false
  | .comp elt g own it cd, e => match e with
    | .ListComp elt' [⟨tg, iter, ifs, z⟩] scope _ => decide (z = 0) && ((slG g).all fun j => own.contains j) && ((keepOf it).all fun m => !own.contains m) && blkC c.N c.sc scope (ownN c own) && noSet iter && mI c it tg iter && mG (inner c scope) g tg && mC (inner c scope) cd ifs && mE (inner c scope) elt elt'
    | _ => false
  | .get a x, e => match e with
    | .Subscript a' (.Constant (.str y) _ _) _ => decide (x = y) && mE c a a'
    | _ => false
  | .obi a i, e => match e with
    | .Subscript a' i' _ => noSlice i' && mE c a a' && mE c i i'
    | _ => false
  | .obl a, e => match e with
    | .Call (.Name y _) [a'] [] _ => decide (y = "len") && glB c y && noStar a' && mE c a a'
    | _ => false
  | .obe a, e => match e with
    | .Compare a' [o'] [.List [] _] _ => decide (o' = .NotEq) && mE c a a'
    | _ => false
  | .new a, e => noLC e && mE c a e
def mA (c : Cc) : A → List Expr → Bool
  | .nil, es => match es with
    | [] => true
    | _ => false
  | .cons e r, es => match es with
    | e' :: es' => noStar e' && mE c e e' && mA c r es'
    | _ => false
  | .star e r, es => match es with
    | .Starred e' _ :: es' => mE c e e' && mA c r es'
    | _ => false
/-- no star -/
def mA0 (c : Cc) : A → List Expr → Bool
  | .nil, es => match es with
    | [] => true
    | _ => false
  | .cons e r, es => match es with
    | e' :: es' => noStar e' && mE c e e' && mA0 c r es'
    | _ => false
  | .star _ _, _ => false
def mO (c : Cc) : O → Option Expr → Bool
  | .none, o => match o with
    | none => true
    | _ => false
  | .some e, o => match o with
    | some e' => mE c e e'
    | _ => false
/-- a range -/
def mR (c : Cc) : It → Expr → Bool
  | .rng1 a, e => match e with
    | .Call (.Name y _) [a'] [] _ => decide (y = "range") && glB c y && noStar a' && mE c a a'
    | _ => false
  | .rng2 a b, e => match e with
    | .Call (.Name y _) [a', b'] [] _ => decide (y = "range") && glB c y && noStar a' && noStar b' && mE c a a' && mE c b b'
    | _ => false
  | .seq _, _ => false
  | .mut _, _ => false
  | .zip _ _, _ => false
  | .enum _, _ => false
def mI (c : Cc) : It → Expr → Expr → Bool
  | .seq e, _, e' => mE c e e'
  | .mut i, _, e' => match e' with
    | .Name x _ => visB c i x
    | _ => false
  | .rng1 a, _, e => match e with
    | .Call (.Name y _) [a'] [] _ => decide (y = "range") && glB c y && noStar a' && mE c a a'
    | _ => false
  | .rng2 a b, _, e => match e with
    | .Call (.Name y _) [a', b'] [] _ => decide (y = "range") && glB c y && noStar a' && noStar b' && mE c a a' && mE c b b'
    | _ => false
  | .zip a b, tg, e => match e with
    | .Call (.Name y _) [a', b'] [] _ => isTup tg && decide (y = "zip") && glB c y && noStar a' && noStar b' && mE c a a' && mE c b b'
    | _ => false
  | .enum a, tg, e => match e with
    | .Call (.Name y _) [a'] [] _ => isTup tg && decide (y = "enumerate") && glB c y && noStar a' && mE c a a'
    | _ => false
def mC (c : Cc) : C → List Expr → Bool
  | .yes, es => match es with
    | [] => true
    | _ => false
  | .one e, es => match es with
    | [e'] => okT e && mE c e e'
    | _ => false
end

/-! ### what the names of the module mean -/
def bltNames : List Str := ["len", "sum", "all", "any", "list", "tuple", "sorted", "int", "abs", "min", "max", "repr", "str", "isinstance", "range", "zip", "enumerate", "bool", "dict"]
structure FnG (g : Gb) (k : Nat) (f : Addr) (fd : FuncData) (ps : List Str) (sp : Sp) : Prop where
  len : ∀ vs H Q E, sp vs H Q E → vs.length = ps.length
  run : ∀ (A : Around) (outer : List PySem.Env) (s : Shared) (H : Hp) (args : Args) (us : List Value) (vs : List V) (Q : VK) (E : XK), A.guards = some [] → Room k A → Env0 g.P g.w g.K g.mg g.base A outer s H → BindsTo s fd args (ps.zip us) → Vals vs us → sp vs H Q E →
    codeAny (model g.P g.w) A (.call (.ref f) args) (CR (L2.CX g.P g.w) outer g.P g.w H s Q E) s
/-- a def does what a function on data does -/
def spOf (g : Gb) (c : List D → Sto → R W) (n : Nat) : Sp := fun vs H Q E => ∃ F ρ ds st, vs.length = n ∧ Ab g ⟨H, F, ρ, []⟩ F ρ [] H [] st ∧ VRs g F ρ ds vs ∧ Po g ⟨H, F, ρ, []⟩ (fun cls d _ H' => E cls d H') WR (c ds st) F ρ [] [] Q
structure Md (g : Gb) (cf : Nat → List D → Sto → R W) (k : Nat) (fx : Str → Option Nat) (cs : Str → Option D) : Prop where
  blt : ∀ x ∈ bltNames, g.mg x = none
  con : ∀ x d, cs x = some d → ∃ v u, g.mg x = some u ∧ RelV v u ∧ ∀ F ρ, VR g F ρ d v
  fn : ∀ x f, fx x = some f → ∃ fd ps, g.mg x = some (.ref (g.fa f)) ∧ PySem.W.keepIn g.K (.ref (g.fa f)) = true ∧ Binds g.K fd ps [] ∧ FnG g k (g.fa f) fd ps (spOf g (cf f) ps.length) ∧ ∀ ds st, cf f ds st ≠ .bad → ds.length = ps.length
section
variable {g : Gb} {b : Bs} {wx : WX} {k : Nat} {X : Cx} {F F' : Hp} {ρ ρ' : Rho} {σ : L2.St} {H H' : Hp} {fr : Fr} {st st' : Sto} {Q : VK}
/-- behind a call -/
theorem Ab.after (A : Ab g b F ρ σ H fr st) (B : Ab g ⟨H, F, ρ, []⟩ F' ρ' [] H' [] st') : Ab g b F' ρ' σ H' fr st' := by
  obtain ⟨more, e1, f1⟩ := A.rho
  obtain ⟨more2, e2, f2⟩ := B.rho
  have nin : ∀ {a o}, H a = some o → a ∉ sh ρ → a ∉ sh ρ' := fun {a o} h1 h2 h3 => by
    simp only at e2
    rw [e2] at h3
    simp only [sh, List.mem_append] at h3
    rcases h3 with h3 | h3
    · exact h2 h3
    · have := f2 a h3
      simp only at this
      rw [h1] at this; cases this
  refine {
    sub := B.sub
    ext := A.ext.trans B.ext
    new := fun a o h => ?_
    rho := ⟨more ++ more2, ?_, fun a ha => ?_⟩
    keep := fun a o h h2 => ?_
    fsh := B.fsh
    sto := B.sto
    len := A.len
    dat := fun i d h => ?_
    mu := fun i xs h => ?_
    apart := A.apart
    pin := fun q hq => ?_ }
  · rcases B.new a o h with z | z | z
    · exact A.new a o z
    · exact .inr (.inl (A.fresh0 z))
    · simp only at z
      rw [e1] at z
      simp only [sh, List.mem_append] at z
      rcases z with z | z
      · exact .inr (.inr z)
      · exact .inr (.inl (f1 a z))
  · simp only at e2
    rw [e2, e1, List.append_assoc]
  · simp only [sh, List.mem_append] at ha
    rcases ha with ha | ha
    · exact f1 a ha
    · exact A.fresh0 (f2 a ha)
  · refine B.keep a o (A.keep a o h h2) fun z => ?_
    simp only at z
    rw [e1] at z
    simp only [sh, List.mem_append] at z
    rcases z with z | z
    · exact h2 z
    · rw [f1 a z] at h; cases h
  · obtain ⟨v, h1, h2⟩ := A.dat i d h
    exact ⟨v, h1, h2.mono B.ext ⟨more2, e2.symm⟩⟩
  · obtain ⟨a, vs, h1, h2, h3, h4, h5, h6⟩ := A.mu i xs h
    refine ⟨a, vs, h1, B.keep a _ h2 h5, h3.mono B.ext ⟨more2, e2.symm⟩, ?_, nin h2 h5, h6⟩
    cases q : F' a with
    | none => rfl
    | some o =>
      rcases B.new a o q with z | z | z
      · simp only at z; rw [h4] at z; cases z
      · simp only at z; rw [h2] at z; cases z
      · exact absurd z h5
  · obtain ⟨h1, h2, h3, h4⟩ := A.pin q hq
    refine ⟨B.keep _ _ h1 h3, ?_, nin h1 h3, h4⟩
    cases r : F' q.1 with
    | none => rfl
    | some o =>
      rcases B.new _ o r with z | z | z
      · simp only at z; rw [h2] at z; cases z
      · simp only at z; rw [h1] at z; cases z
      · exact absurd z h3
/-- ahead of a call -/
theorem Ab.enter (A : Ab g b F ρ σ H fr st) : Ab g ⟨H, F, ρ, []⟩ F ρ [] H [] st where
  sub := A.sub
  ext := .refl _
  new := fun a o h => .inl h
  rho := ⟨[], by simp, fun a ha => by simp at ha⟩
  keep := fun a o h _ => h
  fsh := A.fsh
  sto := A.sto
  len := rfl
  dat := fun i d h => by simp at h
  mu := fun i xs h => by simp at h
  apart := fun i j a xs ys h => by simp at h
  pin := fun q hq => by simp at hq
theorem WR.after {w : W} {v : V} (A : Ab g b F ρ σ H fr st) (B : Ab g ⟨H, F, ρ, []⟩ F' ρ' [] H' [] st') (h : WR g ⟨H, F, ρ, []⟩ F' ρ' H' [] [] w v) : WR g b F' ρ' H' σ fr w v := by
  cases w with
  | dat d => exact h
  | own xs =>
    obtain ⟨a, vs, e, h1, h2, h3, h4, h5, _⟩ := h
    refine ⟨a, vs, e, h1, h2, h3, h4, A.fresh0 h5, fun i ys q z => ?_, fun q hq => A.npin h5 hq⟩
    obtain ⟨a', vs', q1, q2, _⟩ := A.mu i ys q
    rw [z] at q1; cases q1
    simp only at h5
    rw [h5] at q2; cases q2
theorem run_fnG {pins : List (Addr × Obj)} {s : Shared} {us : List Value} {vs : List V} {f : Addr} {fd : FuncData} {ps : List Str} {sp : Sp} (G : Gd g wx k X) (Fn : FnG g k f fd ps sp) (hb : Binds g.K fd ps [])
    (I : Inv X pins σ H s) (r : Vals vs us) (h : sp vs H Q (WE wx σ)) : wpAny (model X.prog X.w) X.A (PySem.call (.ref f) us) (EP X pins σ Q) X.xe s := by
  obtain ⟨gP, gw, gK, gmg, gbase, fa, ca, cx⟩ := g
  have e1 := G.hP; have e2 := G.hw; have e3 := G.hK; have e4 := G.hmg; have e5 := G.hbase
  simp only at e1 e2 e3 e4 e5
  subst e1; subst e2; subst e3; subst e4; subst e5
  have hl : us.length = ps.length := by rw [← r.length]; exact Fn.len _ _ _ _ h
  have bd := hb s us I.kIn (by rw [List.append_nil]; exact hl)
  rw [List.append_nil] at bd
  refine wpAny_call (codeAny_mono (Fn.run X.A X.stack s H ⟨us, []⟩ us vs Q (WE wx σ) G.guards G.room I.env0 bd r h) fun r s' hq => ?_)
  cases r with
  | error e => exact passAt G.takes σ pins H s e s' I hq
  | ok fl =>
    cases fl with
    | ret u => exact I.after hq
    | next => exact False.elim hq
    | brk => exact False.elim hq
    | cont => exact False.elim hq
theorem noStar_cons {e : Expr} {es : List Expr} (h : noStar e = true) (env : PySem.Env) : starEach (e :: es) env = (false, eval e env) :: starEach es env := by
  cases e <;> first | rfl | cases h
end
end MP

set_option Elab.async false
set_option linter.all false
set_option maxRecDepth 100000
namespace MP
open PySem PySem.Spec L2

structure Cy (g : Gb) (wx : WX) (cf : Nat → List D → Sto → R W) (k : Nat) (X : Cx) (c : Cc) : Prop where
  G : Gd g wx k X
  M : Md g cf k c.fx c.cs
  hN : X.N = c.N
  hsc : X.env.scope = c.sc
  kind : c.sc.kind = .function
  hst : ∀ x, c.st x = true → X.fn x = true ∨ c.sc.names.lookup x = some .local
def tb : W → Sto → R Bool := fun x s => match x.d with
  | .bl k => .ok k s
  | _ => .bad
def evB (cf : Nat → List D → Sto → R W) (e : E) (fr : Fr) (st : Sto) : R Bool := (ev cf e fr st).bind tb
/-- what is walked: the items one by one -/
structure Walks (g : Gb) (b : Bs) (σ : L2.St) (fr : Fr) (F1 : Hp) (ρ1 : Rho) (J : L2.It) (ds : List D) (ks : List Nat) : Prop where
  go : ∀ i P F ρ σ' H fr' st', i < ds.length → Same F1 F → ρ1 <+: ρ → Ab g { b with P := P } F ρ σ' H fr' st' → (∀ m ∈ ks, fr'[m]? = fr[m]? ∧ σ'[m]? = σ[m]?) → J.go i H
  stop : ∀ i P F ρ σ' H fr' st', ds.length = i → Same F1 F → ρ1 <+: ρ → Ab g { b with P := P } F ρ σ' H fr' st' → (∀ m ∈ ks, fr'[m]? = fr[m]? ∧ σ'[m]? = σ[m]?) → J.stop i H
  yld : ∀ i P F ρ σ' H fr' st' x H', i < ds.length → Same F1 F → ρ1 <+: ρ → Ab g { b with P := P } F ρ σ' H fr' st' → (∀ m ∈ ks, fr'[m]? = fr[m]? ∧ σ'[m]? = σ[m]?) → J.yld i H x H' →
    ∃ d F', ds[i]? = some d ∧ Same F F' ∧ Ab g { b with P := P } F' ρ σ' H' fr' st' ∧ VR g F' ρ d x
def WkR (ks : List Nat) : Rel (List D) L2.It := fun g b F ρ _ σ fr ds J => Walks g b σ fr F ρ J ds ks
abbrev TW (g : Gb) (b : Bs) (wx : WX) (f : Fr → Sto → R (List D)) (ks : List Nat) : TI := T g b wx (WkR ks) f
theorem PI.by {X : Cx} {tg e : Expr} {t' : TI} (h : ∀ σ H Q, t' σ H Q → ∃ t, PI X tg e t ∧ t σ H Q) : PI X tg e t' := ⟨fun pins s σ H Q I q => by
  obtain ⟨t, p, q'⟩ := h σ H Q q
  exact p.run pins s σ H Q I q'⟩
theorem PG.by {X : Cx} {tg : Expr} {t' : TG} (h : ∀ v σ H Q, t' v σ H Q → ∃ t, PG X tg t ∧ t v σ H Q) : PG X tg t' := ⟨fun pins s σ H v u Q I r q => by
  obtain ⟨t, p, q'⟩ := h v σ H Q q
  exact p.run pins s σ H v u Q I r q'⟩

section
variable {g : Gb} {b : Bs} {wx : WX} {cf : Nat → List D → Sto → R W} {k : Nat} {X : Cx} {c : Cc} {F F' : Hp} {ρ ρ' : Rho} {σ : L2.St} {H H' : Hp} {fr : Fr} {st st' : Sto} {Q : VK}

theorem mem_blt {x : Str} (h : x ∈ bltNames) (Y : Cy g wx cf k X c) : X.mg x = none := by rw [Y.G.hmg]; exact Y.M.blt x h
theorem Cy.gl (Y : Cy g wx cf k X c) {x : Str} (h : glB c x = true) : Gl X x ∧ (x == ("__debug__" : Str)) = false ∧ x ≠ "__name__" := by
  unfold glB at h
  simp only [Bool.and_eq_true, Bool.not_eq_true', decide_eq_false_iff_not] at h
  obtain ⟨⟨h1, h2⟩, h3⟩ := h
  refine ⟨?_, h2, h3⟩
  show X.env.scope.names.lookup x = some .globalImplicit
  rw [Y.hsc]
  revert h1
  cases c.sc.names.lookup x with
  | none => intro h; cases h
  | some q => cases q <;> intro h <;> first | rfl | cases h
theorem Cy.vis (Y : Cy g wx cf k X c) {x : Str} {i : Nat} (h : visB c i x = true) : X.N[i]? = some x ∧ Vis X.env.scope x ∧ (x == ("__debug__" : Str)) = false ∧ (x == ("__classdict__" : Str)) = false := by
  unfold visB at h
  simp only [Bool.and_eq_true, Bool.not_eq_true', decide_eq_true_eq] at h
  obtain ⟨⟨⟨h1, h2⟩, h3⟩, h4⟩ := h
  refine ⟨by rw [Y.hN]; exact h1, ?_, h3, h4⟩
  unfold Vis
  rw [Y.hsc]
  revert h2
  cases c.sc.names.lookup x with
  | none => intro h; cases h
  | some q => cases q <;> intro h <;> first | exact .inl rfl | exact .inr (.inl rfl) | exact .inr (.inr rfl) | cases h
theorem Cy.loc (Y : Cy g wx cf k X c) {x : Str} {i : Nat} (h : locB c i x = true) : X.N[i]? = some x ∧ L2.Loc X.env.scope x ∧ (X.fn x = true ∨ X.env.scope.names.lookup x = some .local) := by
  unfold locB at h
  simp only [Bool.and_eq_true, decide_eq_true_eq] at h
  obtain ⟨⟨h1, h2⟩, h3⟩ := h
  refine ⟨by rw [Y.hN]; exact h1, ?_, by rw [Y.hsc]; exact Y.hst x h3⟩
  unfold L2.Loc
  rw [Y.hsc]
  revert h2
  cases c.sc.names.lookup x with
  | none => intro h; cases h
  | some q => cases q <;> intro h <;> first | exact .inl rfl | exact .inr rfl | cases h
theorem getD_some {fr : Fr} {i : Nat} {d : D} (h : getD fr i = some d) : fr[i]? = some (.dat d) := by
  unfold getD at h
  split at h
  · rename_i e; cases h; exact e
  · cases h
theorem getM_some {fr : Fr} {i : Nat} {d : List D} (h : getM fr i = some d) : fr[i]? = some (.mut d) := by
  unfold getM at h
  split at h
  · rename_i e; cases h; exact e
  · cases h
theorem e_var (Y : Cy g wx cf k X c) {i : Nat} {x : Str} {pos : Pos} (h : visB c i x = true) : PE X (.Name x pos) (T g b wx WR (ev cf (.var i))) := PE.by fun σ H Q q => by
  obtain ⟨h1, h2, h3, h4⟩ := Y.vis h
  refine ⟨_, pe_var h1 h2 h3 h4, ?_⟩
  obtain ⟨F, ρ, fr, st, A, p⟩ := q
  simp only [ev] at p
  cases e : getD fr i with
  | none => rw [e] at p; exact p.elim
  | some d =>
    rw [e] at p
    obtain ⟨v, e1, e2⟩ := A.dat i d (getD_some e)
    exact ⟨v, e1, Po.dat (d := d) p A e2⟩
theorem e_con {d : D} {q : Const} {j : Nat} {pos : Pos} (h : conB d q = true) : PE X (.Constant q j pos) (T g b wx WR (ev cf (.con d))) := PE.by fun σ H Q q' => by
  obtain ⟨F, ρ, fr, st, A, p⟩ := q'
  simp only [ev] at p
  cases d <;> cases q <;> first | (cases h; done) | skip
  · exact ⟨_, pe_non, p.dat A .non⟩
  · have e := beq_iff_eq.mp h
    subst e
    exact ⟨_, pe_bl, p.dat A (.bl _)⟩
  · have e := beq_iff_eq.mp h
    subst e
    exact ⟨_, pe_int, p.dat A (.int _)⟩
  · have e := of_decide_eq_true h
    subst e
    exact ⟨_, pe_str, p.dat A (.str _)⟩
theorem sameD_eq : ∀ (n : Nat) (d e : D), sameD n d e = true → d = e
  | n, .non, e, h => by cases e <;> cases n <;> first | rfl | cases h
  | n, .bl a, e, h => by cases e <;> cases n <;> first | (cases h; done) | exact congrArg _ (beq_iff_eq.mp h)
  | n, .int a, e, h => by cases e <;> cases n <;> first | (cases h; done) | exact congrArg _ (beq_iff_eq.mp h)
  | n, .str a, e, h => by cases e <;> cases n <;> first | (cases h; done) | exact congrArg _ (of_decide_eq_true h)
  | 0, .tup xs, e, h => by cases e <;> cases h
  | n + 1, .tup xs, e, h => by
    cases e <;> first | (cases h; done) | skip
    rename_i ys
    simp only [sameD, Bool.and_eq_true, beq_iff_eq] at h
    obtain ⟨h1, h2⟩ := h
    have : ∀ (xs ys : List D), xs.length = ys.length → ((xs.zip ys).all fun p => sameD n p.1 p.2) = true → xs = ys := by
      intro xs
      induction xs with
      | nil => intro ys h _; exact (List.eq_nil_of_length_eq_zero h.symm).symm
      | cons x xs ih =>
        intro ys h h'
        cases ys with
        | nil => simp at h
        | cons y ys =>
          simp only [List.zip_cons_cons, List.all_cons, Bool.and_eq_true] at h'
          rw [sameD_eq n x y h'.1, ih ys (by simpa using h) h'.2]
    rw [this xs ys h1 h2]
  | n, .lst _, e, h => by cases e <;> cases n <;> cases h
  | n, .emp, e, h => by cases e <;> cases n <;> cases h
  | n, .ref _, e, h => by cases e <;> cases n <;> cases h
  | n, .fn _, e, h => by cases e <;> cases n <;> cases h
  | n, .scr _, e, h => by cases e <;> cases n <;> cases h
theorem e_glo (Y : Cy g wx cf k X c) {x : Str} {d d' : D} {pos : Pos} (h : glB c x = true) (h1 : c.cs x = some d') (h2 : sameD 5 d d' = true) : PE X (.Name x pos) (T g b wx WR (ev cf (.glo x d))) := PE.by fun σ H Q q' => by
  obtain ⟨F, ρ, fr, st, A, p⟩ := q'
  have e := sameD_eq 5 d d' h2
  subst e
  obtain ⟨v, u, m1, m2, m3⟩ := Y.M.con x d h1
  obtain ⟨k1, k2, k3⟩ := Y.gl h
  exact ⟨_, pe_glob k1 (by rw [Y.G.hmg]; exact m1) m2 k2, Po.dat (d := d) p A (m3 F ρ)⟩
theorem e_tup {es : List Expr} {k0 : Nat} {pos : Pos} {a : A} (h : PA X es (T g b wx LR (evA cf a))) : PE X (.Tuple es k0 pos) (T g b wx WR (ev cf (.tup a))) := PE.by fun σ H Q q' => by
  obtain ⟨F, ρ, fr, st, A, p⟩ := q'
  simp only [ev] at p
  refine ⟨_, pe_tup h, F, ρ, fr, st, A, p.seq fun ds s1 F1 ρ1 H1 vs e _ _ A1 r p1 => ?_⟩
  split at p1
  · rename_i hz
    exact ⟨by rw [← VRs.length r]; exact hz, p1.tup A1 r⟩
  · exact p1.elim
theorem e_lst {es : List Expr} {pos : Pos} {a : A} (h : PA X es (T g b wx LR (evA cf a))) : PE X (.List es pos) (T g b wx WR (ev cf (.lst a))) := PE.by fun σ H Q q' => by
  obtain ⟨F, ρ, fr, st, A, p⟩ := q'
  simp only [ev] at p
  refine ⟨_, pe_lst h, F, ρ, fr, st, A, p.seq fun ds s1 F1 ρ1 H1 vs e _ _ A1 r p1 => ?_⟩
  split at p1
  · rename_i hz
    exact ⟨by rw [← VRs.length r]; exact hz, p1.lst A1 r⟩
  · exact p1.elim
/-- two parts -/
theorem two {a b' : E} {Q : VK} {r : V → V → Hp → Prop} {k2 : W → W → Sto → R W} (p : Po g b wx WR ((ev cf a fr st).bind fun x s1 => (ev cf b' fr s1).bind fun y s2 => k2 x y s2) F ρ σ fr Q) (A : Ab g b F ρ σ H fr st)
    (h : ∀ x y s2 F2 ρ2 H2 v u, Ab g b F2 ρ2 σ H2 fr s2 → VR g F2 ρ2 x.d v → VR g F2 ρ2 y.d u → Po g b wx WR (k2 x y s2) F2 ρ2 σ fr Q → r v u H2) :
    T g b wx DR (ev cf a) σ H fun v H1 => T g b wx DR (ev cf b') σ H1 fun u H2 => r v u H2 :=
  ⟨F, ρ, fr, st, A, p.seq fun x s1 F1 ρ1 H1 v _ _ _ A1 rv p1 => ⟨F1, ρ1, fr, s1, A1, p1.seq fun y s2 F2 ρ2 H2 u _ S2 P2 A2 ru p2 => h x y s2 F2 ρ2 H2 v u A2 (VR.mono S2 P2 rv) ru p2⟩⟩
theorem one {α : Type} {a : E} {δ : Type} {R2 : Rel α δ} {Q : δ → Hp → Prop} {r : V → Hp → Prop} {k2 : W → Sto → R α} (p : Po g b wx R2 ((ev cf a fr st).bind k2) F ρ σ fr Q) (A : Ab g b F ρ σ H fr st)
    (h : ∀ x s2 F2 ρ2 H2 v, Ab g b F2 ρ2 σ H2 fr s2 → VR g F2 ρ2 x.d v → Po g b wx R2 (k2 x s2) F2 ρ2 σ fr Q → r v H2) : T g b wx DR (ev cf a) σ H r :=
  ⟨F, ρ, fr, st, A, p.seq fun x s1 F1 ρ1 H1 v _ _ _ A1 rv p1 => h x s1 F1 ρ1 H1 v A1 rv p1⟩
def rAny (X : Cx) (f : Value → Value → Sem Value) : R2 := fun v u H Q => ∃ r, OpR X f r ∧ r v u H Q
theorem opAny {f : Value → Value → Sem Value} : OpR X f (rAny X f) := fun pins s σ H x y v u Q I rx ry ⟨r, h1, h2⟩ => h1 pins s σ H x y v u Q I rx ry h2
def cAny (X : Cx) (f : Value) : List V → Hp → VK → Prop := fun vs H Q => ∃ r, CallR X f r ∧ r vs H Q
theorem callAny' {f : Value} : CallR X f (cAny X f) := fun pins s σ H xs us Q I r ⟨r', h1, h2⟩ => h1 pins s σ H xs us Q I r h2
def iAny (X : Cx) : R2 := fun v u H Q => ∃ r, IxR X r ∧ r v u H Q
theorem ixAny : IxR X (iAny X) := fun value slice pins s σ H x y v u Q I rx ry ⟨r, h1, h2⟩ hs => h1 value slice pins s σ H x y v u Q I rx ry h2 hs
def sAny (X : Cx) : V → Option Int → Option Int → Hp → VK → Prop := fun v l h H Q => ∃ r, SlR X r ∧ r v l h H Q
theorem slAny : SlR X (sAny X) := fun pins s σ H x v vl vu lo hi sl Q I rx hs pl pu ⟨r, h1, h2⟩ => h1 pins s σ H x v vl vu lo hi sl Q I rx hs pl pu h2
theorem e_bin (Y : Cy g wx cf k X c) {o : Bop} {a b' : E} {x y : Expr} {pos : Pos} (hx : PE X x (T g b wx DR (ev cf a))) (hy : PE X y (T g b wx DR (ev cf b'))) : PE X (.BinOp x (opOf o) y pos) (T g b wx WR (ev cf (.bin o a b'))) := PE.by fun σ H Q q' => by
  obtain ⟨F, ρ, fr, st, A, p⟩ := q'
  simp only [ev] at p
  exact ⟨_, pe_op opAny hx hy, two p A fun x y s2 F2 ρ2 H2 v u A2 rv ru p2 => bin_ok Y.G o A2 rv ru p2⟩
theorem noSet_marks {o : CmpOp} {e : Expr} (h : noSet e = true) : behindInMarks o e = false := by
  cases e <;> first | rfl | cases h
theorem opt_map_bl {o : Option Bool} {Q : VK} (p : Po g b wx WR (opt (o.map fun k => W.dat (.bl k)) st) F ρ σ fr Q) : ∃ k, o = some k ∧ Po g b wx WR (.ok (.dat (.bl k)) st) F ρ σ fr Q := by
  cases o with
  | none => exact p.elim
  | some k => exact ⟨k, rfl, p⟩
theorem e_cmp (Y : Cy g wx cf k X c) {o : Cop} {a b' : E} {x y : Expr} {pos : Pos} (hx : PE X x (T g b wx DR (ev cf a))) (hy : PE X y (T g b wx DR (ev cf b'))) (hs : noSet y = true) : PE X (.Compare x [cpOf o] [y] pos) (T g b wx WR (ev cf (.cmp o a b'))) := PE.by fun σ H Q q' => by
  obtain ⟨F, ρ, fr, st, A, p⟩ := q'
  simp only [ev] at p
  refine ⟨_, pe_cmpR opAny hx hy (noSet_marks hs), two p A fun x y s2 F2 ρ2 H2 v u A2 rv ru p2 => ?_⟩
  obtain ⟨k, e, p3⟩ := opt_map_bl p2
  exact cmp_ok Y.G o A2 rv ru e (p3.dat A2 (.bl _))
theorem e_chain (Y : Cy g wx cf k X c) {o o' : Cop} {a b' d : E} {x y z : Expr} {pos : Pos} (hx : PE X x (T g b wx DR (ev cf a))) (hy : PE X y (T g b wx DR (ev cf b'))) (hz : PE X z (T g b wx DR (ev cf d))) (hs : noSet y = true) (hs' : noSet z = true) :
    PE X (.Compare x [cpOf o, cpOf o'] [y, z] pos) (T g b wx WR (ev cf (.chain o o' a b' d))) := PE.by fun σ H Q q' => by
  obtain ⟨F, ρ, fr, st, A, p⟩ := q'
  simp only [ev] at p
  refine ⟨_, pe_chain opAny opAny hx hy hz (noSet_marks hs'), ?_⟩
  refine ⟨F, ρ, fr, st, A, p.seq fun x s1 F1 ρ1 H1 v _ _ _ A1 rv p1 => ⟨F1, ρ1, fr, s1, A1, p1.seq fun y s2 F2 ρ2 H2 u _ S2 P2 A2 ru p2 => ?_⟩⟩
  have rv2 := VR.mono S2 P2 rv
  cases e : cmpD o x.d y.d with
  | none => rw [e] at p2; exact p2.elim
  | some t =>
    rw [e] at p2
    refine cmp_ok Y.G o A2 rv2 ru e ?_
    refine ⟨t, rfl, ?_⟩
    cases t with
    | true =>
      rw [if_pos rfl]
      refine ⟨F2, ρ2, fr, s2, A2, Po.seq p2 fun z s3 F3 ρ3 H3 w _ S3 P3 A3 rw' p3 => ?_⟩
      obtain ⟨k, e', p4⟩ := opt_map_bl p3
      exact cmp_ok Y.G o' A3 (VR.mono S3 P3 ru) rw' e' (p4.dat A3 (.bl _))
    | false =>
      rw [if_neg Bool.false_ne_true]
      exact Po.dat (d := .bl false) p2 A2 (.bl _)
theorem e_neg {a : E} {x : Expr} {pos : Pos} (hx : PE X x (T g b wx DR (ev cf a))) : PE X (.UnaryOp .USub x pos) (T g b wx WR (ev cf (.neg a))) := PE.by fun σ H Q q' => by
  obtain ⟨F, ρ, fr, st, A, p⟩ := q'
  simp only [ev] at p
  refine ⟨_, pe_un un_neg hx, one p A fun x s2 F2 ρ2 H2 v A2 rv p2 => ?_⟩
  split at p2
  · rename_i e
    rw [e] at rv
    cases rv
    exact ⟨_, rfl, p2.dat A2 (.int _)⟩
  · exact p2.elim
theorem e_not {a : E} {x : Expr} {pos : Pos} (hx : PE X x (T g b wx DR (ev cf a))) : PE X (.UnaryOp .Not x pos) (T g b wx WR (ev cf (.not a))) := PE.by fun σ H Q q' => by
  obtain ⟨F, ρ, fr, st, A, p⟩ := q'
  simp only [ev] at p
  refine ⟨_, pe_not hx, one p A fun x s2 F2 ρ2 H2 v A2 rv p2 => ?_⟩
  split at p2
  · rename_i e
    rw [e] at rv
    cases rv
    exact ⟨_, rfl, p2.dat A2 (.bl _)⟩
  · exact p2.elim
theorem T.of {α β : Type} {Rl : Rel α β} {f : Fr → Sto → R α} {Q : β → Hp → Prop} (A : Ab g b F ρ σ H fr st) (p : Po g b wx Rl (f fr st) F ρ σ fr Q) : T g b wx Rl f σ H Q := ⟨F, ρ, fr, st, A, p⟩
theorem e_and {a b' : E} {x y : Expr} {r : List Expr} {pos : Pos} (hx : PE X x (T g b wx DR (ev cf a))) (hy : PE X (.BoolOp .And (y :: r) pos) (T g b wx WR (ev cf b'))) : PE X (.BoolOp .And (x :: y :: r) pos) (T g b wx WR (ev cf (.and a b'))) := PE.by fun σ H Q q' => by
  obtain ⟨F, ρ, fr, st, A, p⟩ := q'
  simp only [ev] at p
  refine ⟨_, pe_and hx hy, one p A fun x s2 F2 ρ2 H2 v A2 rv p2 => ?_⟩
  split at p2
  · rename_i e
    rw [e] at rv; cases rv
    exact ⟨_, rfl, by rw [if_pos rfl]; exact .of A2 p2⟩
  · rename_i e
    rw [e] at rv; cases rv
    exact ⟨_, rfl, by rw [if_neg Bool.false_ne_true]; exact p2.dat A2 (.bl _)⟩
  · exact p2.elim
theorem e_or {a b' : E} {x y : Expr} {r : List Expr} {pos : Pos} (hx : PE X x (T g b wx DR (ev cf a))) (hy : PE X (.BoolOp .Or (y :: r) pos) (T g b wx WR (ev cf b'))) : PE X (.BoolOp .Or (x :: y :: r) pos) (T g b wx WR (ev cf (.or a b'))) := PE.by fun σ H Q q' => by
  obtain ⟨F, ρ, fr, st, A, p⟩ := q'
  simp only [ev] at p
  refine ⟨_, pe_or hx hy, one p A fun x s2 F2 ρ2 H2 v A2 rv p2 => ?_⟩
  split at p2
  · rename_i e
    rw [e] at rv; cases rv
    exact ⟨_, rfl, by rw [if_pos rfl]; exact p2.dat A2 (.bl _)⟩
  · rename_i e
    rw [e] at rv; cases rv
    exact ⟨_, rfl, by rw [if_neg Bool.false_ne_true]; exact .of A2 p2⟩
  · exact p2.elim
theorem e_ite {t a b' : E} {z x y : Expr} {pos : Pos} (hz : PT X z (T g b wx BR (evB cf t))) (hx : PE X x (T g b wx WR (ev cf a))) (hy : PE X y (T g b wx WR (ev cf b'))) : PE X (.IfExp z x y pos) (T g b wx WR (ev cf (.ite t a b'))) := PE.by fun σ H Q q' => by
  obtain ⟨F, ρ, fr, st, A, p⟩ := q'
  simp only [ev] at p
  refine ⟨_, pe_ifExp hz hx hy, F, ρ, fr, st, A, ?_⟩
  show Po g b wx BR ((ev cf t fr st).bind tb) F ρ σ fr _
  cases e : ev cf t fr st with
  | bad => rw [e] at p; exact p.elim
  | exc c' p' s' => rw [e] at p; exact p
  | ok w s1 =>
    rw [e] at p
    simp only [R.bind] at p ⊢
    unfold tb
    split at p
    · rename_i e2
      simp only [e2]
      intro F1 ρ1 H1 k S P A1 r
      cases r
      rw [if_pos rfl]
      exact .of A1 (p.mono S P)
    · rename_i e2
      simp only [e2]
      intro F1 ρ1 H1 k S P A1 r
      cases r
      rw [if_neg Bool.false_ne_true]
      exact .of A1 (p.mono S P)
    · exact p.elim
theorem plain_ix {e : Expr} (h : noSlice e = true) : PlainIx e := by
  intro o i
  cases e <;> first | rfl | cases h
theorem e_idx (Y : Cy g wx cf k X c) {a b' : E} {x y : Expr} {pos : Pos} (hx : PE X x (T g b wx DR (ev cf a))) (hy : PE X y (T g b wx DR (ev cf b'))) (hs : noSlice y = true) : PE X (.Subscript x y pos) (T g b wx WR (ev cf (.idx a b'))) := PE.by fun σ H Q q' => by
  obtain ⟨F, ρ, fr, st, A, p⟩ := q'
  simp only [ev] at p
  refine ⟨_, pe_ix ixAny hx hy (plain_ix hs), two p A fun x y s2 F2 ρ2 H2 v u A2 rv ru p2 => ?_⟩
  split at p2
  · rename_i xs i e1 e2
    rw [e2] at ru; cases ru
    cases e : atD xs i with
    | none => rw [e] at p2; exact p2.elim
    | some d =>
      rw [e] at p2
      exact idx_ok Y.G A2 e1 rv e fun v r => Po.dat (d := d) p2 A2 r
  · exact p2.elim
theorem e_idxM (Y : Cy g wx cf k X c) {m : Nat} {b' : E} {x : Str} {px : Pos} {y : Expr} {pos : Pos} (h : visB c m x = true) (hy : PE X y (T g b wx DR (ev cf b'))) (hs : noSlice y = true) : PE X (.Subscript (.Name x px) y pos) (T g b wx WR (ev cf (.idxM m b'))) := PE.by fun σ H Q q' => by
  obtain ⟨F, ρ, fr, st, A, p⟩ := q'
  obtain ⟨h1, h2, h3, h4⟩ := Y.vis h
  simp only [ev] at p
  refine ⟨_, pe_ix ix_list (pe_var h1 h2 h3 h4) hy (plain_ix hs), ?_⟩
  cases e0 : getM fr m with
  | none => rw [e0] at p; exact p.elim
  | some xs =>
    rw [e0] at p
    obtain ⟨a, vs, q1, q2, _⟩ := A.mu m xs (getM_some e0)
    refine ⟨.ref a, q1, one p A fun y s2 F2 ρ2 H2 u A2 ru p2 => ?_⟩
    split at p2
    · rename_i i e2
      rw [e2] at ru; cases ru
      obtain ⟨a2, vs2, q1', q2', q3', _⟩ := A2.mu m xs (getM_some e0)
      rw [q1] at q1'; cases q1'
      cases e : atD xs i with
      | none => rw [e] at p2; exact p2.elim
      | some d =>
        rw [e] at p2
        obtain ⟨z, z1, z2⟩ := atD_ok q3' e
        exact ⟨a, vs2, i, z, rfl, rfl, .inl (.inl q2'), z1, Po.dat (d := d) p2 A2 z2⟩
    · exact p2.elim
theorem e_lenM (Y : Cy g wx cf k X c) {m : Nat} {x f : Str} {px pf : Pos} {pos : Pos} (hf : f = "len") (hg : glB c f = true) (h : visB c m x = true) : PE X (.Call (.Name f pf) [.Name x px] [] pos) (T g b wx WR (ev cf (.lenM m))) := PE.by fun σ H Q q' => by
  obtain ⟨F, ρ, fr, st, A, p⟩ := q'
  obtain ⟨h1, h2, h3, h4⟩ := Y.vis h
  obtain ⟨k1, k2, k3⟩ := Y.gl hg
  subst hf
  simp only [ev] at p
  refine ⟨_, pe_callB call_len k1 (mem_blt (by simp [bltNames]) Y) boot_len (pa_cons (pe_var h1 h2 h3 h4) pa_nil), ?_⟩
  cases e0 : getM fr m with
  | none => rw [e0] at p; exact p.elim
  | some xs =>
    rw [e0] at p
    obtain ⟨a, vs, q1, q2, q3, _⟩ := A.mu m xs (getM_some e0)
    exact ⟨.ref a, q1, _, _, rfl, .inl ⟨vs, .inl (.inl q2), q3.length⟩, Po.dat (d := .int xs.length) p A (.int _)⟩
theorem e_slc (Y : Cy g wx cf k X c) {a : E} {lo hi : O} {x : Expr} {lo' hi' : Option Expr} {p2 pos : Pos} (hx : PE X x (T g b wx DR (ev cf a))) (hl : PO X lo' (T g b wx IR (evO cf lo))) (hh : PO X hi' (T g b wx IR (evO cf hi))) :
    PE X (.Subscript x (.Slice lo' hi' none p2) pos) (T g b wx WR (ev cf (.slc a lo hi))) := PE.by fun σ H Q q' => by
  obtain ⟨F, ρ, fr, st, A, p⟩ := q'
  simp only [ev] at p
  refine ⟨_, pe_slice slAny hx hl hh, ?_⟩
  refine ⟨F, ρ, fr, st, A, p.seq fun x s1 F1 ρ1 H1 v _ _ _ A1 rv p1 => ⟨F1, ρ1, fr, s1, A1, p1.seq fun l s2 F2 ρ2 H2 l' _ S2 P2 A2 rl p2 => ⟨F2, ρ2, fr, s2, A2, p2.seq fun h s3 F3 ρ3 H3 h' _ S3 P3 A3 rh p3 => ?_⟩⟩⟩
  cases rl; cases rh
  exact slc_ok Y.G A3 (VR.mono S3 P3 (VR.mono S2 P2 rv)) l h p3
theorem e_b1 (Y : Cy g wx cf k X c) {f : B1} {a : E} {x : Expr} {y : Str} {py pos : Pos} (hf : y = b1N f) (hg : glB c y = true) (hs : noStar x = true) (hx : PE X x (T g b wx DR (ev cf a))) : PE X (.Call (.Name y py) [x] [] pos) (T g b wx WR (ev cf (.b1 f a))) := PE.by fun σ H Q q' => by
  obtain ⟨F, ρ, fr, st, A, p⟩ := q'
  obtain ⟨k1, k2, k3⟩ := Y.gl hg
  have k4 : X.mg y = none := mem_blt (by subst hf; cases f <;> simp [bltNames, b1N]) Y
  have k5 := b1_boot f
  rw [← hf] at k5
  simp only [ev] at p
  have fin : tCB (cAny X (b1V f)) (tCons (T g b wx DR (ev cf a)) tNil) σ H Q := one p A fun x s2 F2 ρ2 H2 v A2 rv p2 => b1_ok Y.G f A2 rv p2
  have ha : PA X [x] (tCons (T g b wx DR (ev cf a)) tNil) := pa_cons hx pa_nil (noStar_cons hs _)
  have ty : (∃ id, b1V f = .builtin id) ∨ ∃ T, b1V f = .type T := by
    cases f <;> first | exact .inl ⟨_, rfl⟩ | exact .inr ⟨_, rfl⟩
  rcases ty with ⟨id, e⟩ | ⟨T, e⟩
  · rw [e] at k5 fin
    exact ⟨_, pe_callB callAny' k1 k4 k5 ha k3 k2 (noStar_cons hs _), fin⟩
  · rw [e] at k5 fin
    exact ⟨_, pe_callTy callAny' k1 k4 k5 ha k3 k2 (noStar_cons hs _), fin⟩
theorem e_b2 (Y : Cy g wx cf k X c) {f : B2} {a b' : E} {x z : Expr} {y : Str} {py pos : Pos} (hf : y = b2N f) (hg : glB c y = true) (hs : noStar x = true) (hs' : noStar z = true) (hx : PE X x (T g b wx DR (ev cf a))) (hz : PE X z (T g b wx DR (ev cf b'))) :
    PE X (.Call (.Name y py) [x, z] [] pos) (T g b wx WR (ev cf (.b2 f a b'))) := PE.by fun σ H Q q' => by
  obtain ⟨F, ρ, fr, st, A, p⟩ := q'
  obtain ⟨k1, k2, k3⟩ := Y.gl hg
  have k4 : X.mg y = none := mem_blt (by subst hf; cases f <;> simp [bltNames, b2N]) Y
  have k5 := b2_boot f
  rw [← hf] at k5
  simp only [ev] at p
  have fin : tCB (cAny X (b2V f)) (tCons (T g b wx DR (ev cf a)) (tCons (T g b wx DR (ev cf b')) tNil)) σ H Q := two p A fun x y s2 F2 ρ2 H2 v u A2 rv ru p2 => b2_ok Y.G f A2 rv ru p2
  have ha : PA X [x, z] (tCons (T g b wx DR (ev cf a)) (tCons (T g b wx DR (ev cf b')) tNil)) := pa_cons hx (pa_cons hz pa_nil (noStar_cons hs' _)) (noStar_cons hs _)
  have ty : ∃ id, b2V f = .builtin id := by cases f <;> exact ⟨_, rfl⟩
  obtain ⟨id, e⟩ := ty
  rw [e] at k5 fin
  exact ⟨_, pe_callB callAny' k1 k4 k5 ha k3 k2 (noStar_cons hs _) (by rw [noStar_cons hs']; rfl), fin⟩
theorem e_isi (Y : Cy g wx cf k X c) {t : Ty} {a : E} {x : Expr} {y z : Str} {py pz pos : Pos} (hf : y = "isinstance") (hg : glB c y = true) (hz : z = tyN t) (hgz : glB c z = true) (hs : noStar x = true) (hx : PE X x (T g b wx DR (ev cf a))) :
    PE X (.Call (.Name y py) [x, .Name z pz] [] pos) (T g b wx WR (ev cf (.isi a t))) := PE.by fun σ H Q q' => by
  obtain ⟨F, ρ, fr, st, A, p⟩ := q'
  obtain ⟨k1, k2, k3⟩ := Y.gl hg
  obtain ⟨l1, l2, l3⟩ := Y.gl hgz
  have k4 : X.mg y = none := mem_blt (by subst hf; simp [bltNames]) Y
  have l4 : X.mg z = none := mem_blt (by subst hz; cases t <;> simp [bltNames, tyN]) Y
  have l5 := ty_boot t
  rw [← hz] at l5
  subst hf
  simp only [ev] at p
  refine ⟨_, pe_callB call_isi k1 k4 PyProof.Rows.boot_isinstance (pa_cons hx (pa_cons (pe_bltn (v := .ty (tyS t)) l1 l4 l5 rfl l3 l2) pa_nil) (noStar_cons hs _)) k3 k2 (noStar_cons hs _), one p A fun x s2 F2 ρ2 H2 v A2 rv p2 => ?_⟩
  obtain ⟨q, e, p3⟩ := opt_map_bl p2
  exact isi_ok Y.G t A2 rv e (p3.dat A2 (.bl _))
theorem backTo_any (pos : Pos) : ∀ l : List (Bool × Sem Value), (backTo pos l).any (·.1) = l.any (·.1)
  | [] => rfl
  | x :: l => by
    show (_ || (backTo pos l).any (·.1)) = _
    rw [backTo_any pos l]
    rfl
theorem e_call (Y : Cy g wx cf k X c) {f : Nat} {x : Str} {es : A} {e' : Expr} {es' : List Expr} {px pos : Pos} (hg : glB c x = true) (hf : c.fx x = some f) (hs : noStar e' = true) (hpl : (starEach es' X.env).any (·.1) = false) (ha : PA X (e' :: es') (T g b wx LR (evA cf es))) :
    PE X (.Call (.Name x px) (e' :: es') [] pos) (T g b wx WR (ev cf (.call f x es))) := ⟨fun pins s σ H Q I q' => by
  obtain ⟨F, ρ, fr, st, A, p⟩ := q'
  obtain ⟨k1, k2, k3⟩ := Y.gl hg
  obtain ⟨fd, ps, m1, m2, m3, m4, m5⟩ := Y.M.fn x f hf
  simp only [ev] at p
  have hpl' : (backTo pos (starEach es' X.env)).any (·.1) = false := by rw [backTo_any]; exact hpl
  refine wpAny_Call_Name_kw (ld_glob I k1 (by rw [Y.G.hmg]; exact m1) ?_ k2)
  refine PySem.W.callWith_K (h₀ := X.base) I.ok.mod.kin (by rw [Y.G.hK]; exact m2) (thn (ha.run pos pins s σ H (fun vs H1 => spOf g (cf f) ps.length vs H1 Q (WE wx σ)) I ⟨F, ρ, fr, st, A, p.seq fun ds s1 F1 ρ1 H1 vs _ _ _ A1 rv p1 => ?_⟩) fun us s1 ⟨vs, H1, I1, r, q⟩ => ⟨I1.kIn, ?_⟩) (noStar_cons hs _) hpl'
  · refine ⟨F1, ρ1, ds, s1, ?_, A1.enter, rv, ?_⟩
    · rw [← VRs.length rv]
      refine m5 ds s1 fun z => ?_
      rw [z] at p1
      exact p1
    · cases e : cf f ds s1 with
      | bad => rw [e] at p1; exact p1.elim
      | ok w s2 =>
        rw [e] at p1
        exact fun F2 ρ2 H2 v S P B r => p1 F2 ρ2 H2 v S P (A1.after B) (r.after A1 B)
      | exc c' p' s2 =>
        rw [e] at p1
        exact fun F2 ρ2 H2 cls d S P B r => p1 F2 ρ2 H2 cls d S P (A1.after B) r
  · exact run_fnG Y.G m4 m3 I1 r q⟩
end
end MP

set_option Elab.async false
set_option linter.all false
set_option maxRecDepth 100000
namespace MP
open PySem PySem.Spec L2
section
variable {g : Gb} {b : Bs} {wx : WX} {cf : Nat → List D → Sto → R W} {k : Nat} {X : Cx} {c : Cc} {F F' : Hp} {ρ ρ' : Rho} {σ : L2.St} {H H' : Hp} {fr : Fr} {st st' : Sto} {Q : VK}

/-! ### arguments, parts -/
theorem a_nil : PA X [] (T g b wx LR (evA cf .nil)) := PA.by fun σ H Q q' => by
  obtain ⟨F, ρ, fr, st, A, p⟩ := q'
  exact ⟨_, pa_nil, p F ρ H [] (.refl _) (pfx _) A .nil⟩
theorem a_cons {a : E} {r : A} {x : Expr} {xs : List Expr} (hs : noStar x = true) (hx : PE X x (T g b wx DR (ev cf a))) (hr : PA X xs (T g b wx LR (evA cf r))) : PA X (x :: xs) (T g b wx LR (evA cf (.cons a r))) := PA.by fun σ H Q q' => by
  obtain ⟨F, ρ, fr, st, A, p⟩ := q'
  simp only [evA] at p
  refine ⟨_, pa_cons hx hr (noStar_cons hs _), F, ρ, fr, st, A, p.seq fun x s1 F1 ρ1 H1 v _ _ _ A1 rv p1 => ⟨F1, ρ1, fr, s1, A1, p1.seq fun ys s2 F2 ρ2 H2 vs _ S2 P2 A2 rs p2 => ?_⟩⟩
  exact p2 F2 ρ2 H2 _ (.refl _) (pfx _) A2 (.cons (VR.mono S2 P2 rv) rs)
theorem a_star {a : E} {r : A} {x : Expr} {px : Pos} {xs : List Expr} (Y : Cy g wx cf k X c) (hx : PE X x (T g b wx DR (ev cf a))) (hr : PA X xs (T g b wx LR (evA cf r))) : PA X (.Starred x px :: xs) (T g b wx LR (evA cf (.star a r))) := PA.by fun σ H Q q' => by
  obtain ⟨F, ρ, fr, st, A, p⟩ := q'
  simp only [evA] at p
  refine ⟨_, StX.pa_star hx hr, F, ρ, fr, st, A, p.seq fun x s1 F1 ρ1 H1 v _ _ _ A1 rv p1 => ?_⟩
  split at p1
  · rename_i ys e
    have key : ∃ p vs, v = V.ref p ∧ (SqT X.K H1 p vs ∨ SqL X.K H1 p vs) ∧ VRs g F1 ρ1 ys vs := by
      have rv' : VR g F1 ρ1 x.d v := rv
      revert rv' e
      generalize x.d = d
      intro e rv'
      cases d <;> simp only [items] at e <;> first | (cases e; done) | skip
      · cases e
        obtain ⟨a', vs, rfl, a1, a2⟩ := rv'.tupI
        exact ⟨a', vs, rfl, .inl (by rw [Y.G.hK]; exact A1.sqT a1), a2⟩
      · cases e
        obtain ⟨a', vs, rfl, a1, a2⟩ := rv'.lstI
        exact ⟨a', vs, rfl, .inr (.inl (.inl (A1.sub _ _ a1))), a2⟩
      · cases e
        obtain ⟨a', rfl, a1⟩ := rv'.scrI
        exact ⟨a', _, rfl, .inr (by rw [Y.G.hK]; exact A1.sub.seq a1), .of_ints _⟩
    obtain ⟨a', vs, rfl, h1, h2⟩ := key
    refine ⟨a', vs, rfl, h1, F1, ρ1, fr, s1, A1, p1.seq fun zs s2 F2 ρ2 H2 us _ S2 P2 A2 rs p2 => ?_⟩
    exact p2 F2 ρ2 H2 _ (.refl _) (pfx _) A2 ((h2.mono S2 P2).append rs)
  · exact p1.elim
theorem o_none : PO X none (T g b wx IR (evO cf .none)) := ⟨fun pins s σ H Q I q' => by
  obtain ⟨F, ρ, fr, st, A, p⟩ := q'
  exact po_none.run pins s σ H Q I (p F ρ H none (.refl _) (pfx _) A rfl)⟩
theorem o_some {a : E} {x : Expr} (hx : PE X x (T g b wx DR (ev cf a))) : PO X (some x) (T g b wx IR (evO cf (.some a))) := ⟨fun pins s σ H Q I q' => by
  obtain ⟨F, ρ, fr, st, A, p⟩ := q'
  simp only [evO] at p
  refine (po_some hx).run pins s σ H Q I ?_
  refine one p A fun x s1 F1 ρ1 H1 v A1 rv p1 => ?_
  split at p1
  · rename_i i e
    rw [e] at rv; cases rv
    exact ⟨i, rfl, p1 F1 ρ1 H1 _ (.refl _) (pfx _) A1 rfl⟩
  · exact p1.elim⟩

/-! ### tests -/
theorem t_not {a : E} {x : Expr} {pos : Pos} (hx : PT X x (T g b wx BR (evB cf a))) : PT X (.UnaryOp .Not x pos) (T g b wx BR (evB cf (.not a))) := PT.by fun σ H Q q' => by
  obtain ⟨F, ρ, fr, st, A, p⟩ := q'
  refine ⟨_, pt_not hx, F, ρ, fr, st, A, ?_⟩
  have e : evB cf (.not a) fr st = (evB cf a fr st).bind fun k s => .ok (!k) s := by
    simp only [evB, ev]
    cases ev cf a fr st with
    | ok w s => simp only [R.bind, tb]; cases w.d <;> rfl
    | exc _ _ _ => rfl
    | bad => rfl
  rw [e] at p
  refine p.seq fun x s1 F1 ρ1 H1 v _ _ _ A1 rv p1 => ?_
  cases rv
  exact p1 F1 ρ1 H1 _ (.refl _) (pfx _) A1 rfl
theorem evB_and {a b' : E} : evB cf (.and a b') fr st = (evB cf a fr st).bind fun k s => if k then evB cf b' fr s else .ok false s := by
  simp only [evB, ev]
  cases ev cf a fr st with
  | ok w s =>
    simp only [R.bind, tb]
    cases w.d <;> first | rfl | skip
    rename_i k
    cases k <;> rfl
  | exc _ _ _ => rfl
  | bad => rfl
theorem evB_or {a b' : E} : evB cf (.or a b') fr st = (evB cf a fr st).bind fun k s => if k then .ok true s else evB cf b' fr s := by
  simp only [evB, ev]
  cases ev cf a fr st with
  | ok w s =>
    simp only [R.bind, tb]
    cases w.d <;> first | rfl | skip
    rename_i k
    cases k <;> rfl
  | exc _ _ _ => rfl
  | bad => rfl
theorem PW.by {e : Expr} {t' : TT} (h : ∀ σ H Q, t' σ H Q → ∃ t, PW X e t ∧ t σ H Q) : PW X e t' := ⟨fun wh pins s σ H Q I q => by
  obtain ⟨t, p, q'⟩ := h σ H Q q
  exact p.run wh pins s σ H Q I q'⟩
theorem w_and {a b' : E} {x y : Expr} {r : List Expr} {pos : Pos} (hx : PT X x (T g b wx BR (evB cf a))) (hy : PW X (.BoolOp .And (y :: r) pos) (T g b wx BR (evB cf b'))) : PW X (.BoolOp .And (x :: y :: r) pos) (T g b wx BR (evB cf (.and a b'))) := PW.by fun σ H Q q' => by
  obtain ⟨F, ρ, fr, st, A, p⟩ := q'
  rw [evB_and] at p
  refine ⟨_, pw_and hx hy, F, ρ, fr, st, A, p.seq fun x s1 F1 ρ1 H1 v _ _ _ A1 rv p1 => ?_⟩
  cases rv
  cases x with
  | true => rw [if_pos rfl] at p1 ⊢; exact .of A1 p1
  | false => rw [if_neg Bool.false_ne_true] at p1 ⊢; exact p1 F1 ρ1 H1 _ (.refl _) (pfx _) A1 rfl
theorem w_or {a b' : E} {x y : Expr} {r : List Expr} {pos : Pos} (hx : PT X x (T g b wx BR (evB cf a))) (hy : PW X (.BoolOp .Or (y :: r) pos) (T g b wx BR (evB cf b'))) : PW X (.BoolOp .Or (x :: y :: r) pos) (T g b wx BR (evB cf (.or a b'))) := PW.by fun σ H Q q' => by
  obtain ⟨F, ρ, fr, st, A, p⟩ := q'
  rw [evB_or] at p
  refine ⟨_, pw_or hx hy, F, ρ, fr, st, A, p.seq fun x s1 F1 ρ1 H1 v _ _ _ A1 rv p1 => ?_⟩
  cases rv
  cases x with
  | true => rw [if_pos rfl] at p1 ⊢; exact p1 F1 ρ1 H1 _ (.refl _) (pfx _) A1 rfl
  | false => rw [if_neg Bool.false_ne_true] at p1 ⊢; exact .of A1 p1
/-- a value as a test -/
theorem t_val {a : E} {x : Expr} (hx : PE X x (T g b wx DR (ev cf a))) (he : ∀ whole, isTrue x X.env whole = (do let v ← whole; standAt x.pos; holding [v] (truthy v))) : PT X x (T g b wx BR (evB cf a)) := PT.by fun σ H Q q' => by
  obtain ⟨F, ρ, fr, st, A, p⟩ := q'
  refine ⟨_, pt_val hx he, one p A fun x s1 F1 ρ1 H1 v A1 rv p1 => ?_⟩
  unfold tb at p1
  split at p1
  · rename_i q e
    rw [e] at rv; cases rv
    exact ⟨q, rfl, p1 F1 ρ1 H1 _ (.refl _) (pfx _) A1 rfl⟩
  · exact p1.elim
theorem t_cmp (Y : Cy g wx cf k X c) {o : Cop} {a b' : E} {x y : Expr} {pos : Pos} (hx : PE X x (T g b wx DR (ev cf a))) (hy : PE X y (T g b wx DR (ev cf b'))) (hs : noSet y = true) : PT X (.Compare x [cpOf o] [y] pos) (T g b wx BR (evB cf (.cmp o a b'))) := PT.by fun σ H Q q' => by
  obtain ⟨F, ρ, fr, st, A, p⟩ := q'
  refine ⟨_, pt_cmpR opAny hx hy (noSet_marks hs), ?_⟩
  have e : evB cf (.cmp o a b') fr st = (ev cf a fr st).bind fun x s1 => (ev cf b' fr s1).bind fun y s2 => opt (cmpD o x.d y.d) s2 := by
    simp only [evB, ev]
    cases ev cf a fr st with
    | ok w s =>
      simp only [R.bind]
      cases ev cf b' fr s with
      | ok w2 s2 => simp only [R.bind]; cases cmpD o w.d w2.d <;> rfl
      | exc _ _ _ => rfl
      | bad => rfl
    | exc _ _ _ => rfl
    | bad => rfl
  rw [e] at p
  refine ⟨F, ρ, fr, st, A, p.seq fun x s1 F1 ρ1 H1 v _ _ _ A1 rv p1 => ⟨F1, ρ1, fr, s1, A1, p1.seq fun y s2 F2 ρ2 H2 u _ S2 P2 A2 ru p2 => ?_⟩⟩
  cases e : cmpD o x.d y.d with
  | none => rw [e] at p2; exact p2.elim
  | some q =>
    rw [e] at p2
    exact cmp_ok Y.G o A2 (VR.mono S2 P2 rv) ru e ⟨q, rfl, p2 F2 ρ2 H2 _ (.refl _) (pfx _) A2 rfl⟩
theorem t_chain (Y : Cy g wx cf k X c) {o o' : Cop} {a b' d : E} {x y z : Expr} {pos : Pos} (hx : PE X x (T g b wx DR (ev cf a))) (hy : PE X y (T g b wx DR (ev cf b'))) (hz : PE X z (T g b wx DR (ev cf d))) (hs : noSet y = true) (hs' : noSet z = true) :
    PT X (.Compare x [cpOf o, cpOf o'] [y, z] pos) (T g b wx BR (evB cf (.chain o o' a b' d))) := PT.by fun σ H Q q' => by
  obtain ⟨F, ρ, fr, st, A, p⟩ := q'
  refine ⟨_, pt_chain opAny opAny hx hy hz (noSet_marks hs'), ?_⟩
  have e : evB cf (.chain o o' a b' d) fr st = (ev cf a fr st).bind fun x s1 => (ev cf b' fr s1).bind fun y s2 => match cmpD o x.d y.d with
    | some true => (ev cf d fr s2).bind fun z s3 => opt (cmpD o' y.d z.d) s3
    | some false => .ok false s2
    | none => .bad := by
    simp only [evB, ev]
    cases ev cf a fr st with
    | ok w s =>
      simp only [R.bind]
      cases ev cf b' fr s with
      | ok w2 s2 =>
        simp only [R.bind]
        cases cmpD o w.d w2.d with
        | none => rfl
        | some q =>
          cases q with
          | false => rfl
          | true =>
            simp only
            cases ev cf d fr s2 with
            | ok w3 s3 => simp only [R.bind]; cases cmpD o' w2.d w3.d <;> rfl
            | exc _ _ _ => rfl
            | bad => rfl
      | exc _ _ _ => rfl
      | bad => rfl
    | exc _ _ _ => rfl
    | bad => rfl
  rw [e] at p
  refine ⟨F, ρ, fr, st, A, p.seq fun x s1 F1 ρ1 H1 v _ _ _ A1 rv p1 => ⟨F1, ρ1, fr, s1, A1, p1.seq fun y s2 F2 ρ2 H2 u _ S2 P2 A2 ru p2 => ?_⟩⟩
  have rv2 := VR.mono S2 P2 rv
  cases e : cmpD o x.d y.d with
  | none => rw [e] at p2; exact p2.elim
  | some t =>
    rw [e] at p2
    refine cmp_ok Y.G o A2 rv2 ru e ?_
    refine ⟨t, rfl, ?_⟩
    cases t with
    | true =>
      rw [if_pos rfl]
      refine ⟨F2, ρ2, fr, s2, A2, Po.seq p2 fun z s3 F3 ρ3 H3 w _ S3 P3 A3 rw' p3 => ?_⟩
      cases e' : cmpD o' y.d z.d with
      | none => rw [e'] at p3; exact p3.elim
      | some q =>
        rw [e'] at p3
        exact cmp_ok Y.G o' A3 (VR.mono S3 P3 ru) rw' e' ⟨q, rfl, p3 F3 ρ3 H3 _ (.refl _) (pfx _) A3 rfl⟩
    | false =>
      rw [if_neg Bool.false_ne_true]
      exact ⟨false, rfl, p2 F2 ρ2 H2 _ (.refl _) (pfx _) A2 rfl⟩

/-! ### what is walked -/
theorem walks_list {a : Addr} {ds : List D} {vs : List V} {K : PySem.W.Frag} (h : SqL K F a vs) (r : VRs g F ρ ds vs) : Walks g b σ fr F ρ (Itl K a) ds [] where
  go := fun i P F2 ρ2 σ' H fr' st' hi S P' A _ => by
    have hq : SqL K H a vs := A.sub.seq (S.seq h)
    have hi' : i < vs.length := by rw [← r.length]; exact hi
    exact ⟨vs, vs[i], hq, List.getElem?_eq_getElem hi'⟩
  stop := fun i P F2 ρ2 σ' H fr' st' hi S P' A _ => ⟨vs, A.sub.seq (S.seq h), by rw [← r.length]; exact Nat.le_of_eq hi⟩
  yld := fun i P F2 ρ2 σ' H fr' st' x H' hi S P' A _ y => by
    obtain ⟨rfl, y⟩ := y
    have e := y vs (A.sub.seq (S.seq h))
    obtain ⟨d, e1, e2⟩ := r.get' e
    exact ⟨d, F2, e1, .refl _, A, e2.mono S P'⟩
theorem walks_tup {a : Addr} {ds : List D} {vs : List V} {K : PySem.W.Frag} (h : SqT K F a vs) (r : VRs g F ρ ds vs) : Walks g b σ fr F ρ (Itt K a) ds [] where
  go := fun i P F2 ρ2 σ' H fr' st' hi S P' A _ => by
    have hi' : i < vs.length := by rw [← r.length]; exact hi
    exact ⟨vs, vs[i], A.sqT (same_seqT S h), List.getElem?_eq_getElem hi'⟩
  stop := fun i P F2 ρ2 σ' H fr' st' hi S P' A _ => ⟨vs, A.sqT (same_seqT S h), by rw [← r.length]; exact Nat.le_of_eq hi⟩
  yld := fun i P F2 ρ2 σ' H fr' st' x H' hi S P' A _ y => by
    obtain ⟨rfl, y⟩ := y
    have e := y vs (A.sqT (same_seqT S h))
    obtain ⟨d, e1, e2⟩ := r.get' e
    exact ⟨d, F2, e1, .refl _, A, e2.mono S P'⟩
theorem walks_mut {m : Nat} {a : Addr} {xs : List D} (h1 : fr[m]? = some (.mut xs)) (h2 : σ[m]? = some (some (.ref a))) (K : PySem.W.Frag) : Walks g b σ fr F ρ (Itl K a) xs [m] where
  go := fun i P F2 ρ2 σ' H fr' st' hi S P' A ag => by
    obtain ⟨g1, g2⟩ := ag m (by simp)
    obtain ⟨a', vs, q1, q2, q3, _⟩ := A.mu m xs (g1.trans h1)
    rw [g2, h2] at q1; cases q1
    have hi' : i < vs.length := by rw [← q3.length]; exact hi
    exact ⟨vs, vs[i], .inl (.inl q2), List.getElem?_eq_getElem hi'⟩
  stop := fun i P F2 ρ2 σ' H fr' st' hi S P' A ag => by
    obtain ⟨g1, g2⟩ := ag m (by simp)
    obtain ⟨a', vs, q1, q2, q3, _⟩ := A.mu m xs (g1.trans h1)
    rw [g2, h2] at q1; cases q1
    exact ⟨vs, .inl (.inl q2), by rw [← q3.length]; exact Nat.le_of_eq hi⟩
  yld := fun i P F2 ρ2 σ' H fr' st' x H' hi S P' A ag y => by
    obtain ⟨g1, g2⟩ := ag m (by simp)
    obtain ⟨a', vs, q1, q2, q3, _⟩ := A.mu m xs (g1.trans h1)
    rw [g2, h2] at q1; cases q1
    obtain ⟨rfl, y⟩ := y
    obtain ⟨d, e1, e2⟩ := q3.get' (y vs (.inl (.inl q2)))
    exact ⟨d, F2, e1, .refl _, A, e2⟩
theorem rng_get {a b' : Int} {i : Nat} (h : i < (b' - a).toNat) : (rng a b')[i]? = some (.int (a + (i : Nat))) := by
  unfold rng
  rw [List.getElem?_map, List.getElem?_range h]
  rfl
theorem rng_len (a b' : Int) : (rng a b').length = (b' - a).toNat := by unfold rng; rw [List.length_map, List.length_range]
theorem walks_rng {a b' : Int} : Walks g b σ fr F ρ (Itr a (b' - a).toNat) (rng a b') [] where
  go := fun i P F2 ρ2 σ' H fr' st' hi S P' A _ => by rw [rng_len] at hi; exact hi
  stop := fun i P F2 ρ2 σ' H fr' st' hi S P' A _ => by rw [rng_len] at hi; exact Nat.le_of_eq hi
  yld := fun i P F2 ρ2 σ' H fr' st' x H' hi S P' A _ y => by
    obtain ⟨rfl, rfl⟩ := y
    rw [rng_len] at hi
    exact ⟨_, F2, rng_get hi, .refl _, A, .int _⟩
theorem items_inv {d : D} {xs : List D} {v : V} (h : items d = some xs) (r : VR g F ρ d v) : ∃ a vs, v = .ref a ∧ VRs g F ρ xs vs ∧ (((∀ zs, d ≠ .tup zs) ∧ SqL g.K F a vs) ∨ (d = .tup xs ∧ SqT g.K F a vs)) := by
  cases d <;> simp only [items] at h <;> first | (cases h; done) | skip
  · cases h
    obtain ⟨a', vs, rfl, a1, a2⟩ := r.tupI
    exact ⟨a', vs, rfl, a2, .inr ⟨rfl, a1⟩⟩
  · cases h
    obtain ⟨a', vs, rfl, a1, a2⟩ := r.lstI
    exact ⟨a', vs, rfl, a2, .inl ⟨fun zs => by simp, .inl (.inl a1)⟩⟩
  · cases h
    obtain ⟨a', rfl, a1⟩ := r.scrI
    exact ⟨a', _, rfl, .of_ints _, .inl ⟨fun zs => by simp, a1⟩⟩
theorem Po.wk {ks : List Nat} {ds : List D} {J : L2.It} {Q : L2.It → Hp → Prop} (p : Po g b wx (WkR ks) (.ok ds st) F ρ σ fr Q) (A : Ab g b F ρ σ H fr st) (w : Walks g b σ fr F ρ J ds ks) : Q J H := p F ρ H J (.refl _) (pfx _) A w
theorem i_seq (Y : Cy g wx cf k X c) {a : E} {x tg : Expr} (hx : PE X x (T g b wx DR (ev cf a))) : PI X tg x (TW g b wx (evI cf (.seq a)) []) := PI.by fun σ H Q q' => by
  obtain ⟨F, ρ, fr, st, A, p⟩ := q'
  simp only [evI] at p
  cases e : ev cf a fr st with
  | bad => rw [e] at p; exact p.elim
  | exc c' p' s1 =>
    refine ⟨_, pi_list hx, F, ρ, fr, st, A, ?_⟩
    rw [e] at p ⊢
    exact p
  | ok w s1 =>
    cases e2 : items w.d with
    | none => rw [e] at p; simp only [R.bind, e2] at p; exact p.elim
    | some xs =>
      by_cases hd : ∃ zs, w.d = .tup zs
      · refine ⟨_, pi_tup hx, F, ρ, fr, st, A, p.seq fun w' s1' F1 ρ1 H1 v e' _ _ A1 rv p1 => ?_⟩
        rw [e] at e'; cases e'
        rw [e2] at p1
        obtain ⟨a', vs, rfl, h2, q⟩ := items_inv e2 rv
        rcases q with ⟨n, _⟩ | ⟨_, h1⟩
        · obtain ⟨zs, hd⟩ := hd; exact absurd hd (n zs)
        · exact ⟨a', rfl, ⟨vs, by rw [Y.G.hK]; exact A1.sqT h1⟩, Po.wk p1 A1 (walks_tup (by rw [Y.G.hK]; exact h1) h2)⟩
      · refine ⟨_, pi_list hx, F, ρ, fr, st, A, p.seq fun w' s1' F1 ρ1 H1 v e' _ _ A1 rv p1 => ?_⟩
        rw [e] at e'; cases e'
        rw [e2] at p1
        obtain ⟨a', vs, rfl, h2, q⟩ := items_inv e2 rv
        rcases q with ⟨_, h1⟩ | ⟨h1, _⟩
        · exact ⟨a', rfl, ⟨vs, by rw [Y.G.hK]; exact A1.sub.seq h1⟩, Po.wk p1 A1 (walks_list (by rw [Y.G.hK]; exact h1) h2)⟩
        · exact absurd ⟨_, h1⟩ hd
theorem i_mut (Y : Cy g wx cf k X c) {m : Nat} {x : Str} {px : Pos} {tg : Expr} (h : visB c m x = true) : PI X tg (.Name x px) (TW g b wx (evI cf (.mut m)) [m]) := PI.by fun σ H Q q' => by
  obtain ⟨F, ρ, fr, st, A, p⟩ := q'
  obtain ⟨h1, h2, h3, h4⟩ := Y.vis h
  simp only [evI] at p
  refine ⟨_, pi_list (pe_var h1 h2 h3 h4), ?_⟩
  cases e : getM fr m with
  | none => rw [e] at p; exact p.elim
  | some xs =>
    rw [e] at p
    obtain ⟨a, vs, q1, q2, q3, _⟩ := A.mu m xs (getM_some e)
    exact ⟨.ref a, q1, a, rfl, ⟨vs, .inl (.inl q2)⟩, Po.wk p A (walks_mut (getM_some e) q1 _)⟩
theorem rngOk_of {a b' : Int} (h : rngOk a b' = true) : -(2 ^ 62) ≤ a ∧ a < 2 ^ 62 ∧ -(2 ^ 62) ≤ b' ∧ b' < 2 ^ 62 := by
  simp only [rngOk, Bool.and_eq_true, decide_eq_true_eq] at h
  exact ⟨h.1.1.1.1, h.1.1.1.2, h.1.1.2, h.1.2⟩
theorem i_rng1 (Y : Cy g wx cf k X c) {a : E} {x tg : Expr} {y : Str} {py pos : Pos} (hy : y = "range") (hg : glB c y = true) (hs : noStar x = true) (hx : PE X x (T g b wx DR (ev cf a))) : PI X tg (.Call (.Name y py) [x] [] pos) (TW g b wx (evI cf (.rng1 a)) []) := PI.by fun σ H Q q' => by
  obtain ⟨F, ρ, fr, st, A, p⟩ := q'
  obtain ⟨k1, k2, k3⟩ := Y.gl hg
  subst hy
  simp only [evI] at p
  refine ⟨_, pi_range1 k1 (mem_blt (by simp [bltNames]) Y) (pa_cons hx pa_nil (noStar_cons hs _)) (noStar_cons hs _), F, ρ, fr, st, A, p.seq fun w s1 F1 ρ1 H1 v _ _ _ A1 rv p1 => ?_⟩
  have rv' : VR g F1 ρ1 w.d v := rv
  split at p1
  · rename_i n e
    rw [e] at rv'
    have e1 := rv'.intI
    subst e1
    split at p1
    · rename_i h
      have h' := rngOk_of h
      have q := Po.wk (J := Itr 0 (n - 0).toNat) p1 A1 walks_rng
      exact ⟨n, rfl, h'.2.2.1, h'.2.2.2, by rw [Int.sub_zero] at q; exact q⟩
    · exact p1.elim
  · exact p1.elim
theorem i_rng2 (Y : Cy g wx cf k X c) {a b' : E} {x z tg : Expr} {y : Str} {py pos : Pos} (hy : y = "range") (hg : glB c y = true) (hs : noStar x = true) (hs' : noStar z = true) (hx : PE X x (T g b wx DR (ev cf a))) (hz : PE X z (T g b wx DR (ev cf b'))) :
    PI X tg (.Call (.Name y py) [x, z] [] pos) (TW g b wx (evI cf (.rng2 a b')) []) := PI.by fun σ H Q q' => by
  obtain ⟨F, ρ, fr, st, A, p⟩ := q'
  obtain ⟨k1, k2, k3⟩ := Y.gl hg
  subst hy
  simp only [evI] at p
  refine ⟨_, pi_range2 k1 (mem_blt (by simp [bltNames]) Y) (pa_cons hx (pa_cons hz pa_nil (noStar_cons hs' _)) (noStar_cons hs _)) (by rw [noStar_cons hs, noStar_cons hs']; rfl) (noStar_cons hs' _), F, ρ, fr, st, A, p.seq fun w s1 F1 ρ1 H1 v _ _ _ A1 rv p1 => ⟨F1, ρ1, fr, s1, A1, p1.seq fun w2 s2 F2 ρ2 H2 u _ S2 P2 A2 ru p2 => ?_⟩⟩
  have rv' : VR g F2 ρ2 w.d v := VR.mono S2 P2 rv
  have ru' : VR g F2 ρ2 w2.d u := ru
  split at p2
  · rename_i m n e1 e2
    rw [e1] at rv'; rw [e2] at ru'
    have z1 := rv'.intI
    have z2 := ru'.intI
    subst z1; subst z2
    split at p2
    · rename_i h
      exact ⟨m, n, rfl, rngOk_of h, Po.wk p2 A2 walks_rng⟩
    · exact p2.elim
  · exact p2.elim
end
end MP

set_option Elab.async false
set_option linter.all false
set_option maxRecDepth 100000
namespace MP
open PySem PySem.Spec L2
section
variable {g : Gb} {b : Bs} {wx : WX} {cf : Nat → List D → Sto → R W} {k : Nat} {X : Cx} {c : Cc} {F F' : Hp} {ρ ρ' : Rho} {σ : L2.St} {H H' : Hp} {fr : Fr} {st st' : Sto} {Q : VK}

/-! ### stores -/
theorem Ab.set (A : Ab g b F ρ σ H fr st) {i : Nat} {d : D} {v : V} (hi : i < fr.length) (r : VR g F ρ d v) : Ab g b F ρ (σ.set i (some v)) H (fr.set i (.dat d)) st := by
  have hs : i < σ.length := by rw [← A.len]; exact hi
  have ne : ∀ {j : Nat} {xs}, (fr.set i (.dat d))[j]? = some (.mut xs) → i ≠ j ∧ fr[j]? = some (.mut xs) := fun {j xs} e => by
    by_cases z : i = j
    · subst z; rw [List.getElem?_set_self hi] at e; cases e
    · rw [List.getElem?_set_ne z] at e; exact ⟨z, e⟩
  exact {
    sub := A.sub, ext := A.ext, new := A.new, rho := A.rho, keep := A.keep, fsh := A.fsh, sto := A.sto
    len := by rw [List.length_set, List.length_set]; exact A.len
    dat := fun j d' e => by
      by_cases z : i = j
      · subst z
        rw [List.getElem?_set_self hi] at e
        cases e
        exact ⟨v, List.getElem?_set_self hs, r⟩
      · rw [List.getElem?_set_ne z] at e ⊢
        exact A.dat j d' e
    mu := fun j xs e => by
      obtain ⟨z, e⟩ := ne e
      rw [List.getElem?_set_ne z]
      exact A.mu j xs e
    apart := fun j l a xs ys e1 e2 q1 q2 => by
      obtain ⟨z1, e1⟩ := ne e1
      obtain ⟨z2, e2⟩ := ne e2
      rw [List.getElem?_set_ne z1] at q1
      rw [List.getElem?_set_ne z2] at q2
      exact A.apart j l a xs ys e1 e2 q1 q2
    pin := fun q hq => by
      obtain ⟨h1, h2, h3, h4, h5⟩ := A.pin q hq
      refine ⟨h1, h2, h3, h4, fun j ys e => ?_⟩
      obtain ⟨z, e⟩ := ne e
      rw [List.getElem?_set_ne z]
      exact h5 j ys e }
mutual
theorem putG_out : ∀ (G : G) (d : D) (fr fr' : Fr) (j : Nat), putG G d fr = some fr' → j ∉ slG G → fr'[j]? = fr[j]?
  | .nm i, d, fr, fr', j, h, n => by
    simp only [putG] at h
    split at h
    · cases h
      exact List.getElem?_set_ne fun z => n (by simp [slG, z])
    · cases h
  | .tp gs, .tup xs, fr, fr', j, h, n => putGs_out gs xs fr fr' j h n
  | .tp gs, .non, fr, fr', j, h, n => by cases h
  | .tp gs, .bl _, fr, fr', j, h, n => by cases h
  | .tp gs, .int _, fr, fr', j, h, n => by cases h
  | .tp gs, .str _, fr, fr', j, h, n => by cases h
  | .tp gs, .lst _, fr, fr', j, h, n => by cases h
  | .tp gs, .emp, fr, fr', j, h, n => by cases h
  | .tp gs, .ref _, fr, fr', j, h, n => by cases h
  | .tp gs, .fn _, fr, fr', j, h, n => by cases h
  | .tp gs, .scr _, fr, fr', j, h, n => by cases h
theorem putGs_out : ∀ (G : Gs) (d : List D) (fr fr' : Fr) (j : Nat), putGs G d fr = some fr' → j ∉ slGs G → fr'[j]? = fr[j]?
  | .nil, [], fr, fr', j, h, n => by cases h; rfl
  | .nil, _ :: _, fr, fr', j, h, n => by cases h
  | .cons G r, [], fr, fr', j, h, n => by cases h
  | .cons G r, x :: xs, fr, fr', j, h, n => by
    simp only [putGs] at h
    simp only [slGs, List.mem_append, not_or] at n
    cases e : putG G x fr with
    | none => rw [e] at h; cases h
    | some f2 =>
      rw [e] at h
      rw [putGs_out r xs f2 fr' j h n.2, putG_out G x fr f2 j e n.1]
end
mutual
theorem putG_len : ∀ (G : G) (d : D) (fr fr' : Fr), putG G d fr = some fr' → fr'.length = fr.length
  | .nm i, d, fr, fr', h => by
    simp only [putG] at h
    split at h
    · cases h; exact List.length_set ..
    · cases h
  | .tp gs, .tup xs, fr, fr', h => putGs_len' gs xs fr fr' h
  | .tp gs, .non, fr, fr', h => by cases h
  | .tp gs, .bl _, fr, fr', h => by cases h
  | .tp gs, .int _, fr, fr', h => by cases h
  | .tp gs, .str _, fr, fr', h => by cases h
  | .tp gs, .lst _, fr, fr', h => by cases h
  | .tp gs, .emp, fr, fr', h => by cases h
  | .tp gs, .ref _, fr, fr', h => by cases h
  | .tp gs, .fn _, fr, fr', h => by cases h
  | .tp gs, .scr _, fr, fr', h => by cases h
theorem putGs_len' : ∀ (G : Gs) (d : List D) (fr fr' : Fr), putGs G d fr = some fr' → fr'.length = fr.length
  | .nil, [], fr, fr', h => by cases h; rfl
  | .nil, _ :: _, fr, fr', h => by cases h
  | .cons G r, [], fr, fr', h => by cases h
  | .cons G r, x :: xs, fr, fr', h => by
    simp only [putGs] at h
    cases e : putG G x fr with
    | none => rw [e] at h; cases h
    | some f2 =>
      rw [e] at h
      rw [putGs_len' r xs f2 fr' h, putG_len G x fr f2 e]
end
def TGt (g : Gb) (b : Bs) (G : G) : TG := fun v σ H Q => ∃ F ρ fr st d fr', Ab g b F ρ σ H fr st ∧ VR g F ρ d v ∧ putG G d fr = some fr' ∧ ∀ σ', Ab g b F ρ σ' H fr' st → (∀ j, j ∉ slG G → σ'[j]? = σ[j]?) → Q σ' H
def TGs' (g : Gb) (b : Bs) (G : Gs) : TGs := fun vs σ H Q => ∃ F ρ fr st ds fr', Ab g b F ρ σ H fr st ∧ VRs g F ρ ds vs ∧ putGs G ds fr = some fr' ∧ ∀ σ', Ab g b F ρ σ' H fr' st → (∀ j, j ∉ slGs G → σ'[j]? = σ[j]?) → Q σ' H
theorem PGs.by {tg : List Expr} {t' : TGs} (h : ∀ v σ H Q, t' v σ H Q → ∃ t, PGs X tg t ∧ t v σ H Q) : PGs X tg t' := ⟨fun pins s σ H v u Q I r q => by
  obtain ⟨t, p, q'⟩ := h v σ H Q q
  exact p.run pins s σ H v u Q I r q'⟩
theorem each_cons {e : Expr} {es : List Expr} (h : noStar e = true) (env : PySem.Env) : assignEach (e :: es) env = (false, assign e env) :: assignEach es env := by
  cases e <;> first | rfl | cases h
theorem mGs_each : ∀ (G : Gs) (es : List Expr) (env : PySem.Env), mGs c G es = true → (assignEach es env).length = es.length ∧ (assignEach es env).findIdx? (·.1) = none
  | .nil, [], env, _ => ⟨rfl, rfl⟩
  | .nil, _ :: _, _, h => by cases h
  | .cons _ _, [], _, h => by cases h
  | .cons G r, e :: es, env, h => by
    simp only [mGs, Bool.and_eq_true] at h
    obtain ⟨h1, h2⟩ := mGs_each r es env h.2
    rw [each_cons h.1.1]
    refine ⟨by simp [h1], ?_⟩
    rw [List.findIdx?_cons, h2]
    rfl
theorem putGs_len : ∀ (G : Gs) (es : List Expr) (ds : List D) (fr fr' : Fr), mGs c G es = true → putGs G ds fr = some fr' → ds.length = es.length
  | .nil, [], [], _, _, _, _ => rfl
  | .nil, _ :: _, _, _, _, h, _ => by cases h
  | .nil, [], _ :: _, _, _, _, h => by cases h
  | .cons _ _, [], _, _, _, h, _ => by cases h
  | .cons _ _, _ :: _, [], _, _, _, h => by cases h
  | .cons G r, e :: es, x :: xs, fr, fr', h, h2 => by
    simp only [mGs, Bool.and_eq_true] at h
    simp only [putGs] at h2
    cases q : putG G x fr with
    | none => rw [q] at h2; cases h2
    | some f2 =>
      rw [q] at h2
      simp [putGs_len r es xs f2 fr' h.2 h2]
mutual
theorem g_ok (Y : Cy g wx cf k X c) : ∀ (G : G) (tg : Expr), mG c G tg = true → PG X tg (TGt g b G)
  | .nm i, tg, h => by
    cases tg <;> simp only [mG] at h <;> first | (cases h; done) | skip
    rename_i x px
    obtain ⟨h1, h2, h3⟩ := Y.loc h
    refine PG.by fun v σ H Q q => ⟨_, pg_name Y.G.nd h1 h2 h3, ?_⟩
    obtain ⟨F, ρ, fr, st, d, fr', A, rv, e, hq⟩ := q
    simp only [putG] at e
    split at e
    · rename_i hi
      cases e
      exact hq _ (A.set hi rv) fun j n => List.getElem?_set_ne fun z => n (by simp [slG, z])
    · cases e
  | .tp gs, tg, h => by
    cases tg <;> simp only [mG] at h <;> first | (cases h; done) | skip
    rename_i es k0 pos
    obtain ⟨h1, h2⟩ := mGs_each gs es X.env h
    refine PG.by fun v σ H Q q => ⟨_, pg_tup Y.G.calm (gs_ok Y gs es h) h1 h2, ?_⟩
    obtain ⟨F, ρ, fr, st, d, fr', A, rv, e, hq⟩ := q
    cases d <;> first | (cases e; done) | skip
    rename_i ds
    obtain ⟨a, vs, rfl, a1, a2⟩ := rv.tupI
    refine ⟨a, vs, rfl, by rw [Y.G.hK]; exact A.sqT a1, ?_, F, ρ, fr, st, ds, fr', A, a2, e, hq⟩
    rw [← a2.length]
    exact putGs_len gs es ds fr fr' h e
theorem gs_ok (Y : Cy g wx cf k X c) : ∀ (G : Gs) (tg : List Expr), mGs c G tg = true → PGs X tg (TGs' g b G)
  | .nil, [], _ => PGs.by fun v σ H Q q => ⟨_, pgs_nil, by
    obtain ⟨F, ρ, fr, st, d, fr', A, rv, e, hq⟩ := q
    cases d with
    | nil =>
      cases rv
      cases e
      exact ⟨rfl, hq σ A fun _ _ => rfl⟩
    | cons => cases e⟩
  | .nil, _ :: _, h => by cases h
  | .cons _ _, [], h => by cases h
  | .cons G r, e :: es, h => by
    simp only [mGs, Bool.and_eq_true] at h
    refine PGs.by fun v σ H Q q => ⟨_, pgs_cons (g_ok Y G e h.1.2) (gs_ok Y r es h.2) (by rw [each_cons h.1.1]; rfl), ?_⟩
    obtain ⟨F, ρ, fr, st, d, fr', A, rv, q, hq⟩ := q
    cases d with
    | nil => cases q
    | cons x xs =>
      cases rv with
      | cons r1 r2 =>
        simp only [putGs] at q
        cases q1 : putG G x fr with
        | none => rw [q1] at q; cases q
        | some f2 =>
          rw [q1] at q
          refine ⟨_, _, rfl, F, ρ, fr, st, x, f2, A, r1, q1, fun σ' A' ag => ⟨F, ρ, f2, st, xs, fr', A', r2, q, fun σ2 A2 ag2 => hq σ2 A2 fun j n => ?_⟩⟩
          simp only [slGs, List.mem_append, not_or] at n
          rw [ag2 j n.2, ag j n.1]
end

/-! ### a block of one's own -/
theorem wipe_at (σ : L2.St) : ∀ (vs : List Nat) (j : Nat), j ∈ vs → (wipe σ vs)[j]? = if j < σ.length then some none else none
  | [], j, h => by simp at h
  | v :: vs, j, h => by
    unfold wipe
    by_cases z : v = j
    · subst z
      by_cases hl : v < σ.length
      · rw [List.getElem?_set_self (by rw [wipe_length]; exact hl), if_pos hl]
      · rw [if_neg hl, List.getElem?_eq_none (by rw [List.length_set, wipe_length]; omega)]
    · rw [List.getElem?_set_ne z]
      exact wipe_at σ vs j (by simpa [Ne.symm z] using h)
theorem wipeE_len (fr : Fr) : ∀ vs : List Nat, (wipeE fr vs).length = fr.length
  | [] => rfl
  | v :: vs => by unfold wipeE; rw [List.length_set, wipeE_len fr vs]
theorem wipeE_out (fr : Fr) : ∀ (vs : List Nat) (j : Nat), j ∉ vs → (wipeE fr vs)[j]? = fr[j]?
  | [], j, _ => rfl
  | v :: vs, j, h => by
    simp only [List.mem_cons, not_or] at h
    unfold wipeE
    rw [List.getElem?_set_ne (Ne.symm h.1), wipeE_out fr vs j h.2]
theorem wipeE_at (fr : Fr) : ∀ (vs : List Nat) (j : Nat), j ∈ vs → (wipeE fr vs)[j]? = some .un ∨ (wipeE fr vs)[j]? = none
  | [], j, h => by simp at h
  | v :: vs, j, h => by
    unfold wipeE
    by_cases z : v = j
    · subst z
      by_cases hl : v < (wipeE fr vs).length
      · exact .inl (List.getElem?_set_self hl)
      · exact .inr (List.getElem?_eq_none (by rw [List.length_set]; omega))
    · rw [List.getElem?_set_ne z]
      exact wipeE_at fr vs j (by simpa [Ne.symm z] using h)
theorem Ab.wiped (A : Ab g b F ρ σ H fr st) (vs : List Nat) : Ab g b F ρ (wipe σ vs) H (wipeE fr vs) st := by
  have d1 : ∀ {j : Nat} {q}, (wipeE fr vs)[j]? = some q → q ≠ .un → j ∉ vs ∧ fr[j]? = some q := fun {j q} e n => by
    by_cases z : j ∈ vs
    · rcases wipeE_at fr vs j z with y | y
      · rw [y] at e; cases e; exact absurd rfl n
      · rw [y] at e; cases e
    · rw [wipeE_out fr vs j z] at e
      exact ⟨z, e⟩
  exact {
    sub := A.sub, ext := A.ext, new := A.new, rho := A.rho, keep := A.keep, fsh := A.fsh, sto := A.sto
    len := by rw [wipeE_len, wipe_length]; exact A.len
    dat := fun j d e => by
      obtain ⟨z, e⟩ := d1 e (by intro q; cases q)
      rw [wipe_out z]
      exact A.dat j d e
    mu := fun j xs e => by
      obtain ⟨z, e⟩ := d1 e (by intro q; cases q)
      rw [wipe_out z]
      exact A.mu j xs e
    apart := fun j l a xs ys e1 e2 q1 q2 => by
      obtain ⟨z1, e1⟩ := d1 e1 (by intro q; cases q)
      obtain ⟨z2, e2⟩ := d1 e2 (by intro q; cases q)
      rw [wipe_out z1] at q1
      rw [wipe_out z2] at q2
      exact A.apart j l a xs ys e1 e2 q1 q2
    pin := fun q hq => by
      obtain ⟨h1, h2, h3, h4, h5⟩ := A.pin q hq
      refine ⟨h1, h2, h3, h4, fun j ys e => ?_⟩
      obtain ⟨z, e⟩ := d1 e (by intro q; cases q)
      rw [wipe_out z]
      exact h5 j ys e }
/-- back to the frame around -/
theorem Ab.back {F1 : Hp} {ρ1 : Rho} {σ1 : L2.St} {H1 : Hp} {fr1 : Fr} {st1 : Sto} (A : Ab g b F ρ σ H fr st) (B : Ab g b F1 ρ1 σ1 H1 fr1 st1) (S : Same F F1) (P : ρ <+: ρ1) (ag : ∀ (i : Nat) xs, fr[i]? = some (.mut xs) → fr1[i]? = some (.mut xs) ∧ σ1[i]? = σ[i]?) :
    Ab g b F1 ρ1 σ H1 fr st1 where
  sub := B.sub
  ext := B.ext
  new := B.new
  rho := B.rho
  keep := B.keep
  fsh := B.fsh
  sto := B.sto
  len := A.len
  dat := fun i d e => by
    obtain ⟨v, h1, h2⟩ := A.dat i d e
    exact ⟨v, h1, h2.mono S P⟩
  mu := fun i xs e => by
    obtain ⟨h1, h2⟩ := ag i xs e
    rw [← h2]
    exact B.mu i xs h1
  apart := A.apart
  pin := fun q hq => by
    obtain ⟨h1, h2, h3, h4, h5⟩ := B.pin q hq
    refine ⟨h1, h2, h3, h4, fun i ys e => ?_⟩
    obtain ⟨z1, z2⟩ := ag i ys e
    rw [← z2]
    exact h5 i ys z1
theorem Ab.pinNew (A : Ab g b F ρ σ H fr st) {p : Addr} (o : HO) (hp : H p = none) : Ab g { b with P := (p, o) :: b.P } F ρ σ (upd H p o) fr st := by
  have B := A.alloc o hp
  exact { B with
    pin := fun q hq => by
      rcases List.mem_cons.mp hq with z | z
      · subst z
        refine ⟨upd_same, A.nF hp, A.nsh hp, A.fresh0 hp, fun i ys e z => ?_⟩
        obtain ⟨a, vs, q1, q2, _⟩ := A.mu i ys e
        rw [z] at q1; cases q1
        simp only at q2
        rw [hp] at q2; cases q2
      · exact B.pin q z }
theorem Ab.unpin {p : Addr} {o : HO} (A : Ab g { b with P := (p, o) :: b.P } F ρ σ H fr st) : Ab g b F ρ σ H fr st :=
  ⟨A.sub, A.ext, A.new, A.rho, A.keep, A.fsh, A.sto, A.len, A.dat, A.mu, A.apart, fun q hq => A.pin q (List.mem_cons_of_mem _ hq)⟩
theorem Ab.repin {p : Addr} {o : HO} (o' : HO) (A : Ab g { b with P := (p, o) :: b.P } F ρ σ H fr st) (np : ∀ q ∈ b.P, q.1 ≠ p) : Ab g { b with P := (p, o') :: b.P } F ρ σ (upd H p o') fr st := by
  obtain ⟨h1, h2, h3, h4, h5⟩ := A.pin (p, o) List.mem_cons_self
  simp only at h1 h2 h3 h4 h5
  exact {
    sub := fun a x e => by
      rw [upd_ne (show a ≠ p from fun z => by subst z; rw [h2] at e; cases e)]
      exact A.sub _ _ e
    ext := A.ext, new := A.new, rho := A.rho
    keep := fun a x e m => by
      rw [upd_ne (show a ≠ p from fun z => by subst z; simp only at e; rw [h4] at e; cases e)]
      exact A.keep a x e m
    fsh := A.fsh
    sto := A.sto.of fun a ha => upd_ne fun z => h3 (z ▸ ha)
    len := A.len
    dat := A.dat
    mu := fun i xs e => by
      obtain ⟨a, vs, q1, q2, q3⟩ := A.mu i xs e
      refine ⟨a, vs, q1, ?_, q3⟩
      rw [upd_ne (show a ≠ p from fun z => by subst z; exact h5 i xs e q1)]
      exact q2
    apart := A.apart
    pin := fun q hq => by
      rcases List.mem_cons.mp hq with z | z
      · subst z
        exact ⟨upd_same, h2, h3, h4, h5⟩
      · obtain ⟨q1, q2⟩ := A.pin q (List.mem_cons_of_mem _ z)
        refine ⟨?_, q2⟩
        rw [upd_ne (np q z)]
        exact q1 }
end
end MP

set_option Elab.async false
set_option linter.all false
set_option maxRecDepth 100000
namespace MP
open PySem PySem.Spec L2
abbrev wx0 : WX := fun _ _ _ _ => False
section
variable {g : Gb} {b : Bs} {wx : WX} {cf : Nat → List D → Sto → R W} {k : Nat} {X : Cx} {c : Cc} {F F' : Hp} {ρ ρ' : Rho} {σ : L2.St} {H H' : Hp} {fr : Fr} {st st' : Sto} {Q : VK}
theorem Cy.block (Y : Cy g wx cf k X c) {scope : Scope} (hk : scope.kind = .function) (s : Shared) (H : Hp) (C : Addr) (cl : List (Str × Addr)) (fp : List Addr) : Cy g wx0 cf k (X.blk s H scope (compEnvC scope cl C X.env) fp) (inner c scope) where
  G := ⟨Y.G.hP, Y.G.hw, Y.G.hK, Y.G.hmg, Y.G.hbase, Y.G.calm, Y.G.nd, Y.G.room, Y.G.guards, takes0, PassesOwn.never⟩
  M := Y.M
  hN := Y.hN
  hsc := by
    show relS scope X.env.scope = relS scope c.sc
    rw [Y.hsc]
  kind := hk
  hst := fun x h => by
    unfold inner at h
    simp only at h
    show (scope.names.lookup x == some .cell) = true ∨ (relS scope c.sc).names.lookup x = some .local
    split at h
    · rename_i e; rw [e]; exact .inl rfl
    · rename_i e
      exact .inr (lookup_relS_keep (by intro z; cases z) e)
    · cases h
theorem compL_exc {f : D → Sto → R (Option D)} : ∀ {ds : List D} {s s' : Sto} {c' : Nat} {p : D}, compL f ds s ≠ .exc c' p s'
  | [], _, _, _, _ => by intro h; cases h
  | x :: xs, s, s', c', p => by
    intro h
    simp only [compL] at h
    cases e : f x s with
    | ok o s1 =>
      rw [e] at h
      simp only at h
      cases e2 : compL f xs s1 with
      | ok r s2 => rw [e2] at h; cases h
      | exc _ _ _ => exact compL_exc e2
      | bad => rw [e2] at h; cases h
    | exc _ _ _ => rw [e] at h; cases h
    | bad => rw [e] at h; cases h
theorem compL_cons {f : D → Sto → R (Option D)} {x : D} {xs : List D} {s s' : Sto} {r : List D} (h : compL f (x :: xs) s = .ok r s') : ∃ o s1 r1, f x s = .ok o s1 ∧ compL f xs s1 = .ok r1 s' ∧ r = (match o with | some d => d :: r1 | none => r1) := by
  simp only [compL] at h
  cases e : f x s with
  | ok o s1 =>
    rw [e] at h
    simp only at h
    cases e2 : compL f xs s1 with
    | ok r1 s2 =>
      rw [e2] at h
      simp only at h
      cases h
      exact ⟨o, s1, r1, rfl, e2, rfl⟩
    | exc _ _ _ => rw [e2] at h; cases h
    | bad => rw [e2] at h; cases h
  | exc _ _ _ => rw [e] at h; cases h
  | bad => rw [e] at h; cases h
/-- a turn's part -/
def turnF (cf : Nat → List D → Sto → R W) (e : E) (G : G) (own : List Nat) (cd : C) (fr : Fr) : D → Sto → R (Option D) := fun x s2 => (opt (putG G x (wipeE fr own)) s2).bind fun env' s2 => (evC cf cd env' s2).bind fun k s3 =>
  if k then (ev cf e env' s3).bind fun y s4 => .ok (some y.d) s4 else .ok none s3
theorem own_map (c : Cc) (own : List Nat) : (ownN c own).map (·.2) = own := by
  unfold ownN
  rw [List.map_map]
  show List.map (fun i => i) own = own
  exact List.map_id' own
theorem wipe_same {σ σ' : L2.St} {own sl : List Nat} (hl : σ'.length = σ.length) (hsub : ∀ j ∈ sl, j ∈ own) (ag : ∀ j, j ∉ sl → σ'[j]? = (wipe σ own)[j]?) : wipe σ' own = wipe σ own := by
  refine List.ext_getElem? fun j => ?_
  by_cases hj : j ∈ own
  · rw [wipe_at _ _ _ hj, wipe_at _ _ _ hj, hl]
  · rw [wipe_out hj, ag j fun z => hj (hsub j z)]
def gAny' (g : Gb) (G : G) : TG := fun v σ H Q => ∃ b', TGt g b' G v σ H Q
def tAny' (g : Gb) (f : Fr → Sto → R Bool) : TT := fun σ H Q => ∃ b', T g b' wx0 BR f σ H Q
def eAny' (g : Gb) (f : Fr → Sto → R W) : TE := fun σ H Q => ∃ b', T g b' wx0 DR f σ H Q
theorem comp_T {elt : E} {G : G} {own : List Nat} {it : It} {cd : C} (hsub : ∀ j ∈ slG G, j ∈ own) {Q : VK} (q' : T g b wx WR (ev cf (.comp elt G own it cd)) σ H Q) :
    tLc (TW g b wx (evI cf it) (keepOf it)) (gAny' g G) (tAny' g (evC cf cd)) (eAny' g (ev cf elt)) own σ H Q := by
  obtain ⟨F, ρ, fr, st, A, p⟩ := q'
  simp only [ev] at p
  refine ⟨F, ρ, fr, st, A, p.seq fun ds s1 F1 ρ1 H1 J _ S P A1 wk p1 => fun D hD => ?_⟩
  split at p1
  · exact p1.elim
  · rename_i hown
    have hown : ∀ (i : Nat) xs, fr[i]? = some (.mut xs) → i ∉ own := fun i xs e hi => hown (List.any_eq_true.mpr ⟨i, hi, by unfold getM; rw [e]; rfl⟩)
    change Po g b wx WR ((compL (turnF cf elt G own cd fr) ds s1).bind _) F1 ρ1 σ fr Q at p1
    cases e0 : compL (turnF cf elt G own cd fr) ds s1 with
    | bad => rw [e0] at p1; exact p1.elim
    | exc _ _ _ => exact absurd e0 compL_exc
    | ok ys s5 =>
      rw [e0] at p1
      simp only [R.bind] at p1
      split at p1
      · rename_i hz
        have np : ∀ q ∈ b.P, q.1 ≠ D := fun q hq => A1.npin hD hq
        refine ⟨fun i m H2 => m = ds.length - i ∧ i ≤ ds.length ∧ ∃ F2 ρ2 st2 accD acc r, Same F1 F2 ∧ ρ1 <+: ρ2 ∧ Ab g { b with P := (D, .lst acc) :: b.P } F2 ρ2 σ H2 fr st2 ∧ VRs g F2 ρ2 accD acc ∧ compL (turnF cf elt G own cd fr) (ds.drop i) st2 = .ok r s5 ∧ accD ++ r = ys, ⟨_, rfl, Nat.zero_le _, F1, ρ1, s1, [], [], ys, .refl _, pfx _, A1.pinNew _ hD, .nil, e0, rfl⟩, ?_⟩
        rintro i m H2 ⟨rfl, hi, F2, ρ2, st2, accD, acc, r, S2, P2, A2, ra, ec, ey⟩
        have pn := A2.pin (D, .lst acc) List.mem_cons_self
        by_cases hlt : i < ds.length
        · refine .inr ⟨wk.go i _ F2 ρ2 σ H2 fr st2 hlt S2 P2 A2 fun _ _ => ⟨rfl, rfl⟩, fun H3 => ∃ F3 ρ3 st3 accD acc r, Same F1 F3 ∧ ρ1 <+: ρ3 ∧ Ab g { b with P := (D, .lst acc) :: b.P } F3 ρ3 σ H3 fr st3 ∧ VRs g F3 ρ3 accD acc ∧ compL (turnF cf elt G own cd fr) (ds.drop (i + 1)) st3 = .ok r s5 ∧ accD ++ r = ys, fun H3 h3 => ⟨_, by omega, rfl, hlt, h3⟩, fun x H3 y => ?_⟩
          obtain ⟨d, F3, ed, S3, A3, rd⟩ := wk.yld i _ F2 ρ2 σ H2 fr st2 x H3 hlt S2 P2 A2 (fun _ _ => ⟨rfl, rfl⟩) y
          have edrop : ds.drop i = d :: ds.drop (i + 1) := by
            have h1 := List.getElem?_eq_some_iff.mp ed
            obtain ⟨h1, h2⟩ := h1
            rw [← h2]
            exact List.drop_eq_getElem_cons hlt
          rw [edrop] at ec
          obtain ⟨o, s3, r1, ef, ec', er⟩ := compL_cons ec
          unfold turnF at ef
          cases eg : putG G d (wipeE fr own) with
          | none => rw [eg] at ef; cases ef
          | some fr' =>
            rw [eg] at ef
            simp only [opt, R.bind] at ef
            refine ⟨_, F3, ρ2, wipeE fr own, st2, d, fr', A3.wiped own, rd, eg, fun σ' A4 ag => ⟨?_, ?_⟩⟩
            · exact wipe_same (by rw [← A4.len, putG_len _ _ _ _ eg, wipeE_len, A3.len]) hsub ag
            · have agm : ∀ (j : Nat) xs, fr[j]? = some (.mut xs) → fr'[j]? = some (.mut xs) ∧ σ'[j]? = σ[j]? := fun j xs e => by
                have n1 := hown j xs e
                have n2 : j ∉ slG G := fun z => n1 (hsub j z)
                exact ⟨by rw [putG_out G d _ fr' j eg n2, wipeE_out fr own j n1]; exact e, by rw [ag j n2, wipe_out n1]⟩
              refine ⟨_, F3, ρ2, fr', st2, A4, ?_⟩
              cases eC : evC cf cd fr' st2 with
              | bad => rw [eC] at ef; cases ef
              | exc _ _ _ => rw [eC] at ef; cases ef
              | ok q s4 =>
                rw [eC] at ef
                simp only [R.bind] at ef
                intro F5 ρ5 H5 q' S5 P5 A5 rq
                cases rq
                cases q with
                | false =>
                  rw [if_neg Bool.false_ne_true] at ef ⊢
                  cases ef
                  simp only at er
                  subst er
                  exact ⟨F5, ρ5, _, accD, acc, _, (S2.trans S3).trans S5, P2.trans P5, A3.back A5 S5 P5 agm, ra.mono (S3.trans S5) P5, ec', ey⟩
                | true =>
                  rw [if_pos rfl] at ef ⊢
                  refine ⟨_, F5, ρ5, fr', s4, A5, ?_⟩
                  cases eE : ev cf elt fr' s4 with
                  | bad => rw [eE] at ef; cases ef
                  | exc _ _ _ => rw [eE] at ef; cases ef
                  | ok w s6 =>
                    rw [eE] at ef
                    simp only [R.bind] at ef
                    cases ef
                    simp only at er
                    subst er
                    intro F7 ρ7 H7 v S7 P7 A7 rv
                    have rv' : VR g F7 ρ7 w.d v := rv
                    have pn7 := A7.pin (D, .lst acc) List.mem_cons_self
                    refine ⟨acc, pn7.1, ?_, F7, ρ7, s3, accD ++ [w.d], acc ++ [v], r1, ((S2.trans S3).trans S5).trans S7, (P2.trans P5).trans P7, ?_, ?_, ec', by rw [List.append_assoc]; exact ey⟩
                    · rw [← ra.length]
                      have : (accD ++ w.d :: r1).length ≤ sizeLine := by rw [ey]; exact hz
                      rw [List.length_append, List.length_cons] at this
                      omega
                    · have B : Ab g { b with P := (D, .lst acc) :: b.P } F7 ρ7 σ H7 fr s3 := A3.back A7 (S5.trans S7) (P5.trans P7) agm
                      exact B.repin (.lst (acc ++ [v])) np
                    · exact (ra.mono ((S3.trans S5).trans S7) (P5.trans P7)).append (.one rv')
        · have ei : i = ds.length := by omega
          subst ei
          rw [List.drop_length] at ec
          cases ec
          rw [List.append_nil] at ey
          subst ey
          exact .inl ⟨wk.stop _ _ F2 ρ2 σ H2 fr _ rfl S2 P2 A2 fun _ _ => ⟨rfl, rfl⟩, p1 F2 ρ2 H2 (.ref D) S2 P2 A2.unpin ⟨D, acc, rfl, pn.1, ra, pn.2.1, pn.2.2.1, pn.2.2.2.1, pn.2.2.2.2, np⟩⟩
      · exact p1.elim
theorem set_fold {iter : Expr} (hs : noSet iter = true) (env : PySem.Env) : ∀ x, foldedSetIterable iter env x = pure x := by
  intro x
  cases iter <;> first | rfl | cases hs
theorem e_comp (Y : Cy g wx cf k X c) {elt : E} {G : G} {own : List Nat} {it : It} {cd : C} {elt' tg iter : Expr} {ifs : List Expr} {scope : Scope} {pos : Pos} (hb : blkC c.N c.sc scope (ownN c own) = true) (hs : noSet iter = true)
    (hsub : ∀ j ∈ slG G, j ∈ own)
    (hI : PI X tg iter (TW g b wx (evI cf it) (keepOf it)))
    (hG : ∀ s H C cl fp b', PG (X.blk s H scope (compEnvC scope cl C X.env) fp) tg (TGt g b' G))
    (hC : ∀ s H C cl fp b', PTs (X.blk s H scope (compEnvC scope cl C X.env) fp) ifs (T g b' wx0 BR (evC cf cd)))
    (hE : ∀ s H C cl fp b', PE (X.blk s H scope (compEnvC scope cl C X.env) fp) elt' (T g b' wx0 DR (ev cf elt))) :
    PE X (.ListComp elt' [⟨tg, iter, ifs, 0⟩] scope pos) (T g b wx WR (ev cf (.comp elt G own it cd))) := PE.by fun σ H Q q' => by
  refine ⟨_, pe_lc (own := ownN c own) (g := gAny' g G) (tt := tAny' g (evC cf cd)) (te := eAny' g (ev cf elt)) Y.G.calm Y.G.nd hI
    (blkOk_by (by rw [Y.hN, Y.hsc]; exact hb)) (fun s H C cl fp => PG.by fun v σ H Q ⟨b', q⟩ => ⟨_, hG _ _ _ _ _ b', q⟩)
    (fun s H C cl fp => ⟨fun pins s σ H Q I ⟨b', q⟩ => (hC _ _ _ _ _ b').run pins s σ H Q I q⟩) (fun s H C cl fp => PE.by fun σ H Q ⟨b', q⟩ => ⟨_, hE _ _ _ _ _ b', q⟩) (set_fold hs _), ?_⟩
  rw [own_map]
  exact comp_T hsub q'
theorem s_setLc (Y : Cy g wx cf k X c) {i : Nat} {y : Str} {py spos : Pos} {elt : E} {G : G} {own : List Nat} {it : It} {cd : C} {elt' tg iter : Expr} {ifs : List Expr} {scope : Scope} {pos : Pos} (hy : X.N[i]? = some y) (hyl : X.env.scope.names.lookup y = some .local)
    (hsw : swapsWith (.ListComp elt' [⟨tg, iter, ifs, 0⟩] scope pos) (some (.Name y py)) spos.line X.env = pure true)
    (hb : blkC c.N c.sc scope (ownN c own) = true) (hs : noSet iter = true) (hsub : ∀ j ∈ slG G, j ∈ own)
    (hI : PI X tg iter (TW g b wx (evI cf it) (keepOf it)))
    (hG : ∀ s H C cl fp b', PG (X.blk s H scope (compEnvC scope cl C X.env) fp) tg (TGt g b' G))
    (hC : ∀ s H C cl fp b', PTs (X.blk s H scope (compEnvC scope cl C X.env) fp) ifs (T g b' wx0 BR (evC cf cd)))
    (hE : ∀ s H C cl fp b', PE (X.blk s H scope (compEnvC scope cl C X.env) fp) elt' (T g b' wx0 DR (ev cf elt))) :
    PS X (.Assign [.Name y py] (.ListComp elt' [⟨tg, iter, ifs, 0⟩] scope pos) spos) (tAsg (T g b wx WR (ev cf (.comp elt G own it cd))) (gName i)) := PS.by fun D σ H q' => by
  refine ⟨_, ps_setLc (i := i) (own := ownN c own) (g := gAny' g G) (tt := tAny' g (evC cf cd)) (te := eAny' g (ev cf elt)) Y.G.calm Y.G.nd hy hyl hsw hI
    (blkOk_by (by rw [Y.hN, Y.hsc]; exact hb)) (fun s H C cl fp => PG.by fun v σ H Q ⟨b', q⟩ => ⟨_, hG _ _ _ _ _ b', q⟩)
    (fun s H C cl fp => ⟨fun pins s σ H Q I ⟨b', q⟩ => (hC _ _ _ _ _ b').run pins s σ H Q I q⟩) (fun s H C cl fp => PE.by fun σ H Q ⟨b', q⟩ => ⟨_, hE _ _ _ _ _ b', q⟩) (set_fold hs _), ?_⟩
  rw [own_map]
  exact comp_T hsub q'

/-! ### all expressions -/
theorem mA0_plain : ∀ (a : A) (es : List Expr) (env : PySem.Env), mA0 c a es = true → (starEach es env).any (·.1) = false
  | .nil, [], _, _ => rfl
  | .nil, _ :: _, _, h => by cases h
  | .cons _ _, [], _, h => by cases h
  | .cons e r, e' :: es, env, h => by
    simp only [mA0, Bool.and_eq_true] at h
    rw [noStar_cons h.1.1]
    show (false || (starEach es env).any (·.1)) = false
    rw [mA0_plain r es env h.2]
    rfl
  | .star _ _, _, _, h => by cases h
theorem t_other {a : E} {x : Expr} (hx : PE X x (T g b wx DR (ev cf a))) (h : ∀ o v p, x ≠ .BoolOp o v p) (h2 : ∀ o v p, x ≠ .UnaryOp o v p) (h3 : ∀ o v q p, x ≠ .IfExp o v q p) (h4 : ∀ o v q p, x ≠ .Compare o v q p) : PT X x (T g b wx BR (evB cf a)) := by
  refine t_val hx fun whole => ?_
  cases x <;> first | rfl | exact absurd rfl (h _ _ _) | exact absurd rfl (h2 _ _ _) | exact absurd rfl (h3 _ _ _ _) | exact absurd rfl (h4 _ _ _ _)
end
end MP

set_option Elab.async false
set_option linter.all false
set_option maxRecDepth 100000
set_option maxHeartbeats 8000000
namespace MP
open PySem PySem.Spec PyProof.Rows L2
/-! ### lists and tuples alike -/
def SqK (t : Bool) (K : PySem.W.Frag) (H : Hp) (a : Addr) (xs : List V) : Prop := match t with
  | true => SqT K H a xs
  | false => SqL K H a xs
def ItK (t : Bool) (h : Heap) (it a : Addr) (i : Nat) : Prop := match t with
  | true => h.IsTupleIter it a i
  | false => h.IsListIter it a i
def HdK (t : Bool) (h : Heap) (a : Addr) (its : Array Value) : Prop := match t with
  | true => h.IsTuple a its
  | false => h.IsList a its
def obK (t : Bool) (a : Addr) : Obj := match t with
  | true => { cls := .type "tuple_iterator", data := .fields #[.ref a, .int 0 0] }
  | false => { cls := .type "list_iterator", data := .fields #[.ref a, .int 0 0] }
theorem drawsK (t : Bool) {prog : Program} {w : World} {A : Around} (hh : A.handled = none) (it a : Addr) (hne : a ≠ it) (items : Array Value) :
    Draws prog w A it [it, a] items.size (fun i v => items[i]? = some v) (fun i h => ItK t h it a i ∧ HdK t h a items) := by
  cases t
  · exact Draws.list hh it a hne items
  · exact Draws.tuple hh it a hne items
theorem beginsK (t : Bool) (a : Addr) (items : Array Value) : Begins (.ref a) (obK t a) fun h => HdK t h a items := by
  cases t
  · exact begins_list a items
  · exact begins_tuple a items
theorem ItK.ob {t : Bool} {h : Heap} {it a : Addr} {i : Nat} (x : ItK t h it a i) : ∃ o, h.get? it = some o ∧ ∀ v, o.data ≠ .cell v := by
  cases t <;> obtain ⟨o, h1, _, h2⟩ := x <;> exact ⟨o, h1, fun v q => by rw [h2] at q; cases q⟩
theorem ItK.at' {t : Bool} {h h' : Heap} {it a : Addr} {i : Nat} (x : ItK t h it a i) (k : ∀ o, h.get? it = some o → h'.get? it = some o) : ItK t h' it a i := by
  cases t
  · exact Heap.IsListIter.at x k
  · exact Heap.IsTupleIter.at x k
theorem ItK.new {t : Bool} {h : Heap} {it a : Addr} (x : h.get? it = some (obK t a)) : ItK t h it a 0 := by
  cases t <;> exact ⟨_, x, rfl, rfl⟩
section
variable {X : Cx} {pins : List (Addr × Obj)} {σ : L2.St} {H : Hp} {s : Shared} {t : Bool} {a : Addr} {xs ys : List V}
theorem SqK.held (h : SqK t X.K H a xs) (I : Inv X pins σ H s) : ∃ its : List Value, Vals xs its ∧ HdK t s.heap a its.toArray ∧ a < s.heap.objs.size := by
  cases t
  · obtain ⟨its, rv, p, _⟩ := I.list h
    exact ⟨its, rv, p.isList, p.lt⟩
  · obtain ⟨its, rv, p, _⟩ := I.tuple h
    obtain ⟨o1, ho1, _⟩ := id p
    exact ⟨its, rv, p, Heap.lt_size ho1⟩
theorem SqK.inj (h : SqK t X.K H a xs) (h' : SqK t X.K H a ys) (I : Inv X pins σ H s) : xs = ys := by
  cases t
  · exact I.list_inj h h'
  · exact I.tuple_inj h h'
end
def JzK (t1 t2 : Bool) (K : PySem.W.Frag) (a b : Addr) : L2.It :=
  ⟨fun i H => ∃ (xs ys : List V) (x y : V), SqK t1 K H a xs ∧ SqK t2 K H b ys ∧ xs[i]? = some x ∧ ys[i]? = some y,
    fun i H v H' => ∃ T x y, v = .ref T ∧ H T = none ∧ H' = upd H T (.tup [x, y]) ∧ (∀ xs, SqK t1 K H a xs → xs[i]? = some x) ∧ ∀ ys, SqK t2 K H b ys → ys[i]? = some y,
    fun i H => ∃ xs ys : List V, SqK t1 K H a xs ∧ SqK t2 K H b ys ∧ min xs.length ys.length = i⟩
theorem turn_zipK {P : Program} {w : World} {K : PySem.W.Frag} {elts : List Expr} {kk : Nat} {tpos : Pos} {t1 t2 : Bool} {a b z TI TO i1 i2 : Addr} (S : ZipSep2 z TI TO i1 i2 [i1, a] [i2, b]) (n1 : a ≠ i1) (n2 : b ≠ i2) :
    Turn P w K (.Tuple elts kk tpos) (JzK t1 t2 K a b) [z, TI, TO, i1, i2] z (fun i h => IsZip h z TI TO .none ∧ IsTupOf2 h TI (.ref i1) (.ref i2) ∧ (∃ x y, IsTupOf2 h TO x y) ∧ ItK t1 h i1 a i ∧ ItK t2 h i2 b i) where
  mem := by simp
  obj := fun i h st c hc => by
    obtain ⟨hz, hTI, ⟨x, y, hTO⟩, h1, h2⟩ := st
    have e' : c = z ∨ c = TI ∨ c = TO ∨ c = i1 ∨ c = i2 := by simpa using hc
    rcases e' with q | q | q | q | q
    · rw [q]; exact ⟨_, hz, fun v q => nomatch q⟩
    · rw [q]; exact ⟨_, hTI, fun v q => nomatch q⟩
    · rw [q]; exact ⟨_, hTO, fun v q => nomatch q⟩
    · rw [q]; exact h1.ob
    · rw [q]; exact h2.ob
  keep := fun i h h' st k => by
    obtain ⟨hz, hTI, ⟨x, y, hTO⟩, h1, h2⟩ := st
    exact ⟨k z (by simp) _ hz, k TI (by simp) _ hTI, ⟨x, y, k TO (by simp) _ hTO⟩, h1.at' fun o q => k i1 (by simp) o q, h2.at' fun o q => k i2 (by simp) o q⟩
  item := by
    intro X hP hw hK hc i pins s σ H E I hf st hg
    subst hP hw hK
    obtain ⟨hz, hTI, hTO, h1, h2⟩ := st
    obtain ⟨xs, ys, x, y, hqx, hqy, hx, hy⟩ := hg
    obtain ⟨its, rv, p, _⟩ := hqx.held I
    obtain ⟨its2, rv2, p2, _⟩ := hqy.held I
    have hh : X.A.in1.handled = none := I.ok.hd hc
    have N := GoesN.zip2 (elts := elts) (x1 := kk) (pos := tpos) S (drawsK (prog := X.prog) (w := X.w) (A := X.A.in1) t1 hh i1 a n1 its.toArray) (drawsK t2 hh i2 b n2 its2.toArray)
    obtain ⟨u, hu, ru⟩ := rv.get hx
    obtain ⟨u2, hu2, ru2⟩ := rv2.get hy
    have hi : i < min its.toArray.size its2.toArray.size := by
      have q1 := (List.getElem?_eq_some_iff.mp hu).1
      have q2 := (List.getElem?_eq_some_iff.mp hu2).1
      simp only [List.size_toArray]; omega
    refine N.goes i s _ _ hi ⟨hz, hTI, hTO, ⟨h1, p⟩, ⟨h2, p2⟩⟩ fun v h' tk hY st' hk htk => ?_
    obtain ⟨T, x', y', rfl, hT0, ex, ey, hT⟩ := hY
    have ex' : x' = u := by simpa [hu] using ex.symm
    have ey' : y' = u2 := by simpa [hu2] using ey.symm
    subst ex'; subst ey'
    have lt : ∀ c ∈ [z, TI, TO, i1, i2], c < s.heap.objs.size := fun c hcm => by
      have e' : c = z ∨ c = TI ∨ c = TO ∨ c = i1 ∨ c = i2 := by simpa using hcm
      rcases e' with q | q | q | q | q
      · rw [q]; exact Heap.lt_size hz
      · rw [q]; exact Heap.lt_size hTI
      · rw [q]; obtain ⟨_, _, hTO⟩ := hTO; exact Heap.lt_size hTO
      · rw [q]; obtain ⟨_, e1, _⟩ := h1.ob; exact Heap.lt_size e1
      · rw [q]; obtain ⟨_, e2, _⟩ := h2.ob; exact Heap.lt_size e2
    have new : ObjOk X.prog X.w (upd H T (.tup [x, y])) h' T (.tup [x, y]) := ⟨by show 2 ≤ sizeLine; decide, [x', y'], .cons ru (.cons ru2 .nil), hT⟩
    have I1 : Inv X pins σ (upd H T (.tup [x, y])) { s with heap := h', toks := tk } :=
      I.turnedNew (t' := tk) (ch := [z, TI, TO, i1, i2]) (fun c o hb q => hk c o (fun q' => hb (by
        have e' : c = z ∨ c = TO ∨ c = i1 ∨ c = i2 := by simpa using q'
        rcases e' with r | r | r | r <;> simp [r])) q) hf hT0 new
    obtain ⟨s1, s2, s3, s4, s5⟩ := st'
    exact ⟨.ref T, _, I1, rfl, ⟨T, x, y, rfl, I.hok.fresh hT0, rfl, fun l hl => by rw [hl.inj hqx I]; exact hx, fun l hl => by rw [hl.inj hqy I]; exact hy⟩, ⟨s1, s2, s3, s4.1, s5.1⟩, fun c hcm => by
      rw [upd_ne (Nat.ne_of_lt (Nat.lt_of_lt_of_le (lt c hcm) hT0))]
      exact (hf c hcm).1⟩
  done := by
    intro X hP hw hK hc i pins s σ H E I hf st hg
    subst hP hw hK
    obtain ⟨hz, hTI, hTO, h1, h2⟩ := st
    obtain ⟨xs, ys, hqx, hqy, hend⟩ := hg
    obtain ⟨its, rv, p, _⟩ := hqx.held I
    obtain ⟨its2, rv2, p2, _⟩ := hqy.held I
    have hh : X.A.in1.handled = none := I.ok.hd hc
    have N := GoesN.zip2 (elts := elts) (x1 := kk) (pos := tpos) S (drawsK (prog := X.prog) (w := X.w) (A := X.A.in1) t1 hh i1 a n1 its.toArray) (drawsK t2 hh i2 b n2 its2.toArray)
    have hi : min its.toArray.size its2.toArray.size = i := by
      rw [← hend, rv.length, rv2.length, List.size_toArray, List.size_toArray]
    refine N.stops s _ _ (by rw [hi]; exact ⟨hz, hTI, hTO, ⟨h1, p⟩, ⟨h2, p2⟩⟩) fun h' tk hk htk => I.turnedL (t' := tk) (ch := [z, TI, TO, i1, i2]) (fun c o hb q => hk c o (fun q' => hb (by
        have e' : c = z ∨ c = TO ∨ c = i1 ∨ c = i2 := by simpa using q'
        rcases e' with r | r | r | r <;> simp [r])) q) hf
  self := fun A i s Q E st h => wpAny_pyIter_zip st.1 h
def iZipK (K : PySem.W.Frag) (ta : TA) : TI := fun σ H R => ta σ H fun vs H1 => ∃ t1 t2 a b xs ys, vs = [.ref a, .ref b] ∧ SqK t1 K H1 a xs ∧ SqK t2 K H1 b ys ∧ R (JzK t1 t2 K a b) H1
theorem pi_zipK {X : Cx} {e e2 : Expr} {ta : TA} {p pos tpos : Pos} {elts : List Expr} {kk : Nat} (hg : Gl X "zip") (hm : X.mg "zip" = none) (ha : PA X [e, e2] ta)
    (hs : starEach [e, e2] X.env = (false, eval e X.env) :: starEach [e2] X.env) (hpl : (backTo pos (starEach [e2] X.env)).any (·.1) = false) :
    PI X (.Tuple elts kk tpos) (.Call (.Name "zip" p) [e, e2] [] pos) (iZipK X.K ta) := by
  refine ⟨fun pins s σ H R I h => ?_⟩
  refine Call_ (ld_blt I hg hm PyProof.Rows.boot_zip (PyProof.Rows.callWith_type1 (thn (ha.run pos pins s σ H _ I h) fun us s1 ⟨vs, H1, I1, r1, q1⟩ => ?_) hs hpl))
  obtain ⟨t1, t2, a, b, xs, ys, rfl, hqx, hqy, q⟩ := q1
  cases r1 with
  | cons r rr =>
    cases rr with
    | cons r' rr =>
      cases rr
      cases r
      cases r'
      obtain ⟨its, rv, p1, la⟩ := hqx.held I1
      obtain ⟨its2, rv2, p2, lb⟩ := hqy.held I1
      refine zip_begins2 (beginsK t1 a its.toArray) (beginsK t2 b its2.toArray) p1 p2 fun h' hz hTI hTO h1 h2 hsz hk => wpAny_pyIter_zip hz ?_
      have I2 : Inv X pins σ H1 { s1 with heap := h' } := I1.kept (t' := s1.toks) hk
      have S := zip_sep2 (N := s1.heap.objs.size) (fp1 := [a]) (fp2 := [b]) (fun c hc => by rw [List.mem_singleton.mp hc]; exact la) (fun c hc => by rw [List.mem_singleton.mp hc]; exact lb)
      refine ⟨s1.heap.objs.size + 4, [s1.heap.objs.size + 4, s1.heap.objs.size + 2, s1.heap.objs.size + 3, s1.heap.objs.size, s1.heap.objs.size + 1], _, _, H1, rfl, I2, turn_zipK S (Nat.ne_of_lt la) (Nat.ne_of_lt (Nat.lt_succ_of_lt lb)), ⟨hz, hTI, ⟨_, _, hTO⟩, .new h1, .new h2⟩, fun c hcm => ?_, q⟩
      have e' : c = s1.heap.objs.size + 4 ∨ c = s1.heap.objs.size + 2 ∨ c = s1.heap.objs.size + 3 ∨ c = s1.heap.objs.size ∨ c = s1.heap.objs.size + 1 := by simpa using hcm
      have hle : s1.heap.objs.size ≤ c := by
        rcases e' with z | z | z | z | z
        · rw [z]; exact Nat.le_add_right _ _
        · rw [z]; exact Nat.le_add_right _ _
        · rw [z]; exact Nat.le_add_right _ _
        · rw [z]; exact Nat.le_refl _
        · rw [z]; exact Nat.le_add_right _ _
      exact I1.fpOk hle (I1.hok.fresh hle)

/-! ### enumerate -/
theorem meets_enumerate_newK {v : Value} {o : Obj} {H : Heap → Prop} (B : Begins v o H) :
    Meets (Builtin.«enumerate.__new__» ⟨[.type "enumerate", v], []⟩) (fun _ R s => H s.heap ∧
      R (.ok (.ret (.ref (s.heap.push o).objs.size))) { s with heap := (s.heap.push o).push { cls := .type "enumerate", data := .fields #[.none, .bool false, .ref s.heap.objs.size, rawInt 0, .none, .none] } }) :=
  .of_wp fun prog w A R s h => by
    obtain ⟨hp, g, d, tk, os⟩ := s; obtain ⟨h1, h⟩ := h
    have hsub := sub_enumerate
    have q1 : ∀ {A' : Around} {E : Value → Shared → Prop} {Q : Value → Shared → Prop}, Q (.ref hp.objs.size) ⟨hp.push o, g, d, tk, os⟩ → wpAny (model prog w) A' (pyIter v) Q E ⟨hp, g, d, tk, os⟩ :=
      fun q => B.iter prog w _ _ ⟨hp, g, d, tk, os⟩ _ h1 q
    wp_walk using q1
    refine wpAny_stack_any fun st => wpAny_pure ?_
    split
    · rename_i c _ _ _ _ _
      cases (c == Value.type "enumerate")
      · wp_walk using q1
        exact ⟨_, rfl, h⟩
      · wp_walk using q1
        exact ⟨_, rfl, h⟩
    · wp_walk using q1
      exact ⟨_, rfl, h⟩
theorem enum_beginsK {prog : Program} {w : World} {A : Around} {E : Value → Shared → Prop} {s : Shared} {v : Value} {o : Obj} {H : Heap → Prop} {Q : Value → Shared → Prop} (B : Begins v o H) (h1 : H s.heap)
    (h : ∀ h', IsEnum h' (s.heap.objs.size + 1) s.heap.objs.size 0 .none → h'.get? s.heap.objs.size = some o → h'.objs.size = s.heap.objs.size + 2 →
      (∀ b o, s.heap.get? b = some o → h'.get? b = some o) → Q (.ref (s.heap.objs.size + 1)) { s with heap := h' }) :
    wpAny (model prog w) A (call (.type "enumerate") [v]) Q E s := by
  refine callType_new F.called_enumerate (by decide) (F.typeCall_enumerate_1 _) (F.newCall_enumerate_1 _) (fun obj => F.args_object_init_2 obj _) F.entry_enumerate_new
    (meets_enumerate_newK B) ⟨h1, ?_⟩
  have hz : (s.heap.push o).objs.size = s.heap.objs.size + 1 := Heap.size_push ..
  show _ ∧ _
  rw [hz]
  have he : IsEnum ((s.heap.push o).push { cls := .type "enumerate", data := .fields #[.none, .bool false, .ref s.heap.objs.size, rawInt 0, .none, .none] }) (s.heap.objs.size + 1) s.heap.objs.size 0 .none := by
    have := Heap.get?_push_size (s.heap.push o) (o := { cls := .type "enumerate", data := .fields #[.none, .bool false, .ref s.heap.objs.size, rawInt 0, .none, .none] }) rfl
    rw [hz] at this; exact this
  refine ⟨⟨_, he, rfl⟩, h _ he (Heap.get?_push_of_some _ (Heap.get?_push_size _ B.free)) (by rw [Heap.size_push, hz]) fun b o x => Heap.get?_push_of_some _ (Heap.get?_push_of_some _ x)⟩
def JeK (t : Bool) (K : PySem.W.Frag) (a : Addr) : L2.It :=
  ⟨fun i H => ∃ (xs : List V) (x : V), SqK t K H a xs ∧ xs[i]? = some x,
    fun i H v H' => ∃ T x, v = .ref T ∧ H T = none ∧ H' = upd H T (.tup [.int (i : Nat), x]) ∧ ∀ xs, SqK t K H a xs → xs[i]? = some x,
    fun i H => ∃ xs : List V, SqK t K H a xs ∧ xs.length = i⟩
theorem turn_enumK {P : Program} {w : World} {K : PySem.W.Frag} {elts : List Expr} {kk : Nat} {tpos : Pos} {t : Bool} {a e it : Addr} (n1 : a ≠ it) (n2 : e ≠ it) (n3 : e ≠ a) :
    Turn P w K (.Tuple elts kk tpos) (JeK t K a) [e, it] e (fun i h => (∃ old, IsEnum h e it (0 + (i : Int)) old) ∧ ItK t h it a i) where
  mem := by simp
  obj := fun i h st c hc => by
    obtain ⟨⟨old, he⟩, h1⟩ := st
    have e' : c = e ∨ c = it := by simpa using hc
    rcases e' with q | q
    · rw [q]; exact ⟨_, he, fun v q => nomatch q⟩
    · rw [q]; exact h1.ob
  keep := fun i h h' st k => by
    obtain ⟨⟨old, he⟩, h1⟩ := st
    exact ⟨⟨old, k e (by simp) _ he⟩, h1.at' fun o q => k it (by simp) o q⟩
  item := by
    intro X hP hw hK hc i pins s σ H E I hf st hg
    subst hP hw hK
    obtain ⟨he, h1⟩ := st
    obtain ⟨xs, x, hqx, hx⟩ := hg
    obtain ⟨its, rv, p, _⟩ := hqx.held I
    have hh : X.A.in1.handled = none := I.ok.hd hc
    have N := GoesN.enumFrom (elts := elts) (x1 := kk) (pos := tpos) 0 (drawsK (prog := X.prog) (w := X.w) (A := X.A.in1) t hh it a n1 its.toArray) e n2 (by simp [n2, n3]) (by simp)
    obtain ⟨u, hu, ru⟩ := rv.get hx
    have hi : i < its.toArray.size := by
      have q1 := (List.getElem?_eq_some_iff.mp hu).1
      simpa using q1
    refine N.goes i s _ _ hi ⟨he, ⟨h1, p⟩⟩ fun v h' tk hY st' hk htk => ?_
    obtain ⟨T, t0, x', rfl, hT0, ex, hT⟩ := hY
    have ex' : x' = u := by simpa [hu] using ex.symm
    subst ex'
    have lt : ∀ c ∈ [e, it], c < s.heap.objs.size := fun c hcm => by
      have e' : c = e ∨ c = it := by simpa using hcm
      rcases e' with q | q
      · rw [q]; obtain ⟨_, he⟩ := he; exact Heap.lt_size he
      · rw [q]; obtain ⟨_, e1, _⟩ := h1.ob; exact Heap.lt_size e1
    have new : ObjOk X.prog X.w (upd H T (.tup [.int (i : Nat), x])) h' T (.tup [.int (i : Nat), x]) := ⟨by show 2 ≤ sizeLine; decide, [.int (0 + (i : Int)) t0, x'], .cons ⟨t0, by rw [Int.zero_add]⟩ (.cons ru .nil), hT⟩
    have I1 : Inv X pins σ (upd H T (.tup [.int (i : Nat), x])) { s with heap := h', toks := tk } := I.turnedNew (t' := tk) (ch := [e, it]) hk hf hT0 new
    exact ⟨.ref T, _, I1, rfl, ⟨T, x, rfl, I.hok.fresh hT0, rfl, fun l hl => by rw [hl.inj hqx I]; exact hx⟩, ⟨st'.1, st'.2.1⟩, fun c hcm => by
      rw [upd_ne (Nat.ne_of_lt (Nat.lt_of_lt_of_le (lt c hcm) hT0))]
      exact (hf c hcm).1⟩
  done := by
    intro X hP hw hK hc i pins s σ H E I hf st hg
    subst hP hw hK
    obtain ⟨he, h1⟩ := st
    obtain ⟨xs, hqx, hend⟩ := hg
    obtain ⟨its, rv, p, _⟩ := hqx.held I
    have hh : X.A.in1.handled = none := I.ok.hd hc
    have N := GoesN.enumFrom (elts := elts) (x1 := kk) (pos := tpos) 0 (drawsK (prog := X.prog) (w := X.w) (A := X.A.in1) t hh it a n1 its.toArray) e n2 (by simp [n2, n3]) (by simp)
    have hi : its.toArray.size = i := by rw [← hend, rv.length, List.size_toArray]
    exact N.stops s _ _ (by rw [hi]; exact ⟨he, ⟨h1, p⟩⟩) fun h' tk hk htk => I.turnedL (t' := tk) (ch := [e, it]) hk hf
  self := fun A i s Q E st h => by
    obtain ⟨⟨_, he⟩, _⟩ := st
    exact wpAny_pyIter_enum he h
def iEnumK (K : PySem.W.Frag) (ta : TA) : TI := fun σ H R => ta σ H fun vs H1 => ∃ t a xs, vs = [.ref a] ∧ SqK t K H1 a xs ∧ R (JeK t K a) H1
theorem pi_enumK {X : Cx} {e : Expr} {ta : TA} {p pos tpos : Pos} {elts : List Expr} {kk : Nat} (hg : Gl X "enumerate") (hm : X.mg "enumerate" = none) (ha : PA X [e] ta) (hs : starEach [e] X.env = [(false, eval e X.env)]) :
    PI X (.Tuple elts kk tpos) (.Call (.Name "enumerate" p) [e] [] pos) (iEnumK X.K ta) := by
  refine ⟨fun pins s σ H R I h => ?_⟩
  refine Call_ (ld_blt I hg hm boot_enumerate (PyProof.Rows.callWith_type1 (thn (ha.run pos pins s σ H _ I h) fun us s1 ⟨vs, H1, I1, r1, q1⟩ => ?_) hs rfl))
  obtain ⟨t, a, xs, rfl, hqx, q⟩ := q1
  cases r1 with
  | cons r rr =>
    cases rr
    cases r
    obtain ⟨its, rv, p1, la⟩ := hqx.held I1
    refine enum_beginsK (beginsK t a its.toArray) p1 fun h' he hit hsz hk => wpAny_pyIter_enum he ?_
    have I2 : Inv X pins σ H1 { s1 with heap := h' } := I1.kept (t' := s1.toks) hk
    refine ⟨s1.heap.objs.size + 1, [s1.heap.objs.size + 1, s1.heap.objs.size], _, _, H1, rfl, I2, turn_enumK (Nat.ne_of_lt la) (Nat.succ_ne_self _) (Nat.ne_of_gt (Nat.lt_succ_of_lt la)), ⟨⟨.none, he⟩, .new hit⟩, fun b hb => ?_, q⟩
    have e' : b = s1.heap.objs.size + 1 ∨ b = s1.heap.objs.size := by simpa using hb
    have hle : s1.heap.objs.size ≤ b := by
      rcases e' with z | z
      · rw [z]; exact Nat.le_add_right _ _
      · rw [z]; exact Nat.le_refl _
    exact I1.fpOk hle (I1.hok.fresh hle)

/-! ### the readings -/
section
variable {g : Gb} {b : Bs} {wx : WX} {cf : Nat → List D → Sto → R W} {k : Nat} {X : Cx} {c : Cc} {F F' : Hp} {ρ ρ' : Rho} {σ : L2.St} {H H' : Hp} {fr : Fr} {st st' : Sto} {Q : VK}
theorem SqK.of (t : Bool) {K : PySem.W.Frag} {a : Addr} {vs : List V} (h : SqK t K F a vs) (S : Same F H) : SqK t K H a vs := by
  cases t
  · exact S.seq h
  · exact same_seqT S h
theorem items_K {d : D} {xs : List D} {v : V} (h : items d = some xs) (r : VR g F ρ d v) : ∃ t a vs, v = .ref a ∧ VRs g F ρ xs vs ∧ SqK t g.K F a vs := by
  obtain ⟨a, vs, e, r2, q⟩ := items_inv h r
  rcases q with ⟨_, q⟩ | ⟨_, q⟩
  · exact ⟨false, a, vs, e, r2, q⟩
  · exact ⟨true, a, vs, e, r2, q⟩
theorem zipF_len (xs ys : List D) : (zipF xs ys).length = min xs.length ys.length := by simp [zipF]
theorem zipF_get {xs ys : List D} {i : Nat} {x y : D} (h1 : xs[i]? = some x) (h2 : ys[i]? = some y) : (zipF xs ys)[i]? = some (.tup [x, y]) := by
  unfold zipF
  rw [List.getElem?_map, show (xs.zip ys)[i]? = some (x, y) from by rw [List.getElem?_zip_eq_some]; exact ⟨h1, h2⟩]
  rfl
theorem enumF_len (xs : List D) : (enumF xs).length = xs.length := by simp [enumF]
theorem enumF_get {xs : List D} {i : Nat} {x : D} (h1 : xs[i]? = some x) : (enumF xs)[i]? = some (.tup [.int (i : Nat), x]) := by
  unfold enumF
  rw [List.getElem?_map, List.getElem?_zipIdx, h1]
  simp
theorem walks_zip {t1 t2 : Bool} {a a' : Addr} {xs ys : List D} {vs us : List V} (h1 : SqK t1 g.K F a vs) (h2 : SqK t2 g.K F a' us) (r1 : VRs g F ρ xs vs) (r2 : VRs g F ρ ys us) : Walks g b σ fr F ρ (JzK t1 t2 g.K a a') (zipF xs ys) [] where
  go := fun i P F2 ρ2 σ' H fr' st' hi S P' A _ => by
    rw [zipF_len, r1.length, r2.length] at hi
    have k1 : i < vs.length := by omega
    have k2 : i < us.length := by omega
    exact ⟨vs, us, vs[i], us[i], .of t1 h1 (S.trans A.sub), .of t2 h2 (S.trans A.sub), List.getElem?_eq_getElem k1, List.getElem?_eq_getElem k2⟩
  stop := fun i P F2 ρ2 σ' H fr' st' hi S P' A _ => by
    rw [zipF_len, r1.length, r2.length] at hi
    exact ⟨vs, us, .of t1 h1 (S.trans A.sub), .of t2 h2 (S.trans A.sub), hi⟩
  yld := fun i P F2 ρ2 σ' H fr' st' x H' hi S P' A _ y => by
    obtain ⟨T, x1, y1, rfl, hT, rfl, f1, f2⟩ := y
    obtain ⟨d1, e1, v1⟩ := r1.get' (f1 vs (.of t1 h1 (S.trans A.sub)))
    obtain ⟨d2, e2, v2⟩ := r2.get' (f2 us (.of t2 h2 (S.trans A.sub)))
    obtain ⟨A2, S2⟩ := A.allocF (.tup [x1, y1]) hT
    exact ⟨_, _, zipF_get e1 e2, S2, A2, .tup (.inl (.inl upd_same)) (.cons ((v1.mono S P').mono S2 (pfx _)) (.cons ((v2.mono S P').mono S2 (pfx _)) .nil))⟩
theorem walks_enum {t1 : Bool} {a : Addr} {xs : List D} {vs : List V} (h1 : SqK t1 g.K F a vs) (r1 : VRs g F ρ xs vs) : Walks g b σ fr F ρ (JeK t1 g.K a) (enumF xs) [] where
  go := fun i P F2 ρ2 σ' H fr' st' hi S P' A _ => by
    rw [enumF_len, r1.length] at hi
    exact ⟨vs, vs[i], .of t1 h1 (S.trans A.sub), List.getElem?_eq_getElem hi⟩
  stop := fun i P F2 ρ2 σ' H fr' st' hi S P' A _ => by
    rw [enumF_len, r1.length] at hi
    exact ⟨vs, .of t1 h1 (S.trans A.sub), hi⟩
  yld := fun i P F2 ρ2 σ' H fr' st' x H' hi S P' A _ y => by
    obtain ⟨T, x1, rfl, hT, rfl, f1⟩ := y
    obtain ⟨d1, e1, v1⟩ := r1.get' (f1 vs (.of t1 h1 (S.trans A.sub)))
    obtain ⟨A2, S2⟩ := A.allocF (.tup [.int (i : Nat), x1]) hT
    exact ⟨_, _, enumF_get e1, S2, A2, .tup (.inl (.inl upd_same)) (.cons (.int _) (.cons ((v1.mono S P').mono S2 (pfx _)) .nil))⟩
theorem isTup_tp {tg : Expr} (h : isTup tg = true) : ∃ es kk pos, tg = .Tuple es kk pos := by
  cases tg <;> first | exact ⟨_, _, _, rfl⟩ | cases h
theorem i_zip (Y : Cy g wx cf k X c) {a b' : E} {x z tg : Expr} {y : Str} {py pos : Pos} (ht : isTup tg = true) (hy : y = "zip") (hg : glB c y = true) (hs : noStar x = true) (hs' : noStar z = true) (hx : PE X x (T g b wx DR (ev cf a))) (hz : PE X z (T g b wx DR (ev cf b'))) :
    PI X tg (.Call (.Name y py) [x, z] [] pos) (TW g b wx (evI cf (.zip a b')) []) := PI.by fun σ H Q q' => by
  obtain ⟨F, ρ, fr, st, A, p⟩ := q'
  obtain ⟨k1, k2, k3⟩ := Y.gl hg
  obtain ⟨es, kk, tp, rfl⟩ := isTup_tp ht
  subst hy
  simp only [evI] at p
  refine ⟨_, pi_zipK k1 (mem_blt (by simp [bltNames]) Y) (pa_cons hx (pa_cons hz pa_nil (noStar_cons hs' _)) (noStar_cons hs _)) (noStar_cons hs _) (by rw [backTo_any, noStar_cons hs']; rfl), ?_⟩
  refine ⟨F, ρ, fr, st, A, p.seq fun x s1 F1 ρ1 H1 v _ _ _ A1 rv0 p1 => ⟨F1, ρ1, fr, s1, A1, p1.seq fun y s2 F2 ρ2 H2 u _ S2 P2 A2 ru p2 => ?_⟩⟩
  have rv := VR.mono S2 P2 rv0
  split at p2
  · rename_i xs ys e1 e2
    obtain ⟨t1, a1, vs, rfl, r1, h1⟩ := items_K e1 rv
    obtain ⟨t2, a2, us, rfl, r2, h2⟩ := items_K e2 ru
    refine ⟨t1, t2, a1, a2, vs, us, rfl, by rw [Y.G.hK]; exact .of t1 h1 A2.sub, by rw [Y.G.hK]; exact .of t2 h2 A2.sub, ?_⟩
    rw [Y.G.hK]
    exact Po.wk p2 A2 (walks_zip h1 h2 r1 r2)
  · exact p2.elim
theorem i_enum (Y : Cy g wx cf k X c) {a : E} {x tg : Expr} {y : Str} {py pos : Pos} (ht : isTup tg = true) (hy : y = "enumerate") (hg : glB c y = true) (hs : noStar x = true) (hx : PE X x (T g b wx DR (ev cf a))) :
    PI X tg (.Call (.Name y py) [x] [] pos) (TW g b wx (evI cf (.enum a)) []) := PI.by fun σ H Q q' => by
  obtain ⟨F, ρ, fr, st, A, p⟩ := q'
  obtain ⟨k1, k2, k3⟩ := Y.gl hg
  obtain ⟨es, kk, tp, rfl⟩ := isTup_tp ht
  subst hy
  simp only [evI] at p
  refine ⟨_, pi_enumK k1 (mem_blt (by simp [bltNames]) Y) (pa_cons hx pa_nil (noStar_cons hs _)) (noStar_cons hs _), ?_⟩
  refine one p A fun x s2 F2 ρ2 H2 v A2 rv p2 => ?_
  cases e1 : items x.d with
  | none => rw [e1] at p2; exact p2.elim
  | some xs =>
    rw [e1] at p2
    obtain ⟨t1, a1, vs, rfl, r1, h1⟩ := items_K e1 rv
    refine ⟨t1, a1, vs, rfl, by rw [Y.G.hK]; exact .of t1 h1 A2.sub, ?_⟩
    rw [Y.G.hK]
    exact Po.wk p2 A2 (walks_enum h1 r1)
end
end MP

set_option Elab.async false
set_option linter.all false
set_option maxRecDepth 100000
set_option maxHeartbeats 8000000
namespace MP
open PySem PySem.Spec PyProof.Rows L2
/-! ### t[::-1] -/
section
variable {prog : Program} {w : World} {A : Around} {E : Value → Shared → Prop} {s : Shared}
theorem adjust_rev (n : Nat) : Builtin.Slice.sliceAdjust none none (-1) (n : Int) = ((n : Int) - 1, -1) := by
  unfold Builtin.Slice.sliceAdjust
  simp
theorem places_rev (n : Nat) : Builtin.Slice.slicePlaces ((n : Int) - 1) (-1) (-1) = n := by
  unfold Builtin.Slice.slicePlaces
  have h1 : ¬ ((-1 : Int) > 0) := by omega
  rw [if_neg h1]
  split
  · rw [show (- -1 : Int) = 1 by decide, Int.ediv_one]; omega
  · omega
theorem pick_rev (xs : Array Value) : ((List.range xs.size).filterMap fun (m : Nat) => xs[(((xs.size : Nat) : Int) - 1 + (m : Int) * -1).toNat]?).toArray = xs.toList.reverse.toArray := by
  have e := PySem.W.krv_pick xs
  unfold slicePick at e
  rw [PySem.W.krv_bounds] at e
  rw [show (((xs.size : Int) - 1, (-1 : Int), (-1 : Int)) : Int × Int × Int).1 = (xs.size : Int) - 1 from rfl] at e
  have e2 : sliceRange ((xs.size : Int) - 1) (-1) (-1) = (List.range xs.size).map fun k => xs.size - 1 - k := PySem.W.krv_sliceRange xs.size
  rw [← e]
  show _ = ((sliceRange ((xs.size : Int) - 1) (-1) (-1)).filterMap (xs[·]?)).toArray
  rw [e2, List.filterMap_map]
  have e4 : (fun (m : Nat) => xs[(((xs.size : Nat) : Int) - 1 + (m : Int) * -1).toNat]?) = ((fun x => xs[x]?) ∘ fun k => xs.size - 1 - k) := by
    funext m
    show xs[_]? = xs[xs.size - 1 - m]?
    have e3 : (((xs.size : Nat) : Int) - 1 + (m : Int) * -1).toNat = xs.size - 1 - m := by omega
    rw [e3]
  rw [e4]
theorem getItem_tuple_rev {t sl : Addr} {items : Array Value} {u : Tok} {Q : Value → Shared → Prop} (ht : IsTup s.heap t items) (hs : s.heap.IsSliceOf sl .none .none (.int (-1) u))
    (h : Q (.ref s.heap.objs.size) { s with heap := s.heap.push { cls := .type "tuple", data := .seq items.toList.reverse.toArray } })
    (hsz : items.size ≤ sizeLine) : wpAny (model prog w) A (getItem (.ref t) (.ref sl)) Q E s := by
  have htake : sizeOk (.seq items.toList.reverse.toArray) := by
    show items.toList.reverse.toArray.size ≤ sizeLine
    rw [List.size_toArray, List.length_reverse, Array.length_toList]
    exact hsz
  obtain ⟨os, hos, hcs, hds⟩ := id hs
  have hTs : s.TypeIs (.ref sl) "slice" := ⟨os, hos, hcs⟩
  unfold getItem
  try with_reducible refine wpAny_holding ?_
  first | refine wpAny_bind (wpAny_pure ?_) | skip
  refine wpAny_bind (wpAny_sequenceKey ht.typeIs (by decide) ?_)
  refine wpAny_bind (wpAny_callSpecial?_slot (name := Str.ofString "__getitem__") ht.typeIs PyProof.Rows.slot_tuple_getitem
    (wpAny_call_entry PyProof.Rows.slot_tuple_getitem ht.typeIs entry_tuple_getitem ?_ (args_tuple_getitem _ _)))
  show wpAny _ _ (Builtin.Tuple.tupleItemsOf (.ref t) >>= _) _ _ s
  refine wpAny_bind (tupleItemsOf_ ht ?_)
  refine wpAny_bind (wpAny_typeOf hTs ?_)
  rw [if_pos (by decide)]
  refine wpAny_bind ?_
  unfold Builtin.Slice.sliceApplied Builtin.Slice.sliceFields
  refine wpAny_bind (wpAny_bind (wpAny_field hos hds (x := .none) rfl (wpAny_bind (wpAny_field hos hds (x := .none) rfl (wpAny_bind (wpAny_field hos hds (x := .int (-1) u) rfl (wpAny_pure ?_)))))))
  refine wpAny_bind (slicePart_int ?_)
  show wpAny _ _ (if ((-1 : Int) == 0) = true then _ else _) _ _ s
  rw [if_neg (by decide)]
  refine wpAny_bind (slicePart_none (wpAny_bind (slicePart_none (wpAny_bind (wpAny_pure ?_)))))
  show wpAny _ _ (match Builtin.Slice.sliceAdjust none none (-1) (items.size : Int) with | (lo, hi) => pure (lo, (-1 : Int), Builtin.Slice.slicePlaces lo hi (-1))) _ _ s
  rw [adjust_rev]
  show wpAny _ _ (pure (((items.size : Nat) : Int) - 1, (-1 : Int), Builtin.Slice.slicePlaces (((items.size : Nat) : Int) - 1) (-1) (-1))) _ _ s
  rw [places_rev]
  refine wpAny_pure ?_
  show wpAny _ _ (if ((((items.size : Nat) : Int) - 1) == 0 && (-1 : Int) == 1 && items.size == items.size) = true then _ else _) _ _ s
  rw [if_neg (by rw [show ((-1 : Int) == 1) = false by decide, Bool.and_false]; exact Bool.false_ne_true), pick_rev]
  first
    | exact wpAny_bind (m := Builtin.Tuple.tupleExact _) (wpAny_newObj_type (wpAny_pure ⟨_, rfl, wpAny_pure h⟩) htake)
    | exact wpAny_bind (m := Builtin.Tuple.tupleExact _) (wpAny_newObj_type (wpAny_bind (wpAny_pure (wpAny_pure ⟨_, rfl, wpAny_pure h⟩))) htake)
    | exact wpAny_bind (wpAny_bind (m := Builtin.Tuple.tupleExact _) (wpAny_newObj_type (wpAny_pure (wpAny_pure ⟨_, rfl, wpAny_pure h⟩)) htake))
    | exact wpAny_bind (wpAny_bind (m := Builtin.Tuple.tupleExact _) (wpAny_newObj_type (wpAny_pure ⟨_, rfl, wpAny_pure h⟩) htake))
end
def tRevT (K : PySem.W.Frag) (te : TE) : TE := fun σ H Q => te σ H fun x H1 => ∃ a xs, x = .ref a ∧ SqT K H1 a xs ∧ ∀ p, H1 p = none → Q (.ref p) (upd H1 p (.tup xs.reverse))
theorem pe_revT {X : Cx} {e : Expr} {te : TE} {k : Nat} {p1 p2 p3 pos : Pos} (he : PE X e te) : PE X (.Subscript e (.Slice none none (some (.UnaryOp .USub (.Constant (.int 1) k p1) p2)) p3) pos) (tRevT X.K te) := by
  refine ⟨fun pins s σ H Q I h => ?_⟩
  refine Subscript_ (thn (he.run pins s σ H _ I h) fun v s1 ⟨x, H1, I1, r1, q1⟩ => ?_)
  obtain ⟨a, xs, ex, hx, q⟩ := q1
  subst ex
  cases r1
  have hst : PO X (some (.UnaryOp .USub (.Constant (.int 1) k p1) p2)) (tPart (tUn (rU fun i => .int (-i)) (tC (.int 1)))) := po_some (pe_un un_neg pe_int)
  refine wpAny_Slice (thn (po_none.run pins s1 σ H1 (fun o H2 => o = none ∧ H2 = H1) I1 ⟨rfl, rfl⟩) fun vl s2 ⟨l, H2, I2, pl, el, e2⟩ => ?_)
  subst el e2
  refine thn (po_none.run pins s2 σ H2 (fun o H3 => o = none ∧ H3 = H2) I2 ⟨rfl, rfl⟩) fun vu s3 ⟨u, H3, I3, pu, eu, e3⟩ => ?_
  subst eu e3
  refine thn (hst.run pins s3 σ H3 (fun o H4 => o = some (-1) ∧ H4 = H3) I3 ⟨1, rfl, -1, rfl, rfl, rfl⟩) fun vs s4 ⟨o, H4, I4, ps, eo, e4⟩ => ?_
  subst eo e4
  have I5 : Inv X pins σ H4 { s4 with heap := s4.heap.push { cls := .type "slice", data := .fields #[vl, vu, vs] } } := I4.kept (t' := s4.toks) fun b ob q => Heap.get?_push_of_some _ q
  obtain ⟨its, r, ht, hz⟩ := I5.tuple hx
  have hlen := r.length
  show wpAny (model X.prog X.w) X.A (subscriptTail e (.Slice none none (some (.UnaryOp .USub (.Constant (.int 1) k p1) p2)) p3) (.ref a) (.ref s4.heap.objs.size)) (EP X pins σ Q) X.xe { s4 with heap := s4.heap.push { cls := .type "slice", data := .fields #[vl, vu, vs] } }
  refine tail_any (ops := [.ref a, .ref s4.heap.objs.size]) ht.typeIs (PyProof.Rows.slot_tuple_getitem.lookup) ?_ (by with_unfolding_all rfl)
  cases pl; cases pu; cases ps
  refine getItem_tuple_rev ht (Heap.IsSliceOf.new _ _ _ _) ?_ (by rw [List.size_toArray]; omega)
  refine ⟨.ref _, _, I5.laid (t' := s4.toks) (o := .tup xs.reverse) (fun b ob q => Heap.get?_push_of_some _ q) (Nat.le_refl _) ?_, rfl, q _ (I5.hok.fresh (Nat.le_refl _))⟩
  exact ⟨by rw [List.length_reverse]; exact hz, _, r.reverse, IsTup.new _ _⟩
section
variable {g : Gb} {b : Bs} {wx : WX} {cf : Nat → List D → Sto → R W} {k : Nat} {X : Cx} {c : Cc} {F F' : Hp} {ρ ρ' : Rho} {σ : L2.St} {H H' : Hp} {fr : Fr} {st st' : Sto} {Q : VK}
theorem e_rev (Y : Cy g wx cf k X c) {a : E} {x : Expr} {j : Nat} {p1 p2 p3 pos : Pos} (hx : PE X x (T g b wx DR (ev cf a))) :
    PE X (.Subscript x (.Slice none none (some (.UnaryOp .USub (.Constant (.int 1) j p1) p2)) p3) pos) (T g b wx WR (ev cf (.rev a))) := PE.by fun σ H Q q' => by
  obtain ⟨F, ρ, fr, st, A, p⟩ := q'
  simp only [ev] at p
  cases e : ev cf a fr st with
  | bad => rw [e] at p; exact p.elim
  | exc c' p' s1 =>
    refine ⟨_, pe_revT hx, F, ρ, fr, st, A, ?_⟩
    rw [e] at p ⊢
    exact p
  | ok w s1 =>
    by_cases ht : ∃ xs, w.d = .tup xs
    · obtain ⟨xs, ht⟩ := ht
      refine ⟨_, pe_revT hx, F, ρ, fr, st, A, p.seq fun w' s1' F1 ρ1 H1 v e' _ _ A1 rv p1 => ?_⟩
      rw [e] at e'; cases e'
      have rv' : VR g F1 ρ1 w.d v := rv
      rw [ht] at rv' p1
      obtain ⟨a', vs, rfl, h1, h2⟩ := rv'.tupI
      exact ⟨a', vs, rfl, by rw [Y.G.hK]; exact A1.sqT h1, Po.tup p1 A1 h2.reverse⟩
    · by_cases hl : ∃ xs, w.d = .lst xs
      · obtain ⟨xs, ht⟩ := hl
        refine ⟨_, pe_revL hx, F, ρ, fr, st, A, p.seq fun w' s1' F1 ρ1 H1 v e' _ _ A1 rv p1 => ?_⟩
        rw [e] at e'; cases e'
        have rv' : VR g F1 ρ1 w.d v := rv
        rw [ht] at rv' p1
        obtain ⟨a', vs, rfl, h1, h2⟩ := rv'.lstI
        exact ⟨a', vs, rfl, .inl (.inl (A1.sub _ _ h1)), Po.lst p1 A1 h2.reverse⟩
      · rw [e] at p
        have e2 : revD w.d = none := by
          revert ht hl
          generalize w.d = d
          intro h1 h2
          cases d <;> first | rfl | exact absurd ⟨_, rfl⟩ h1 | exact absurd ⟨_, rfl⟩ h2
        rw [show (R.bind (R.ok w s1) fun x s1 => opt (revD x.d) s1) = opt (revD w.d) s1 from rfl, e2] at p
        exact p.elim

theorem VRs.of_rng (m n : Int) : VRs g F ρ (rng m n) (rgV m n) := by
  unfold rng rgV
  generalize (List.range (n - m).toNat) = l
  induction l with
  | nil => exact .nil
  | cons i l ih => exact .cons (.int _) ih
theorem rngOk_rg {m n : Int} (h : rngOk m n = true) : RgOk m n := by
  unfold rngOk at h
  simp only [Bool.and_eq_true, decide_eq_true_eq] at h
  obtain ⟨⟨⟨⟨h1, h2⟩, h3⟩, h4⟩, h5⟩ := h
  exact ⟨h1, h2, h3, h4, h5⟩
theorem lr_end {tp : Bool} {m n : Int} (p : Po g b wx WR (.ok (if tp then .dat (.tup (rng m n)) else .own (rng m n)) st) F ρ σ fr Q) (A : Ab g b F ρ σ H fr st) (t : tp = true) : ∀ q, H q = none → Q (.ref q) (upd H q (.tup (rgV m n))) := by
  subst t; exact Po.tup p A (.of_rng m n)
theorem lr_end' {tp : Bool} {m n : Int} (p : Po g b wx WR (.ok (if tp then .dat (.tup (rng m n)) else .own (rng m n)) st) F ρ σ fr Q) (A : Ab g b F ρ σ H fr st) (t : tp = false) : ∀ q, H q = none → Q (.ref q) (upd H q (.lst (rgV m n))) := by
  subst t; exact Po.lst p A (.of_rng m n)
theorem lr1 {a : E} {tp : Bool} {r : Int → Int → Hp → Prop} (p : Po g b wx WR (ev cf (.lrng tp (.rng1 a)) fr st) F ρ σ fr Q) (A : Ab g b F ρ σ H fr st)
    (h : ∀ s2 F2 ρ2 H2 (n : Int), Ab g b F2 ρ2 σ H2 fr s2 → RgOk 0 n → Po g b wx WR (.ok (if tp then .dat (.tup (rng 0 n)) else .own (rng 0 n)) s2) F2 ρ2 σ fr Q → r 0 n H2) : tRg1 (T g b wx DR (ev cf a)) σ H r := by
  have e : ev cf (.lrng tp (.rng1 a)) fr st = (ev cf a fr st).bind fun x s1 => match x.d with
    | .int n => if rngOk 0 n then .ok (if tp then .dat (.tup (rng 0 n)) else .own (rng 0 n)) s1 else .bad
    | _ => .bad := by
    simp only [ev, evI]
    cases ev cf a fr st with
    | ok w s =>
      simp only [R.bind]
      cases w.d <;> first | rfl | skip
      rename_i n
      simp only
      cases rngOk 0 n <;> rfl
    | exc _ _ _ => rfl
    | bad => rfl
  rw [e] at p
  refine one p A fun x s1 F1 ρ1 H1 v A1 rv p1 => ?_
  split at p1
  · rename_i n e2
    rw [e2] at rv; cases rv
    split at p1
    · rename_i h1
      exact ⟨n, rfl, h s1 F1 ρ1 H1 n A1 (rngOk_rg h1) p1⟩
    · exact p1.elim
  · exact p1.elim
theorem lr2 {a b' : E} {tp : Bool} {r : Int → Int → Hp → Prop} (p : Po g b wx WR (ev cf (.lrng tp (.rng2 a b')) fr st) F ρ σ fr Q) (A : Ab g b F ρ σ H fr st)
    (h : ∀ s2 F2 ρ2 H2 (m n : Int), Ab g b F2 ρ2 σ H2 fr s2 → RgOk m n → Po g b wx WR (.ok (if tp then .dat (.tup (rng m n)) else .own (rng m n)) s2) F2 ρ2 σ fr Q → r m n H2) : tRg2 (T g b wx DR (ev cf a)) (T g b wx DR (ev cf b')) σ H r := by
  have e : ev cf (.lrng tp (.rng2 a b')) fr st = (ev cf a fr st).bind fun x s1 => (ev cf b' fr s1).bind fun y s2 => match x.d, y.d with
    | .int m, .int n => if rngOk m n then .ok (if tp then .dat (.tup (rng m n)) else .own (rng m n)) s2 else .bad
    | _, _ => .bad := by
    simp only [ev, evI]
    cases ev cf a fr st with
    | ok w s =>
      simp only [R.bind]
      cases ev cf b' fr s with
      | ok w2 s2 =>
        simp only [R.bind]
        cases w.d <;> cases w2.d <;> first | rfl | skip
        rename_i m n
        simp only
        cases rngOk m n <;> rfl
      | exc _ _ _ => rfl
      | bad => rfl
    | exc _ _ _ => rfl
    | bad => rfl
  rw [e] at p
  refine two p A fun x y s1 F1 ρ1 H1 v u A1 rv ru p1 => ?_
  split at p1
  · rename_i m n e2 e3
    rw [e2] at rv; cases rv
    rw [e3] at ru; cases ru
    split at p1
    · rename_i h1
      exact ⟨m, n, rfl, rfl, h s1 F1 ρ1 H1 m n A1 (rngOk_rg h1) p1⟩
    · exact p1.elim
  · exact p1.elim
theorem e_lrng1 (Y : Cy g wx cf k X c) {tp : Bool} {a : E} {x : Expr} {y z : Str} {py pz pos zos : Pos} (hy : y = if tp then "tuple" else "list") (hg : glB c y = true) (hz : z = "range") (hgz : glB c z = true) (hs : noStar x = true) (hx : PE X x (T g b wx DR (ev cf a))) :
    PE X (.Call (.Name y py) [.Call (.Name z pz) [x] [] zos] [] pos) (T g b wx WR (ev cf (.lrng tp (.rng1 a)))) := PE.by fun σ H Q q' => by
  obtain ⟨F, ρ, fr, st, A, p⟩ := q'
  obtain ⟨k1, k2, k3⟩ := Y.gl hg
  obtain ⟨l1, l2, l3⟩ := Y.gl hgz
  subst hz
  have rg := prg_1 (X := X) (p := pz) (pos := zos) l1 (mem_blt (by simp [bltNames]) Y) hx (noStar_cons hs _)
  cases tp with
  | true =>
    subst hy
    refine ⟨_, pe_tupRg Y.G.calm k1 (mem_blt (by simp [bltNames]) Y) rg (noStar_cons rfl _), ?_⟩
    exact lr1 p A fun s2 F2 ρ2 H2 n A2 ok p2 => ⟨ok, lr_end p2 A2 rfl⟩
  | false =>
    subst hy
    refine ⟨_, pe_listRg Y.G.calm k1 (mem_blt (by simp [bltNames]) Y) rg (noStar_cons rfl _), ?_⟩
    exact lr1 p A fun s2 F2 ρ2 H2 n A2 ok p2 => ⟨ok, lr_end' p2 A2 rfl⟩
theorem e_lrng2 (Y : Cy g wx cf k X c) {tp : Bool} {a b' : E} {x x' : Expr} {y z : Str} {py pz pos zos : Pos} (hy : y = if tp then "tuple" else "list") (hg : glB c y = true) (hz : z = "range") (hgz : glB c z = true) (hs : noStar x = true) (hs' : noStar x' = true) (hx : PE X x (T g b wx DR (ev cf a))) (hx' : PE X x' (T g b wx DR (ev cf b'))) :
    PE X (.Call (.Name y py) [.Call (.Name z pz) [x, x'] [] zos] [] pos) (T g b wx WR (ev cf (.lrng tp (.rng2 a b')))) := PE.by fun σ H Q q' => by
  obtain ⟨F, ρ, fr, st, A, p⟩ := q'
  obtain ⟨k1, k2, k3⟩ := Y.gl hg
  obtain ⟨l1, l2, l3⟩ := Y.gl hgz
  subst hz
  have rg := prg_2 (X := X) (p := pz) (pos := zos) l1 (mem_blt (by simp [bltNames]) Y) hx hx' (noStar_cons hs _) (noStar_cons hs' _) (by rw [backTo_any, noStar_cons hs']; rfl)
  cases tp with
  | true =>
    subst hy
    refine ⟨_, pe_tupRg Y.G.calm k1 (mem_blt (by simp [bltNames]) Y) rg (noStar_cons rfl _), ?_⟩
    exact lr2 p A fun s2 F2 ρ2 H2 m n A2 ok p2 => ⟨ok, lr_end p2 A2 rfl⟩
  | false =>
    subst hy
    refine ⟨_, pe_listRg Y.G.calm k1 (mem_blt (by simp [bltNames]) Y) rg (noStar_cons rfl _), ?_⟩
    exact lr2 p A fun s2 F2 ρ2 H2 m n A2 ok p2 => ⟨ok, lr_end' p2 A2 rfl⟩
end
end MP

set_option Elab.async false
set_option linter.all false
set_option maxRecDepth 100000
set_option maxHeartbeats 8000000
namespace MP
open PySem PySem.Spec L2
section
variable {g : Gb} {b : Bs} {wx : WX} {cf : Nat → List D → Sto → R W} {k : Nat} {X : Cx} {c : Cc} {F F' : Hp} {ρ ρ' : Rho} {σ : L2.St} {H H' : Hp} {fr : Fr} {st st' : Sto} {Q : VK}
/-- a new object of the store: a cell that nobody else holds -/
theorem Ab.newOb (A : Ab g b F ρ σ H fr st) {a : Addr} {o : Ob} (ho : ObR g F (ρ ++ [a]) H o a) (f1 : F a = none) (n1 : a ∉ sh ρ) (h1 : b.H0 a = none) (m1 : ∀ (i : Nat) ys, fr[i]? = some (.mut ys) → σ[i]? ≠ some (some (.ref a))) (q1 : ∀ q ∈ b.P, q.1 ≠ a) : Ab g b F (ρ ++ [a]) σ H fr (st ++ [o]) := by
  have pf : ρ <+: ρ ++ [a] := List.prefix_append _ _
  exact {
    sub := A.sub, ext := A.ext, new := A.new
    rho := by
      obtain ⟨more, e, h⟩ := A.rho
      refine ⟨more ++ [a], by rw [e, List.append_assoc], fun x hx => ?_⟩
      rcases List.mem_append.mp hx with hx | hx
      · exact h x hx
      · rw [List.mem_singleton.mp hx]; exact h1
    keep := A.keep
    fsh := fun n x o' e1 e2 l => by
      by_cases hn : n < st.length
      · have hn' : n < ρ.length := by rw [A.sto.len]; exact hn
        rw [List.getElem?_append_left hn'] at e1
        rw [List.getElem?_append_left hn] at e2
        exact A.fsh n x o' e1 e2 l
      · have hn' : ¬ n < ρ.length := by rw [A.sto.len]; exact hn
        rw [List.getElem?_append_right (Nat.le_of_not_lt hn')] at e1
        have := List.mem_of_getElem? e1
        rw [List.mem_singleton.mp this]; exact f1
    sto := by
      refine ⟨by simp [A.sto.len], fun n o' q e1 e2 => ?_, ?_⟩
      · by_cases hn : n < st.length
        · have hn' : n < ρ.length := by rw [A.sto.len]; exact hn
          rw [List.getElem?_append_left hn] at e1
          rw [List.getElem?_append_left hn'] at e2
          exact (A.sto.at_ n o' q e1 e2).mono (.refl _) pf
        · have hn' : ¬ n < ρ.length := by rw [A.sto.len]; exact hn
          rw [List.getElem?_append_right (Nat.le_of_not_lt hn)] at e1
          rw [List.getElem?_append_right (Nat.le_of_not_lt hn'), A.sto.len] at e2
          cases e : n - st.length with
          | zero =>
            rw [e] at e1 e2
            simp at e1 e2
            subst e1; subst e2
            exact ho
          | succ j => rw [e] at e1; simp at e1
      · exact List.nodup_append.mpr ⟨A.sto.nd, by simp, fun x hx y hy z => by
          subst z
          rw [List.mem_singleton.mp hy] at hx
          exact n1 hx⟩
    len := A.len
    dat := fun i d h => by
      obtain ⟨v, q1, q2⟩ := A.dat i d h
      exact ⟨v, q1, q2.mono (.refl _) pf⟩
    mu := fun i xs h => by
      obtain ⟨a', vs, k1, k2, k3, k4, k5, k6⟩ := A.mu i xs h
      refine ⟨a', vs, k1, k2, k3.mono (.refl _) pf, k4, fun z => ?_, k6⟩
      rcases List.mem_append.mp z with z | z
      · exact k5 z
      · exact m1 i xs h (by rw [← List.mem_singleton.mp z]; exact k1)
    apart := A.apart
    pin := fun q hq => by
      obtain ⟨k1, k2, k3, k4, k5⟩ := A.pin q hq
      refine ⟨k1, k2, fun z => ?_, k4, k5⟩
      rcases List.mem_append.mp z with z | z
      · exact k3 z
      · exact q1 q hq (List.mem_singleton.mp z) }
/-- an object of the store is written -/
theorem Ab.setOb (A : Ab g b F ρ σ H fr st) {n : Nat} {a : Addr} {o o' : Ob} {u : HO} (hs : st[n]? = some o) (hr : ρ[n]? = some a) (l : o.live = true) (ho : ObR g F ρ (upd H a u) o' a) (l' : o'.live = true) : Ab g b F ρ σ (upd H a u) fr (st.set n o') := by
  have fa := A.fsh n a o hr hs l
  have ma : a ∈ sh ρ := List.mem_of_getElem? hr
  have hn : n < st.length := (List.getElem?_eq_some_iff.mp hs).1
  have inj : ∀ {m : Nat}, ρ[m]? = some a → m = n := fun {m} e => by
    have h1 := (List.getElem?_eq_some_iff.mp e)
    have h2 := (List.getElem?_eq_some_iff.mp hr)
    obtain ⟨l1, e1⟩ := h1
    obtain ⟨l2, e2⟩ := h2
    exact (List.getElem_inj A.sto.nd).mp (e1.trans e2.symm)
  exact {
    sub := fun x v e => by
      rw [upd_ne (show x ≠ a from fun z => by subst z; rw [fa] at e; cases e)]
      exact A.sub _ _ e
    ext := A.ext, new := A.new, rho := A.rho
    keep := fun x v e m => by
      have : x ≠ a := fun z => by
        subst z
        obtain ⟨more, er, hm⟩ := A.rho
        rw [er] at ma
        rcases List.mem_append.mp ma with ma | ma
        · exact m ma
        · rw [hm x ma] at e; cases e
      rw [upd_ne this]
      exact A.keep x v e m
    fsh := fun m x o2 e1 e2 l2 => by
      by_cases z : n = m
      · subst z
        rw [hr] at e1; cases e1
        exact fa
      · rw [List.getElem?_set_ne z] at e2
        exact A.fsh m x o2 e1 e2 l2
    sto := by
      refine ⟨by rw [List.length_set]; exact A.sto.len, fun m o2 x e1 e2 => ?_, A.sto.nd⟩
      by_cases z : n = m
      · subst z
        rw [List.getElem?_set_self hn] at e1
        cases e1
        rw [hr] at e2; cases e2
        exact ho
      · rw [List.getElem?_set_ne z] at e1
        exact (A.sto.at_ m o2 x e1 e2).of (upd_ne fun y => z (by subst y; exact (inj e2).symm))
    len := A.len, dat := A.dat
    mu := fun i xs h => by
      obtain ⟨a', vs, k1, k2, k3, k4, k5, k6⟩ := A.mu i xs h
      refine ⟨a', vs, k1, ?_, k3, k4, k5, k6⟩
      rw [upd_ne (show a' ≠ a from fun z => k5 (z ▸ ma))]
      exact k2
    apart := A.apart
    pin := fun q hq => by
      obtain ⟨k1, k2, k3, k4, k5⟩ := A.pin q hq
      refine ⟨?_, k2, k3, k4, k5⟩
      rw [upd_ne (show q.1 ≠ a from fun z => k3 (z ▸ ma))]
      exact k1 }
/-- a list of the store becomes data -/
theorem Ab.meltOb (A : Ab g b F ρ σ H fr st) {n : Nat} {a : Addr} {xs : List D} (hs : st[n]? = some (.lst xs)) (hr : ρ[n]? = some a) : ∃ F', Same F F' ∧ Ab g b F' ρ σ H fr (st.set n .gone) ∧ VR g F' ρ (.lst xs) (.ref a) := by
  obtain ⟨vs, ha, rv⟩ := A.sto.at_ n _ a hs hr
  have fa := A.fsh n a _ hr hs rfl
  have ma : a ∈ sh ρ := List.mem_of_getElem? hr
  have hn : n < st.length := (List.getElem?_eq_some_iff.mp hs).1
  have s : Same F (upd F a (.lst vs)) := same_upd fa
  have inj : ∀ {m : Nat}, ρ[m]? = some a → m = n := fun {m} e => by
    obtain ⟨l1, e1⟩ := (List.getElem?_eq_some_iff.mp e)
    obtain ⟨l2, e2⟩ := (List.getElem?_eq_some_iff.mp hr)
    exact (List.getElem_inj A.sto.nd).mp (e1.trans e2.symm)
  refine ⟨_, s, ?_, .lst upd_same (rv.mono s (pfx _))⟩
  exact {
    sub := fun x v e => by
      by_cases z : x = a
      · subst z; rw [upd_same] at e; cases e; exact ha
      · rw [upd_ne z] at e; exact A.sub _ _ e
    ext := A.ext.trans s
    new := fun x v e => by
      by_cases z : x = a
      · subst z
        obtain ⟨more, er, hm⟩ := A.rho
        rw [er] at ma
        rcases List.mem_append.mp ma with ma | ma
        · exact .inr (.inr ma)
        · exact .inr (.inl (hm _ ma))
      · rw [upd_ne z] at e; exact A.new _ _ e
    rho := A.rho
    keep := A.keep
    fsh := fun m x o2 e1 e2 l2 => by
      by_cases z : n = m
      · subst z
        rw [List.getElem?_set_self hn] at e2
        cases e2; cases l2
      · rw [List.getElem?_set_ne z] at e2
        rw [upd_ne (show x ≠ a from fun y => z (by subst y; exact (inj e1).symm))]
        exact A.fsh m x o2 e1 e2 l2
    sto := by
      refine ⟨by rw [List.length_set]; exact A.sto.len, fun m o2 x e1 e2 => ?_, A.sto.nd⟩
      by_cases z : n = m
      · subst z
        rw [List.getElem?_set_self hn] at e1
        cases e1
        rw [hr] at e2; cases e2
        exact ⟨_, upd_same⟩
      · rw [List.getElem?_set_ne z] at e1
        exact (A.sto.at_ m o2 x e1 e2).mono s (pfx _)
    len := A.len
    dat := fun i d h => by
      obtain ⟨v, q1, q2⟩ := A.dat i d h
      exact ⟨v, q1, q2.mono s (pfx _)⟩
    mu := fun i xs h => by
      obtain ⟨a', vs, k1, k2, k3, k4, k5, k6⟩ := A.mu i xs h
      refine ⟨a', vs, k1, k2, k3.mono s (pfx _), ?_, k5, k6⟩
      rw [upd_ne (show a' ≠ a from fun z => k5 (z ▸ ma))]
      exact k4
    apart := A.apart
    pin := fun q hq => by
      obtain ⟨k1, k2, k3, k4, k5⟩ := A.pin q hq
      refine ⟨k1, ?_, k3, k4, k5⟩
      rw [upd_ne (show q.1 ≠ a from fun z => k3 (z ▸ ma))]
      exact k2 }
theorem valD_ok {x : Str} : ∀ {kvs : List (Str × D)} {vs : List V} {d : D}, VRs g F ρ (kvs.map (·.2)) vs → valD x kvs = some d → ∃ v, valV ((kvs.map fun kv => (Sum.inr kv.1 : Key)).zip vs) (.inr x) = some v ∧ VR g F ρ d v
  | [], _, _, _, e => by cases e
  | (y, e0) :: r, vs, d, h, e => by
    cases h with
    | cons r1 r2 =>
      rename_i v vs
      simp only [valD] at e
      simp only [List.map_cons, List.zip_cons_cons]
      split at e
      · rename_i h1
        cases e
        subst h1
        exact ⟨v, valV_pos rfl, r1⟩
      · rename_i h1
        obtain ⟨v', e1, e2⟩ := valD_ok r2 e
        exact ⟨v', (valV_neg (by simpa using h1)).trans e1, e2⟩
theorem valV_none {x : Str} : ∀ {ks : List Str} {vs : List V}, ks.contains x = false → (((ks.map fun k => (Sum.inr k : Key)).zip vs).any fun kv => decide (kv.1 = Sum.inr x)) = false
  | [], _, _ => rfl
  | y :: r, [], _ => rfl
  | y :: r, v :: vs, h => by
    simp only [List.contains_cons, Bool.or_eq_false_iff] at h
    simp only [List.map_cons, List.zip_cons_cons, List.any_cons]
    rw [valV_none h.2, Bool.or_false, decide_eq_false]
    intro z
    have : x = y := by simpa using z.symm
    subst this
    simp at h
theorem map_id {x : Str} {v : V} : ∀ {ks : List Str} {vs : List V}, ks.contains x = false → ((ks.map fun k => (Sum.inr k : Key)).zip vs).map (fun kv => if kv.1 = Sum.inr x then (kv.1, v) else kv) = (ks.map fun k => (Sum.inr k : Key)).zip vs
  | [], _, _ => rfl
  | y :: r, [], _ => rfl
  | y :: r, u :: vs, h => by
    simp only [List.contains_cons, Bool.or_eq_false_iff] at h
    simp only [List.map_cons, List.zip_cons_cons]
    rw [map_id h.2, if_neg]
    intro z
    have : x = y := by simpa using z.symm
    subst this
    simp at h
theorem putD_any {x : Str} {d : D} : ∀ {kvs q : List (Str × D)} {vs : List V}, VRs g F ρ (kvs.map (·.2)) vs → putD x d kvs = some q → (((kvs.map fun kv => (Sum.inr kv.1 : Key)).zip vs).any fun kv => decide (kv.1 = Sum.inr x)) = true
  | [], _, _, _, e => by cases e
  | (y, e0) :: r, q, vs, h, e => by
    cases h with
    | cons r1 r2 =>
      simp only [putD] at e
      simp only [List.map_cons, List.zip_cons_cons, List.any_cons]
      split at e
      · rename_i h1
        rw [h1]; simp
      · cases e2 : putD x d r with
        | none => rw [e2] at e; cases e
        | some q' => rw [putD_any r2 e2, Bool.or_true]
theorem putD_ok {x : Str} {d : D} {v : V} : ∀ {kvs q : List (Str × D)} {vs : List V}, VRs g F ρ (kvs.map (·.2)) vs → VR g F ρ d v → keysOk (kvs.map (·.1)) = true → putD x d kvs = some q →
    ∃ us, ((kvs.map fun kv => (Sum.inr kv.1 : Key)).zip vs).map (fun kv => if kv.1 = Sum.inr x then (kv.1, v) else kv) = (q.map fun kv => (Sum.inr kv.1 : Key)).zip us ∧ VRs g F ρ (q.map (·.2)) us
  | [], _, _, _, _, _, e => by cases e
  | (y, e0) :: r, q, vs, h, rv, hk, e => by
    cases h with
    | cons r1 r2 =>
      rename_i u vs
      simp only [List.map_cons, keysOk, Bool.and_eq_true, Bool.not_eq_true'] at hk
      simp only [putD] at e
      simp only [List.map_cons, List.zip_cons_cons]
      split at e
      · rename_i h1
        cases e
        subst h1
        refine ⟨v :: vs, ?_, .cons rv r2⟩
        have := map_id (v := v) (vs := vs) hk.1
        simp only [List.map_map] at this
        have e3 : ((fun k => (Sum.inr k : Key)) ∘ fun kv : Str × D => kv.1) = fun kv : Str × D => (Sum.inr kv.1 : Key) := rfl
        rw [e3] at this
        rw [this, if_pos rfl]
        rfl
      · rename_i h1
        cases e2 : putD x d r with
        | none => rw [e2] at e; cases e
        | some q' =>
          rw [e2] at e
          cases e
          obtain ⟨us, z1, z2⟩ := putD_ok r2 rv hk.2 e2
          refine ⟨u :: us, ?_, .cons r1 z2⟩
          rw [z1, if_neg (by simpa using h1)]
          rfl
theorem getF_inv {x : Str} {e d : D} (h : getF x e st = some d) : ∃ n kvs, e = .ref n ∧ st[n]? = some (.dct kvs) ∧ valD x kvs = some d := by
  cases e <;> simp only [getF] at h <;> first | (cases h; done) | skip
  split at h
  · exact ⟨_, _, rfl, by assumption, h⟩
  · cases h
theorem lstF_inv {e : D} {xs : List D} (h : lstF e st = some xs) : ∃ n, e = .ref n ∧ st[n]? = some (.lst xs) := by
  cases e <;> simp only [lstF] at h <;> first | (cases h; done) | skip
  split at h
  · cases h; exact ⟨_, rfl, by assumption⟩
  · cases h
theorem VR.refI {n : Nat} {v : V} (h : VR g F ρ (.ref n) v) : ∃ a, v = .ref a ∧ ρ[n]? = some a := by
  cases h with
  | ref e => exact ⟨_, rfl, e⟩
/-- a store's list stands so -/
theorem Ab.lstAt (A : Ab g b F ρ σ H fr st) {d : D} {xs : List D} {v : V} (h : lstF d st = some xs) (r : VR g F ρ d v) : ∃ n a vs, d = .ref n ∧ v = .ref a ∧ st[n]? = some (.lst xs) ∧ ρ[n]? = some a ∧ H a = some (.lst vs) ∧ VRs g F ρ xs vs := by
  obtain ⟨n, rfl, e⟩ := lstF_inv h
  obtain ⟨a, rfl, er⟩ := r.refI
  obtain ⟨vs, h1, h2⟩ := A.sto.at_ n _ a e er
  exact ⟨n, a, vs, rfl, rfl, e, er, h1, h2⟩
theorem noSl_str {x : Str} {j : Nat} {p : Pos} : NoSl (.Constant (.str x) j p) := fun _ _ => rfl
theorem e_get (Y : Cy g wx cf k X c) {a : E} {x : Str} {a' : Expr} {j : Nat} {p pos : Pos} (ha : PE X a' (T g b wx DR (ev cf a))) : PE X (.Subscript a' (.Constant (.str x) j p) pos) (T g b wx WR (ev cf (.get a x))) := PE.by fun σ H Q q' => by
  obtain ⟨F, ρ, fr, st, A, p⟩ := q'
  simp only [ev] at p
  refine ⟨_, pe_dget (Nat.lt_of_le_of_lt (Nat.add_le_add_left (by decide) _) Y.G.room.units) ha pe_str noSl_str, one p A fun w s1 F1 ρ1 H1 v A1 rv p1 => ?_⟩
  cases e : getF x w.d s1 with
  | none => rw [e] at p1; exact p1.elim
  | some d =>
    rw [e] at p1
    obtain ⟨n, kvs, e1, e2, e3⟩ := getF_inv e
    rw [e1] at rv
    obtain ⟨a0, rfl, er⟩ := rv.refI
    obtain ⟨vs, h1, h2⟩ := A1.sto.at_ n _ a0 e2 er
    obtain ⟨u, h3, h4⟩ := valD_ok h2 e3
    exact ⟨a0, u, rfl, .inl ⟨_, .inr x, .inl h1, rfl, h3.symm⟩, Po.dat (d := d) p1 A1 h4⟩
theorem e_obi (Y : Cy g wx cf k X c) {a i : E} {a' i' : Expr} {pos : Pos} (hs : noSlice i' = true) (ha : PE X a' (T g b wx DR (ev cf a))) (hi : PE X i' (T g b wx DR (ev cf i))) : PE X (.Subscript a' i' pos) (T g b wx WR (ev cf (.obi a i))) := PE.by fun σ H Q q' => by
  obtain ⟨F, ρ, fr, st, A, p⟩ := q'
  simp only [ev] at p
  refine ⟨_, pe_ix ix_list ha hi (plain_ix hs), two p A fun x y s2 F2 ρ2 H2 v u A2 rv ru p2 => ?_⟩
  split at p2
  · rename_i xs i e1 e2
    rw [e2] at ru; cases ru
    obtain ⟨n, a0, vs, _, rfl, h2, h3, h4, h5⟩ := A2.lstAt e1 rv
    cases e : atD xs i with
    | none => rw [e] at p2; exact p2.elim
    | some d =>
      rw [e] at p2
      obtain ⟨z, z1, z2⟩ := atD_ok h5 e
      exact ⟨a0, vs, i, z, rfl, rfl, .inl (.inl h4), z1, Po.dat (d := d) p2 A2 z2⟩
  · exact p2.elim
theorem e_obl (Y : Cy g wx cf k X c) {a : E} {a' : Expr} {f : Str} {pf pos : Pos} (hf : f = "len") (hg : glB c f = true) (hs : noStar a' = true) (ha : PE X a' (T g b wx DR (ev cf a))) : PE X (.Call (.Name f pf) [a'] [] pos) (T g b wx WR (ev cf (.obl a))) := PE.by fun σ H Q q' => by
  obtain ⟨F, ρ, fr, st, A, p⟩ := q'
  obtain ⟨k1, k2, k3⟩ := Y.gl hg
  subst hf
  simp only [ev] at p
  refine ⟨_, pe_callB call_len k1 (mem_blt (by simp [bltNames]) Y) boot_len (pa_cons ha pa_nil (noStar_cons hs _)) k3 k2 (noStar_cons hs _), one p A fun x s2 F2 ρ2 H2 v A2 rv p2 => ?_⟩
  cases e : lstF x.d s2 with
  | none => rw [e] at p2; exact p2.elim
  | some xs =>
    rw [e] at p2
    obtain ⟨n, a0, vs, _, rfl, h2, h3, h4, h5⟩ := A2.lstAt e rv
    exact ⟨_, _, rfl, .inl ⟨vs, .inl (.inl h4), h5.length⟩, Po.dat (d := .int xs.length) p2 A2 (.int _)⟩
theorem eqv_nil (xs : List D) : PyData.eqv (toPy 60 (.lst xs)) (toPy 60 (.lst [])) = xs.isEmpty := by
  cases xs <;> rfl
theorem e_obe (Y : Cy g wx cf k X c) {a : E} {a' : Expr} {p1 pos : Pos} (ha : PE X a' (T g b wx DR (ev cf a))) : PE X (.Compare a' [.NotEq] [.List [] p1] pos) (T g b wx WR (ev cf (.obe a))) := PE.by fun σ H Q q' => by
  obtain ⟨F, ρ, fr, st, A, p⟩ := q'
  simp only [ev] at p
  refine ⟨_, pe_cmpR (op_neD Y.G.room.units) ha (pe_lst pa_nil) (by rfl), one p A fun x s2 F2 ρ2 H2 v A2 rv p2 => ?_⟩
  cases e : lstF x.d s2 with
  | none => rw [e] at p2; exact p2.elim
  | some xs =>
    rw [e] at p2
    simp only at p2
    split at p2
    · rename_i ok
      obtain ⟨n, a0, vs, _, rfl, h2, h3, h4, h5⟩ := A2.lstAt e rv
      refine ⟨by simp, fun q hq => ?_⟩
      have A3 := A2.alloc (.lst []) hq
      have s2 : Same H2 (upd H2 q (.lst [])) := same_upd hq
      have v1 : VR g (upd H2 q (.lst [])) ρ2 (.lst xs) (.ref a0) := .lst (s2 _ _ h4) (h5.mono A3.sub (pfx _))
      have v2 : VR g (upd H2 q (.lst [])) ρ2 (.lst []) (.ref q) := .lst upd_same .nil
      refine ⟨_, _, VR.dp Y.G.hK (.refl _) 60 _ _ ok v1, VR.dp Y.G.hK (.refl _) 60 _ _ rfl v2, ok_shaped ok, ok_shaped rfl, ?_⟩
      rw [eqv_nil]
      exact Po.dat (d := .bl (!xs.isEmpty)) p2 A3 (.bl _)
    · exact p2.elim
theorem t_obe (Y : Cy g wx cf k X c) {a : E} {a' : Expr} {p1 pos : Pos} (ha : PE X a' (T g b wx DR (ev cf a))) : PT X (.Compare a' [.NotEq] [.List [] p1] pos) (T g b wx BR (evB cf (.obe a))) := PT.by fun σ H Q q' => by
  obtain ⟨F, ρ, fr, st, A, p⟩ := q'
  refine ⟨_, pt_cmpR (op_neD Y.G.room.units) ha (pe_lst pa_nil) (by rfl), ?_⟩
  have e : evB cf (.obe a) fr st = (ev cf a fr st).bind fun d s1 => match lstF d.d s1 with
      | some xs => if okD 60 (.lst xs) then .ok (!xs.isEmpty) s1 else .bad
      | none => .bad := by
    simp only [evB, ev]
    cases ev cf a fr st with
    | ok w s =>
      simp only [R.bind]
      cases lstF w.d s with
      | none => rfl
      | some xs =>
        simp only
        cases okD 60 (.lst xs) <;> rfl
    | exc _ _ _ => rfl
    | bad => rfl
  rw [e] at p
  refine one p A fun x s2 F2 ρ2 H2 v A2 rv p2 => ?_
  cases e : lstF x.d s2 with
  | none => rw [e] at p2; exact p2.elim
  | some xs =>
    rw [e] at p2
    simp only at p2
    split at p2
    · rename_i ok
      obtain ⟨n, a0, vs, _, rfl, h2, h3, h4, h5⟩ := A2.lstAt e rv
      refine ⟨by simp, fun q hq => ?_⟩
      have A3 := A2.alloc (.lst []) hq
      have s2 : Same H2 (upd H2 q (.lst [])) := same_upd hq
      have v1 : VR g (upd H2 q (.lst [])) ρ2 (.lst xs) (.ref a0) := .lst (s2 _ _ h4) (h5.mono A3.sub (pfx _))
      have v2 : VR g (upd H2 q (.lst [])) ρ2 (.lst []) (.ref q) := .lst upd_same .nil
      refine ⟨_, _, VR.dp Y.G.hK (.refl _) 60 _ _ ok v1, VR.dp Y.G.hK (.refl _) 60 _ _ rfl v2, ok_shaped ok, ok_shaped rfl, ?_⟩
      rw [eqv_nil]
      exact ⟨_, rfl, p2 F2 ρ2 _ _ (.refl _) (pfx _) A3 rfl⟩
    · exact p2.elim
theorem e_new {a : E} {a' : Expr} (ha : PE X a' (T g b wx WR (ev cf a))) : PE X a' (T g b wx WR (ev cf (.new a))) := PE.by fun σ H Q q' => by
  obtain ⟨F, ρ, fr, st, A, p⟩ := q'
  simp only [ev] at p
  refine ⟨_, ha, F, ρ, fr, st, A, p.seq fun w s1 F1 ρ1 H1 v _ _ _ A1 rv p1 => ?_⟩
  cases w with
  | dat d => exact p1.elim
  | own xs =>
    obtain ⟨a0, vs, rfl, h1, h2, h3, h4, h5, h6, h7⟩ := rv
    have B := A1.newOb (o := .lst xs) ⟨vs, h1, h2.mono (.refl _) (List.prefix_append _ _)⟩ h3 h4 h5 h6 h7
    refine p1 F1 (ρ1 ++ [a0]) H1 (.ref a0) (.refl _) (List.prefix_append _ _) B (VR.ref ?_)
    rw [← A1.sto.len, List.getElem?_append_right (Nat.le_refl _), Nat.sub_self]; rfl
end
end MP

set_option Elab.async false
set_option linter.all false
set_option maxRecDepth 100000
set_option maxHeartbeats 8000000
namespace MP
open PySem PySem.Spec L2
section
variable {g : Gb} {cf : Nat → List D → Sto → R W} {k : Nat}
theorem and4 {a b c d : Bool} : (a && b && c && d) = true ↔ a = true ∧ b = true ∧ c = true ∧ d = true := by simp [and_assoc]
mutual
theorem sE : ∀ (e : E) {wx : WX} {X : Cx} {c : Cc} (b : Bs) (Y : Cy g wx cf k X c) (e' : Expr), mE c e e' = true → PE X e' (T g b wx WR (ev cf e))
  | .var i, _, _, _, b, Y, e', h => by
    simp only [mE] at h
    split at h
    · exact e_var Y h
    · cases h
  | .con d, _, _, _, b, Y, e', h => by
    simp only [mE] at h
    split at h
    · exact e_con h
    · cases h
  | .glo x d, _, _, c, b, Y, e', h => by
    simp only [mE] at h
    split at h
    · simp only [Bool.and_eq_true, decide_eq_true_eq] at h
      obtain ⟨⟨h1, h2⟩, h3⟩ := h
      subst h1
      split at h3
      · rename_i e; exact e_glo Y h2 e h3
      · cases h3
    · cases h
  | .tup es, _, _, _, b, Y, e', h => by
    simp only [mE] at h
    split at h
    · exact e_tup (sA es b Y _ h)
    · cases h
  | .lst es, _, _, _, b, Y, e', h => by
    simp only [mE] at h
    split at h
    · exact e_lst (sA es b Y _ h)
    · cases h
  | .bin o a b', _, _, _, b, Y, e', h => by
    simp only [mE] at h
    split at h
    · simp only [Bool.and_eq_true, decide_eq_true_eq] at h
      obtain ⟨⟨h1, h2⟩, h3⟩ := h
      subst h1
      exact e_bin Y (sE a b Y _ h2).dat (sE b' b Y _ h3).dat
    · cases h
  | .neg a, _, _, _, b, Y, e', h => by
    simp only [mE] at h
    split at h
    · simp only [Bool.and_eq_true, decide_eq_true_eq] at h
      obtain ⟨h1, h2⟩ := h
      subst h1
      exact e_neg (sE a b Y _ h2).dat
    · cases h
  | .cmp o a b', _, _, _, b, Y, e', h => by
    simp only [mE] at h
    split at h
    · simp only [Bool.and_eq_true, decide_eq_true_eq] at h
      obtain ⟨⟨⟨h1, h2⟩, h3⟩, h4⟩ := h
      subst h1
      exact e_cmp Y (sE a b Y _ h3).dat (sE b' b Y _ h4).dat h2
    · cases h
  | .chain o o' a b' d, _, _, _, b, Y, e', h => by
    simp only [mE] at h
    split at h
    · simp only [Bool.and_eq_true, decide_eq_true_eq] at h
      obtain ⟨⟨⟨⟨⟨⟨h1, h2⟩, h3⟩, h4⟩, h5⟩, h6⟩, h7⟩ := h
      subst h1; subst h2
      exact e_chain Y (sE a b Y _ h5).dat (sE b' b Y _ h6).dat (sE d b Y _ h7).dat h3 h4
    · cases h
  | .not a, _, _, _, b, Y, e', h => by
    simp only [mE] at h
    split at h
    · simp only [Bool.and_eq_true, decide_eq_true_eq] at h
      obtain ⟨h1, h2⟩ := h
      subst h1
      exact e_not (sE a b Y _ h2).dat
    · cases h
  | .and a b', _, _, _, b, Y, e', h => by
    simp only [mE] at h
    split at h
    · simp only [Bool.and_eq_true, decide_eq_true_eq] at h
      obtain ⟨⟨h1, h2⟩, h3⟩ := h
      subst h1
      split at h3
      · exact e_and (sE a b Y _ h2).dat (pe_one (sE b' b Y _ h3))
      · exact e_and (sE a b Y _ h2).dat (sE b' b Y _ h3)
    · cases h
  | .or a b', _, _, _, b, Y, e', h => by
    simp only [mE] at h
    split at h
    · simp only [Bool.and_eq_true, decide_eq_true_eq] at h
      obtain ⟨⟨h1, h2⟩, h3⟩ := h
      subst h1
      split at h3
      · exact e_or (sE a b Y _ h2).dat (pe_one (sE b' b Y _ h3))
      · exact e_or (sE a b Y _ h2).dat (sE b' b Y _ h3)
    · cases h
  | .ite t a b', _, _, _, b, Y, e', h => by
    simp only [mE] at h
    split at h
    · simp only [Bool.and_eq_true] at h
      obtain ⟨⟨⟨h0, h1⟩, h2⟩, h3⟩ := h
      exact e_ite (sT t b Y _ h0 h1) (sE a b Y _ h2) (sE b' b Y _ h3)
    · cases h
  | .idx a i, _, _, _, b, Y, e', h => by
    simp only [mE] at h
    split at h
    · simp only [Bool.and_eq_true] at h
      obtain ⟨⟨h1, h2⟩, h3⟩ := h
      exact e_idx Y (sE a b Y _ h2).dat (sE i b Y _ h3).dat h1
    · cases h
  | .idxM m i, _, _, _, b, Y, e', h => by
    simp only [mE] at h
    split at h
    · simp only [Bool.and_eq_true] at h
      obtain ⟨⟨h1, h2⟩, h3⟩ := h
      exact e_idxM Y h2 (sE i b Y _ h3).dat h1
    · cases h
  | .lenM m, _, _, _, b, Y, e', h => by
    simp only [mE] at h
    split at h
    · simp only [Bool.and_eq_true, decide_eq_true_eq] at h
      obtain ⟨⟨h1, h2⟩, h3⟩ := h
      exact e_lenM Y h1 h2 h3
    · cases h
  | .slc a lo hi, _, _, _, b, Y, e', h => by
    simp only [mE] at h
    split at h
    · simp only [Bool.and_eq_true] at h
      obtain ⟨⟨h1, h2⟩, h3⟩ := h
      exact e_slc Y (sE a b Y _ h1).dat (sO lo b Y _ h2) (sO hi b Y _ h3)
    · cases h
  | .rev a, _, _, _, b, Y, e', h => by
    simp only [mE] at h
    split at h
    · simp only [Bool.and_eq_true, decide_eq_true_eq] at h
      obtain ⟨⟨h1, h2⟩, h3⟩ := h
      subst h1; subst h2
      exact e_rev Y (sE a b Y _ h3).dat
    · cases h
  | .call f x es, _, X, c, b, Y, e', h => by
    simp only [mE] at h
    split at h
    · rename_i y py a' as' pos
      simp only [Bool.and_eq_true, decide_eq_true_eq] at h
      obtain ⟨⟨⟨h1, h2⟩, h3⟩, h4⟩ := h
      subst h1
      have h5 : noStar a' = true ∧ (starEach as' X.env).any (·.1) = false := by
        cases es with
        | nil => cases h4
        | cons e0 r =>
          simp only [mA0, Bool.and_eq_true] at h4
          exact ⟨h4.1.1, mA0_plain r as' X.env h4.2⟩
        | star _ _ => cases h4
      exact e_call Y h2 h3 h5.1 h5.2 (sA0 es b Y _ h4)
    · cases h
  | .b1 f a, _, _, _, b, Y, e', h => by
    simp only [mE] at h
    split at h
    · simp only [Bool.and_eq_true, decide_eq_true_eq] at h
      obtain ⟨⟨⟨h1, h2⟩, h3⟩, h4⟩ := h
      exact e_b1 Y h1 h2 h3 (sE a b Y _ h4).dat
    · cases h
  | .b2 f a b', _, _, _, b, Y, e', h => by
    simp only [mE] at h
    split at h
    · simp only [Bool.and_eq_true, decide_eq_true_eq] at h
      obtain ⟨⟨⟨⟨⟨h1, h2⟩, h3⟩, h4⟩, h5⟩, h6⟩ := h
      exact e_b2 Y h1 h2 h3 h4 (sE a b Y _ h5).dat (sE b' b Y _ h6).dat
    · cases h
  | .isi a t, _, _, _, b, Y, e', h => by
    simp only [mE] at h
    split at h
    · simp only [Bool.and_eq_true, decide_eq_true_eq] at h
      obtain ⟨⟨⟨⟨⟨h1, h2⟩, h3⟩, h4⟩, h5⟩, h6⟩ := h
      exact e_isi Y h1 h2 h3 h4 h5 (sE a b Y _ h6).dat
    · cases h
  | .lrng tp (.rng1 a), _, _, _, b, Y, e', h => by
    simp only [mE] at h
    split at h
    · simp only [Bool.and_eq_true, decide_eq_true_eq] at h
      obtain ⟨⟨⟨h1, h2⟩, h3⟩, h4⟩ := h
      simp only [mR] at h4
      split at h4
      · simp only [Bool.and_eq_true, decide_eq_true_eq] at h4
        obtain ⟨⟨⟨k1, k2⟩, k3⟩, k4⟩ := h4
        exact e_lrng1 Y h1 h2 k1 k2 k3 (sE a b Y _ k4).dat
      · cases h4
    · cases h
  | .lrng tp (.rng2 a b'), _, _, _, b, Y, e', h => by
    simp only [mE] at h
    split at h
    · simp only [Bool.and_eq_true, decide_eq_true_eq] at h
      obtain ⟨⟨⟨h1, h2⟩, h3⟩, h4⟩ := h
      simp only [mR] at h4
      split at h4
      · simp only [Bool.and_eq_true, decide_eq_true_eq] at h4
        obtain ⟨⟨⟨⟨⟨k1, k2⟩, k3⟩, k4⟩, k5⟩, k6⟩ := h4
        exact e_lrng2 Y h1 h2 k1 k2 k3 k4 (sE a b Y _ k5).dat (sE b' b Y _ k6).dat
      · cases h4
    · cases h
  | .lrng tp (.seq _), _, _, _, b, Y, e', h => by
    simp only [mE, mR, Bool.and_false] at h
    split at h <;> cases h
  | .lrng tp (.mut _), _, _, _, b, Y, e', h => by
    simp only [mE, mR, Bool.and_false] at h
    split at h <;> cases h
  | .lrng tp (.zip _ _), _, _, _, b, Y, e', h => by
    simp only [mE, mR, Bool.and_false] at h
    split at h <;> cases h
  | .lrng tp (.enum _), _, _, _, b, Y, e', h => by
    simp only [mE, mR, Bool.and_false] at h
    split at h <;> cases h
  | .comp elt G own it cd, _, X, c, b, Y, e', h => by
    simp only [mE] at h
    split at h
    · rename_i elt' tg iter ifs z scope pos
      simp only [Bool.and_eq_true, decide_eq_true_eq, List.all_eq_true, Bool.not_eq_true', List.contains_iff_mem] at h
      obtain ⟨⟨⟨⟨⟨⟨⟨⟨h1, ha⟩, hb⟩, h2⟩, h3⟩, h4⟩, h5⟩, h6⟩, h7⟩ := h
      subst h1
      have hk := (blkOk_by h2).kind
      exact e_comp Y h2 h3 ha (sI it b Y tg iter h4) (fun s H C cl fp b' => g_ok (Y.block hk s H C cl fp) G tg h5) (fun s H C cl fp b' => sC cd b' (Y.block hk s H C cl fp) ifs h6) (fun s H C cl fp b' => (sE elt b' (Y.block hk s H C cl fp) elt' h7).dat)
    · cases h
  | .get a x, _, _, _, b, Y, e', h => by
    simp only [mE] at h
    split at h
    · simp only [Bool.and_eq_true, decide_eq_true_eq] at h
      obtain ⟨h1, h2⟩ := h
      subst h1
      exact e_get Y (sE a b Y _ h2).dat
    · cases h
  | .obi a i, _, _, _, b, Y, e', h => by
    simp only [mE] at h
    split at h
    · simp only [Bool.and_eq_true] at h
      obtain ⟨⟨h1, h2⟩, h3⟩ := h
      exact e_obi Y h1 (sE a b Y _ h2).dat (sE i b Y _ h3).dat
    · cases h
  | .obl a, _, _, _, b, Y, e', h => by
    simp only [mE] at h
    split at h
    · simp only [Bool.and_eq_true, decide_eq_true_eq] at h
      obtain ⟨⟨⟨h1, h2⟩, h3⟩, h4⟩ := h
      exact e_obl Y h1 h2 h3 (sE a b Y _ h4).dat
    · cases h
  | .obe a, _, _, _, b, Y, e', h => by
    simp only [mE] at h
    split at h
    · simp only [Bool.and_eq_true, decide_eq_true_eq] at h
      obtain ⟨h1, h2⟩ := h
      subst h1
      exact e_obe Y (sE a b Y _ h2).dat
    · cases h
  | .new a, _, _, _, b, Y, e', h => e_new (sE a b Y e' (by simp only [mE, Bool.and_eq_true] at h; exact h.2))
theorem sT : ∀ (e : E) {wx : WX} {X : Cx} {c : Cc} (b : Bs) (Y : Cy g wx cf k X c) (e' : Expr), okT e = true → mE c e e' = true → PT X e' (T g b wx BR (evB cf e))
  | .not a, _, _, _, b, Y, e', o, h => by
    simp only [mE] at h
    split at h
    · simp only [Bool.and_eq_true, decide_eq_true_eq] at h
      obtain ⟨h1, h2⟩ := h
      subst h1
      exact t_not (sT a b Y _ o h2)
    · cases h
  | .cmp o a b', _, _, _, b, Y, e', _, h => by
    simp only [mE] at h
    split at h
    · simp only [Bool.and_eq_true, decide_eq_true_eq] at h
      obtain ⟨⟨⟨h1, h2⟩, h3⟩, h4⟩ := h
      subst h1
      exact t_cmp Y (sE a b Y _ h3).dat (sE b' b Y _ h4).dat h2
    · cases h
  | .chain o o' a b' d, _, _, _, b, Y, e', _, h => by
    simp only [mE] at h
    split at h
    · simp only [Bool.and_eq_true, decide_eq_true_eq] at h
      obtain ⟨⟨⟨⟨⟨⟨h1, h2⟩, h3⟩, h4⟩, h5⟩, h6⟩, h7⟩ := h
      subst h1; subst h2
      exact t_chain Y (sE a b Y _ h5).dat (sE b' b Y _ h6).dat (sE d b Y _ h7).dat h3 h4
    · cases h
  | .and a b', _, _, _, b, Y, e', o, h => by
    simp only [okT, Bool.and_eq_true] at o
    simp only [mE] at h
    split at h
    · simp only [Bool.and_eq_true, decide_eq_true_eq] at h
      obtain ⟨⟨h1, h2⟩, h3⟩ := h
      subst h1
      split at h3
      · exact (w_and (sT a b Y _ o.1 h2) (pw_and1 (sT b' b Y _ o.2 h3))).pt
      · exact (w_and (sT a b Y _ o.1 h2) (sW b' b Y _ _ _ o.2 h3)).pt
    · cases h
  | .or a b', _, _, _, b, Y, e', o, h => by
    simp only [okT, Bool.and_eq_true] at o
    simp only [mE] at h
    split at h
    · simp only [Bool.and_eq_true, decide_eq_true_eq] at h
      obtain ⟨⟨h1, h2⟩, h3⟩ := h
      subst h1
      split at h3
      · exact (w_or (sT a b Y _ o.1 h2) (pw_or1 (sT b' b Y _ o.2 h3))).pt
      · exact (w_or (sT a b Y _ o.1 h2) (sW b' b Y _ _ _ o.2 h3)).pt
    · cases h
  | .ite _ _ _, _, _, _, _, _, _, o, _ => by cases o
  | .var i, _, _, _, b, Y, e', _, h => by
    simp only [mE] at h
    split at h
    · exact t_other (e_var Y h).dat (by intros; simp) (by intros; simp) (by intros; simp) (by intros; simp)
    · cases h
  | .con d, _, _, _, b, Y, e', _, h => by
    simp only [mE] at h
    split at h
    · exact t_other (e_con h).dat (by intros; simp) (by intros; simp) (by intros; simp) (by intros; simp)
    · cases h
  | .glo x d, _, _, _, b, Y, e', _, h => by
    have p := (sE (.glo x d) b Y e' h).dat
    simp only [mE] at h
    split at h
    · exact t_other p (by intros; simp) (by intros; simp) (by intros; simp) (by intros; simp)
    · cases h
  | .tup es, _, _, _, b, Y, e', _, h => by
    simp only [mE] at h
    split at h
    · exact t_other (e_tup (sA es b Y _ h)).dat (by intros; simp) (by intros; simp) (by intros; simp) (by intros; simp)
    · cases h
  | .lst es, _, _, _, b, Y, e', _, h => by
    simp only [mE] at h
    split at h
    · exact t_other (e_lst (sA es b Y _ h)).dat (by intros; simp) (by intros; simp) (by intros; simp) (by intros; simp)
    · cases h
  | .bin o a b', _, _, _, b, Y, e', _, h => by
    have p := (sE (.bin o a b') b Y e' h).dat
    simp only [mE] at h
    split at h
    · exact t_other p (by intros; simp) (by intros; simp) (by intros; simp) (by intros; simp)
    · cases h
  | .neg a, _, X, _, b, Y, e', _, h => by
    have p := (sE (.neg a) b Y e' h).dat
    simp only [mE] at h
    split at h
    · simp only [Bool.and_eq_true, decide_eq_true_eq] at h
      obtain ⟨h1, h2⟩ := h
      subst h1
      exact t_val p fun whole => rfl
    · cases h
  | .idx a i, _, _, _, b, Y, e', _, h => by
    have p := (sE (.idx a i) b Y e' h).dat
    simp only [mE] at h
    split at h
    · exact t_other p (by intros; simp) (by intros; simp) (by intros; simp) (by intros; simp)
    · cases h
  | .idxM m i, _, _, _, b, Y, e', _, h => by
    have p := (sE (.idxM m i) b Y e' h).dat
    simp only [mE] at h
    split at h
    · exact t_other p (by intros; simp) (by intros; simp) (by intros; simp) (by intros; simp)
    · cases h
  | .lenM m, _, _, _, b, Y, e', _, h => by
    have p := (sE (.lenM m) b Y e' h).dat
    simp only [mE] at h
    split at h
    · exact t_other p (by intros; simp) (by intros; simp) (by intros; simp) (by intros; simp)
    · cases h
  | .slc a lo hi, _, _, _, b, Y, e', _, h => by
    have p := (sE (.slc a lo hi) b Y e' h).dat
    simp only [mE] at h
    split at h
    · exact t_other p (by intros; simp) (by intros; simp) (by intros; simp) (by intros; simp)
    · cases h
  | .rev a, _, _, _, b, Y, e', _, h => by
    have p := (sE (.rev a) b Y e' h).dat
    simp only [mE] at h
    split at h
    · exact t_other p (by intros; simp) (by intros; simp) (by intros; simp) (by intros; simp)
    · cases h
  | .call f x es, _, _, _, b, Y, e', _, h => by
    have p := (sE (.call f x es) b Y e' h).dat
    simp only [mE] at h
    split at h
    · exact t_other p (by intros; simp) (by intros; simp) (by intros; simp) (by intros; simp)
    · cases h
  | .b1 f a, _, _, _, b, Y, e', _, h => by
    have p := (sE (.b1 f a) b Y e' h).dat
    simp only [mE] at h
    split at h
    · exact t_other p (by intros; simp) (by intros; simp) (by intros; simp) (by intros; simp)
    · cases h
  | .b2 f a b', _, _, _, b, Y, e', _, h => by
    have p := (sE (.b2 f a b') b Y e' h).dat
    simp only [mE] at h
    split at h
    · exact t_other p (by intros; simp) (by intros; simp) (by intros; simp) (by intros; simp)
    · cases h
  | .isi a t, _, _, _, b, Y, e', _, h => by
    have p := (sE (.isi a t) b Y e' h).dat
    simp only [mE] at h
    split at h
    · exact t_other p (by intros; simp) (by intros; simp) (by intros; simp) (by intros; simp)
    · cases h
  | .lrng tp it, _, _, _, b, Y, e', _, h => by
    have p := (sE (.lrng tp it) b Y e' h).dat
    simp only [mE] at h
    split at h
    · exact t_other p (by intros; simp) (by intros; simp) (by intros; simp) (by intros; simp)
    · cases h
  | .comp elt G own it cd, _, _, _, b, Y, e', _, h => by
    have p := (sE (.comp elt G own it cd) b Y e' h).dat
    simp only [mE] at h
    split at h
    · exact t_other p (by intros; simp) (by intros; simp) (by intros; simp) (by intros; simp)
    · cases h
  | .get a x, _, _, _, b, Y, e', _, h => by
    have p := (sE (.get a x) b Y e' h).dat
    simp only [mE] at h
    split at h
    · exact t_other p (by intros; simp) (by intros; simp) (by intros; simp) (by intros; simp)
    · cases h
  | .obi a i, _, _, _, b, Y, e', _, h => by
    have p := (sE (.obi a i) b Y e' h).dat
    simp only [mE] at h
    split at h
    · exact t_other p (by intros; simp) (by intros; simp) (by intros; simp) (by intros; simp)
    · cases h
  | .obl a, _, _, _, b, Y, e', _, h => by
    have p := (sE (.obl a) b Y e' h).dat
    simp only [mE] at h
    split at h
    · exact t_other p (by intros; simp) (by intros; simp) (by intros; simp) (by intros; simp)
    · cases h
  | .obe a, _, _, _, b, Y, e', _, h => by
    simp only [mE] at h
    split at h
    · simp only [Bool.and_eq_true, decide_eq_true_eq] at h
      obtain ⟨h1, h2⟩ := h
      subst h1
      exact t_obe Y (sE a b Y _ h2).dat
    · cases h
  | .new a, _, _, _, b, Y, e', o, h => by cases o
theorem sW : ∀ (e : E) {wx : WX} {X : Cx} {c : Cc} (b : Bs) (Y : Cy g wx cf k X c) (o' : BoolOp) (vs : List Expr) (pos : Pos), okT e = true → mE c e (.BoolOp o' vs pos) = true → PW X (.BoolOp o' vs pos) (T g b wx BR (evB cf e))
  | .and a b', _, _, _, b, Y, o', vs, pos, o, h => by
    simp only [okT, Bool.and_eq_true] at o
    simp only [mE] at h
    split at h
    · rename_i q
      cases q
      simp only [Bool.and_eq_true, decide_eq_true_eq] at h
      obtain ⟨⟨h1, h2⟩, h3⟩ := h
      subst h1
      split at h3
      · exact w_and (sT a b Y _ o.1 h2) (pw_and1 (sT b' b Y _ o.2 h3))
      · exact w_and (sT a b Y _ o.1 h2) (sW b' b Y _ _ _ o.2 h3)
    · cases h
  | .or a b', _, _, _, b, Y, o', vs, pos, o, h => by
    simp only [okT, Bool.and_eq_true] at o
    simp only [mE] at h
    split at h
    · rename_i q
      cases q
      simp only [Bool.and_eq_true, decide_eq_true_eq] at h
      obtain ⟨⟨h1, h2⟩, h3⟩ := h
      subst h1
      split at h3
      · exact w_or (sT a b Y _ o.1 h2) (pw_or1 (sT b' b Y _ o.2 h3))
      · exact w_or (sT a b Y _ o.1 h2) (sW b' b Y _ _ _ o.2 h3)
    · cases h
  | .ite _ _ _, _, _, _, _, _, _, _, _, o, _ => by cases o
  | .var i, _, _, _, b, Y, o', vs, pos, _, h => by simp [mE] at h
  | .con d, _, _, _, b, Y, o', vs, pos, _, h => by simp [mE] at h
  | .glo x d, _, _, _, b, Y, o', vs, pos, _, h => by simp [mE] at h
  | .tup es, _, _, _, b, Y, o', vs, pos, _, h => by simp [mE] at h
  | .lst es, _, _, _, b, Y, o', vs, pos, _, h => by simp [mE] at h
  | .bin o a b', _, _, _, b, Y, o', vs, pos, _, h => by simp [mE] at h
  | .neg a, _, _, _, b, Y, o', vs, pos, _, h => by simp [mE] at h
  | .cmp o a b', _, _, _, b, Y, o', vs, pos, _, h => by simp [mE] at h
  | .chain o o2 a b' d, _, _, _, b, Y, o', vs, pos, _, h => by simp [mE] at h
  | .not a, _, _, _, b, Y, o', vs, pos, _, h => by simp [mE] at h
  | .idx a i, _, _, _, b, Y, o', vs, pos, _, h => by simp [mE] at h
  | .idxM m i, _, _, _, b, Y, o', vs, pos, _, h => by simp [mE] at h
  | .lenM m, _, _, _, b, Y, o', vs, pos, _, h => by simp [mE] at h
  | .slc a lo hi, _, _, _, b, Y, o', vs, pos, _, h => by simp [mE] at h
  | .rev a, _, _, _, b, Y, o', vs, pos, _, h => by simp [mE] at h
  | .call f x es, _, _, _, b, Y, o', vs, pos, _, h => by simp [mE] at h
  | .b1 f a, _, _, _, b, Y, o', vs, pos, _, h => by simp [mE] at h
  | .b2 f a b', _, _, _, b, Y, o', vs, pos, _, h => by simp [mE] at h
  | .isi a t, _, _, _, b, Y, o', vs, pos, _, h => by simp [mE] at h
  | .lrng tp it, _, _, _, b, Y, o', vs, pos, _, h => by simp [mE] at h
  | .comp elt G own it cd, _, _, _, b, Y, o', vs, pos, _, h => by simp [mE] at h
  | .get a x, _, _, _, b, Y, o', vs, pos, _, h => by simp [mE] at h
  | .obi a i, _, _, _, b, Y, o', vs, pos, _, h => by simp [mE] at h
  | .obl a, _, _, _, b, Y, o', vs, pos, _, h => by simp [mE] at h
  | .obe a, _, _, _, b, Y, o', vs, pos, _, h => by simp [mE] at h
  | .new a, _, _, _, b, Y, o', vs, pos, o, h => by cases o
theorem sA : ∀ (a : A) {wx : WX} {X : Cx} {c : Cc} (b : Bs) (Y : Cy g wx cf k X c) (es : List Expr), mA c a es = true → PA X es (T g b wx LR (evA cf a))
  | .nil, _, _, _, b, Y, es, h => by
    simp only [mA] at h
    split at h
    · exact a_nil
    · cases h
  | .cons e r, _, _, _, b, Y, es, h => by
    simp only [mA] at h
    split at h
    · simp only [Bool.and_eq_true] at h
      obtain ⟨⟨h1, h2⟩, h3⟩ := h
      exact a_cons h1 (sE e b Y _ h2).dat (sA r b Y _ h3)
    · cases h
  | .star e r, _, _, _, b, Y, es, h => by
    simp only [mA] at h
    split at h
    · simp only [Bool.and_eq_true] at h
      exact a_star Y (sE e b Y _ h.1).dat (sA r b Y _ h.2)
    · cases h
theorem sA0 : ∀ (a : A) {wx : WX} {X : Cx} {c : Cc} (b : Bs) (Y : Cy g wx cf k X c) (es : List Expr), mA0 c a es = true → PA X es (T g b wx LR (evA cf a))
  | .nil, _, _, _, b, Y, es, h => by
    simp only [mA0] at h
    split at h
    · exact a_nil
    · cases h
  | .cons e r, _, _, _, b, Y, es, h => by
    simp only [mA0] at h
    split at h
    · simp only [Bool.and_eq_true] at h
      obtain ⟨⟨h1, h2⟩, h3⟩ := h
      exact a_cons h1 (sE e b Y _ h2).dat (sA0 r b Y _ h3)
    · cases h
  | .star e r, _, _, _, b, Y, es, h => by cases h
theorem sO : ∀ (a : O) {wx : WX} {X : Cx} {c : Cc} (b : Bs) (Y : Cy g wx cf k X c) (o : Option Expr), mO c a o = true → PO X o (T g b wx IR (evO cf a))
  | .none, _, _, _, b, Y, o, h => by
    simp only [mO] at h
    split at h
    · exact o_none
    · cases h
  | .some e, _, _, _, b, Y, o, h => by
    simp only [mO] at h
    split at h
    · exact o_some (sE e b Y _ h).dat
    · cases h
theorem sI : ∀ (it : It) {wx : WX} {X : Cx} {c : Cc} (b : Bs) (Y : Cy g wx cf k X c) (tg e' : Expr), mI c it tg e' = true → PI X tg e' (TW g b wx (evI cf it) (keepOf it))
  | .seq e, _, _, _, b, Y, tg, e', h => by
    simp only [mI] at h
    exact i_seq Y (sE e b Y _ h).dat
  | .mut i, _, _, _, b, Y, tg, e', h => by
    simp only [mI] at h
    split at h
    · exact i_mut Y h
    · cases h
  | .rng1 a, _, _, _, b, Y, tg, e', h => by
    simp only [mI] at h
    split at h
    · simp only [Bool.and_eq_true, decide_eq_true_eq] at h
      obtain ⟨⟨⟨h1, h2⟩, h3⟩, h4⟩ := h
      exact i_rng1 Y h1 h2 h3 (sE a b Y _ h4).dat
    · cases h
  | .rng2 a b', _, _, _, b, Y, tg, e', h => by
    simp only [mI] at h
    split at h
    · simp only [Bool.and_eq_true, decide_eq_true_eq] at h
      obtain ⟨⟨⟨⟨⟨h1, h2⟩, h3⟩, h4⟩, h5⟩, h6⟩ := h
      exact i_rng2 Y h1 h2 h3 h4 (sE a b Y _ h5).dat (sE b' b Y _ h6).dat
    · cases h
  | .zip a b', _, _, _, b, Y, tg, e', h => by
    simp only [mI] at h
    split at h
    · simp only [Bool.and_eq_true, decide_eq_true_eq] at h
      obtain ⟨⟨⟨⟨⟨⟨h0, h1⟩, h2⟩, h3⟩, h4⟩, h5⟩, h6⟩ := h
      exact i_zip Y h0 h1 h2 h3 h4 (sE a b Y _ h5).dat (sE b' b Y _ h6).dat
    · cases h
  | .enum a, _, _, _, b, Y, tg, e', h => by
    simp only [mI] at h
    split at h
    · simp only [Bool.and_eq_true, decide_eq_true_eq] at h
      obtain ⟨⟨⟨⟨h0, h1⟩, h2⟩, h3⟩, h4⟩ := h
      exact i_enum Y h0 h1 h2 h3 (sE a b Y _ h4).dat
    · cases h
theorem sC : ∀ (cd : C) {wx : WX} {X : Cx} {c : Cc} (b : Bs) (Y : Cy g wx cf k X c) (es : List Expr), mC c cd es = true → PTs X es (T g b wx BR (evC cf cd))
  | .yes, _, _, _, b, Y, es, h => by
    simp only [mC] at h
    split at h
    · exact ⟨fun pins s σ H Q I q => pts_nil.run pins s σ H Q I (by
        obtain ⟨F, ρ, fr, st, A, p⟩ := q
        exact p F ρ H true (.refl _) (pfx _) A rfl)⟩
    · cases h
  | .one e, _, _, _, b, Y, es, h => by
    simp only [mC] at h
    split at h
    · simp only [Bool.and_eq_true] at h
      have p := pts_one (sT e b Y _ h.1 h.2)
      exact ⟨fun pins s σ H Q I q => p.run pins s σ H Q I q⟩
    · cases h
end
end
end MP

set_option Elab.async false
set_option linter.all false
set_option maxRecDepth 100000
set_option maxHeartbeats 8000000
namespace MP
open PySem PySem.Spec L2

/-! ### statements and their texts -/
def notTT : Expr → Expr → Bool
  | .Tuple _ _ _, .Tuple _ _ _ => false
  | .List _ _, .Tuple _ _ _ => false
  | _, _ => true
/-- a comprehension given to a name: how it is stored -/
def swapC (sc : Scope) : Expr → Expr → Option Bool
  | .Name t tp, .ListComp _ _ scope pos => some (sc.names.lookup t == some .local && tp.line == pos.line && !(scope.names.any fun (n, k) => n == t && (k == .local || k == .cell)))
  | _, .ListComp _ _ _ _ => some false
  | _, .SetComp _ _ _ _ => none
  | _, .DictComp _ _ _ _ _ => none
  | _, _ => some false
def noComp : Expr → Bool
  | .ListComp _ _ _ _ => false
  | .SetComp _ _ _ _ => false
  | .DictComp _ _ _ _ _ => false
  | _ => true
def swCls (sc : Scope) (ts vs : List Expr) : Option (Option (List Str)) :=
  if (!(ts.length == 2 || ts.length == 3) || vs.length != ts.length) = true then some none else
  if (vs.any fun | .Starred .. => true | _ => false) = true then some none else
  let line := (ts.head?.map (·.pos.line)).getD 0
  let names := ts.filterMap fun
    | .Name id pos => if (sc.names.lookup id == some .local && pos.line == line) = true then some id else none
    | _ => none
  if (names.length != ts.length || names.eraseDups.length != names.length) = true then some none else
  if vs.all (foldedForSure 8) = true then some none else
  if vs.all (constantsAlone 8) = true then none else some (some names)
def asgOk (sc : Scope) : Expr → Expr → Bool
  | .Tuple ts _ _, .Tuple vs _ _ => decide (swCls sc ts vs = some none)
  | .List _ _, _ => false
  | _, _ => true
def isMutI : It → Bool
  | .mut _ => true
  | _ => false
/-- the names of several targets -/
def parB (c : Cc) : List (Bool × Nat) → List Expr → Bool
  | [], [] => true
  | (_, i) :: r, .Name x _ :: es => decide (c.N[i]? = some x) && decide (c.sc.names.lookup x = some .local) && parB c r es
  | _, _ => false
def namesOf : List Expr → List Str
  | [] => []
  | .Name x _ :: r => x :: namesOf r
  | _ :: r => namesOf r
mutual
def mS (c : Cc) : S → Stmt → Bool
  | .asg G e, s => match s with
    | .Assign [tg] v _ => mG c G tg && mE c e v && asgOk c.sc tg v && noStar tg && (match swapC c.sc tg v with | some _ => true | none => false)
    | _ => false
  | .own i e, s => match s with
    | .Assign [.Name x p] v _ => locB c i x && mE c e v && (match swapC c.sc (.Name x p) v with | some _ => true | none => false)
    | _ => false
  | .par gs es, s => match s with
    | .Assign [.Tuple ts _ _] (.Tuple vs _ _) _ => decide (swCls c.sc ts vs = some (some (namesOf ts))) && parB c gs ts && mA0 c es vs && decide ((gs.map (·.2)).Nodup) && decide (gs.length = vs.length)
    | _ => false
  | .setm i q e, s => match s with
    | .Assign [.Subscript (.Name x _) q' _] v _ => visB c i x && noSlice q' && noComp v && mE c q q' && mE c e v
    | _ => false
  | .augm i o q e, s => match s with
    | .AugAssign (.Subscript (.Name x _) q' _) o' v _ => visB c i x && noSlice q' && decide (o' = opOf o) && mE c q q' && mE c e v
    | _ => false
  | .appm i e, s => match s with
    | .Expr (.Call (.Attribute (.Name x _) m ap) [v] [] cp) _ => visB c i x && decide (m = "append") && (ap.endLine == cp.line) && noStar v && mE c e v
    | _ => false
  | .extm i e, s => match s with
    | .Expr (.Call (.Attribute (.Name x _) m ap) [v] [] cp) _ => visB c i x && decide (m = "extend") && (ap.endLine == cp.line) && noStar v && mE c e v
    | _ => false
  | .ife t a b, s => match s with
    | .If t' a' b' _ => okT t && mE c t t' && mSs c a a' && mSs c b b'
    | _ => false
  | .for_ G it b, s => match s with
    | .For tg iter b' [] _ => !isMutI it && noSet iter && mI c it tg iter && mG c G tg && mSs c b b'
    | _ => false
  | .whl t b, s => match s with
    | .While t' b' [] _ => okT t && mE c t t' && mSs c b b'
    | _ => false
  | .ret e, s => match s with
    | .Return (some e') _ => mE c e e'
    | _ => false
  | .exp e, s => match s with
    | .Expr e' _ => noComp e' && mE c e e'
    | _ => false
  | .mk a b d, s => match s with
    | .Return (some (.Dict [some (.Constant (.str x) _ _), some (.Constant (.str y) _ _), some (.Constant (.str z) _ _)] [a', b', d'] _)) _ => decide (x = "mixed") && decide (y = "great") && decide (z = "turn") && mE c a a' && mE c b b' && mE c d d'
    | _ => false
  | .put a x e, s => match s with
    | .Assign [.Subscript a' (.Constant (.str y) _ _) _] v _ => decide (x = y) && noComp v && mE c a a' && mE c e v
    | _ => false
  | .obs a i e, s => match s with
    | .Assign [.Subscript a' i' _] v _ => noSlice i' && noComp v && mE c a a' && mE c i i' && mE c e v
    | _ => false
  | .ppar a x i e1 e2, s => match s with
    | .Assign [.Tuple [.Subscript a' (.Constant (.str y) j p1) p2, .Name z p3] _ _] (.Tuple [v1, v2] _ _) _ => decide (x = y) && decide (swCls c.sc [.Subscript a' (.Constant (.str y) j p1) p2, .Name z p3] [v1, v2] = some none) && noStar v1 && noStar v2 && locB c i z && mE c a a' && mE c e1 v1 && mE c e2 v2
    | _ => false
  | .dead, _ => true
def mSs (c : Cc) : Ss → List Stmt → Bool
  | .nil, ss => match ss with
    | [] => true
    | _ => false
  | .cons s r, ss => match ss with
    | s' :: r' => mS c s s' && mSs c r r'
    | _ => false
  | .frz _ r, ss => mSs c r ss
  | .melt _ r, ss => mSs c r ss
end

/-! ### their readings -/
def PoS (g : Gb) (b : Bs) (wx : WX) (o : Out) (F : Hp) (ρ : Rho) (Dn : Ends) : Prop := match o with
  | .nx fr st => ∀ F' ρ' σ' H', Same F F' → ρ <+: ρ' → Ab g b F' ρ' σ' H' fr st → Dn.nx σ' H'
  | .rt w st => ∀ F' ρ' H' v, Same F F' → ρ <+: ρ' → Ab g b F' ρ' [] H' [] st → WR g b F' ρ' H' [] [] w v → Dn.rt v H'
  | .exc c p fr st => ∀ F' ρ' σ' H' cls d, Same F F' → ρ <+: ρ' → Ab g b F' ρ' σ' H' fr st → XR g F' ρ' H' c p cls d → wx cls d σ' H'
  | .bad => False
def TX (g : Gb) (b : Bs) (wx : WX) (f : Fr → Sto → Out) : TS := fun Dn σ H => ∃ F ρ fr st, Ab g b F ρ σ H fr st ∧ PoS g b wx (f fr st) F ρ Dn
section
variable {g : Gb} {b : Bs} {wx : WX} {cf : Nat → List D → Sto → R W} {k : Nat} {X : Cx} {c : Cc} {F F' : Hp} {ρ ρ' : Rho} {σ : L2.St} {H H' : Hp} {fr : Fr} {st st' : Sto} {Q : VK} {Dn : Ends}
theorem PoS.mono {o : Out} (h : PoS g b wx o F ρ Dn) (e : Same F F') (q : ρ <+: ρ') : PoS g b wx o F' ρ' Dn := by
  cases o with
  | nx fr st => exact fun F2 ρ2 σ2 H2 s p => h F2 ρ2 σ2 H2 (e.trans s) (q.trans p)
  | rt w st => exact fun F2 ρ2 H2 v s p => h F2 ρ2 H2 v (e.trans s) (q.trans p)
  | exc c p fr st => exact fun F2 ρ2 σ2 H2 cls d s p => h F2 ρ2 σ2 H2 cls d (e.trans s) (q.trans p)
  | bad => exact h
/-- an expression, then the rest -/
theorem PoS.out {α β : Type} {Rl : Rel α β} {r : R α} {f : α → Sto → Out} {Q : β → Hp → Prop} (h : PoS g b wx (r.out fr f) F ρ Dn)
    (hk : ∀ a s1 F1 ρ1 H1 v, r = .ok a s1 → Same F F1 → ρ <+: ρ1 → Ab g b F1 ρ1 σ H1 fr s1 → Rl g b F1 ρ1 H1 σ fr a v → PoS g b wx (f a s1) F1 ρ1 Dn → Q v H1) : Po g b wx Rl r F ρ σ fr Q := by
  cases r with
  | ok a st => exact fun F2 ρ2 H2 v s p A rl => hk a st F2 ρ2 H2 v rfl s p A rl (PoS.mono (o := f a st) h s p)
  | exc c p st => exact fun F2 ρ2 H2 cls d s p A x => h F2 ρ2 σ H2 cls d s p A x
  | bad => exact h.elim
/-- the frame forgotten -/
theorem Ab.bare (A : Ab g b F ρ σ H fr st) : Ab g b F ρ [] H [] st :=
  ⟨A.sub, A.ext, A.new, A.rho, A.keep, A.fsh, A.sto, rfl, fun i d h => by simp at h, fun i d h => by simp at h, fun i j a xs ys h => by simp at h, fun q hq => by
    obtain ⟨h1, h2, h3, h4, h5⟩ := A.pin q hq
    exact ⟨h1, h2, h3, h4, fun i ys e => by simp at e⟩⟩
theorem WR.bare {w : W} {v : V} (h : WR g b F ρ H σ fr w v) : WR g b F ρ H [] [] w v := by
  cases w with
  | dat d => exact h
  | own xs =>
    obtain ⟨a, vs, e, h1, h2, h3, h4, h5, h6, h7⟩ := h
    exact ⟨a, vs, e, h1, h2, h3, h4, h5, fun i ys e => by simp at e, h7⟩
/-- a new owned list in a slot -/
theorem Ab.setOwn (A : Ab g b F ρ σ H fr st) {i : Nat} {xs : List D} {v : V} (hi : i < fr.length) (r : WR g b F ρ H σ fr (.own xs) v) : Ab g b F ρ (σ.set i (some v)) H (fr.set i (.mut xs)) st := by
  have hs : i < σ.length := by rw [← A.len]; exact hi
  obtain ⟨a, vs, rfl, r1, r2, r3, r4, r5, r6, r7⟩ := r
  have inv : ∀ {j : Nat} {ys}, (fr.set i (.mut xs))[j]? = some (.mut ys) → (i = j ∧ ys = xs) ∨ (i ≠ j ∧ fr[j]? = some (.mut ys)) := fun {j ys} e => by
    by_cases z : i = j
    · subst z; rw [List.getElem?_set_self hi] at e; cases e; exact .inl ⟨rfl, rfl⟩
    · rw [List.getElem?_set_ne z] at e; exact .inr ⟨z, e⟩
  exact {
    sub := A.sub, ext := A.ext, new := A.new, rho := A.rho, keep := A.keep, fsh := A.fsh, sto := A.sto
    len := by rw [List.length_set, List.length_set]; exact A.len
    dat := fun j d' e => by
      by_cases z : i = j
      · subst z
        rw [List.getElem?_set_self hi] at e
        cases e
      · rw [List.getElem?_set_ne z] at e ⊢
        exact A.dat j d' e
    mu := fun j ys e => by
      rcases inv e with ⟨rfl, rfl⟩ | ⟨z, e⟩
      · exact ⟨a, vs, List.getElem?_set_self hs, r1, r2, r3, r4, r5⟩
      · rw [List.getElem?_set_ne z]
        exact A.mu j ys e
    apart := fun j l a' ys zs e1 e2 q1 q2 => by
      rcases inv e1 with ⟨z1, y1⟩ | ⟨z1, f1⟩
      · rcases inv e2 with ⟨z2, y2⟩ | ⟨z2, f2⟩
        · rw [← z1, ← z2]
        · rw [← z1, List.getElem?_set_self hs] at q1
          rw [List.getElem?_set_ne z2] at q2
          cases q1
          exact absurd q2 (r6 l zs f2)
      · rcases inv e2 with ⟨z2, y2⟩ | ⟨z2, f2⟩
        · rw [← z2, List.getElem?_set_self hs] at q2
          rw [List.getElem?_set_ne z1] at q1
          cases q2
          exact absurd q1 (r6 j ys f1)
        · rw [List.getElem?_set_ne z1] at q1
          rw [List.getElem?_set_ne z2] at q2
          exact A.apart j l a' ys zs f1 f2 q1 q2
    pin := fun q hq => by
      obtain ⟨h1, h2, h3, h4, h5⟩ := A.pin q hq
      refine ⟨h1, h2, h3, h4, fun j ys e z => ?_⟩
      rcases inv e with ⟨rfl, rfl⟩ | ⟨z', e⟩
      · rw [List.getElem?_set_self hs] at z
        cases z
        exact r7 q hq rfl
      · rw [List.getElem?_set_ne z'] at z
        exact h5 j ys e z }
/-- a list that a slot holds is changed -/
theorem Ab.change (A : Ab g b F ρ σ H fr st) {i : Nat} {xs ys : List D} {a : Addr} {us : List V} (hi : fr[i]? = some (.mut xs)) (ha : σ[i]? = some (some (.ref a))) (r : VRs g F ρ ys us) : Ab g b F ρ σ (upd H a (.lst us)) (fr.set i (.mut ys)) st := by
  have hl : i < fr.length := (List.getElem?_eq_some_iff.mp hi).1
  obtain ⟨a', vs, q1, q2, q3, q4, q5, q6⟩ := A.mu i xs hi
  rw [ha] at q1; cases q1
  have inv : ∀ {j : Nat} {zs}, (fr.set i (.mut ys))[j]? = some (.mut zs) → (i = j ∧ zs = ys) ∨ (i ≠ j ∧ fr[j]? = some (.mut zs)) := fun {j zs} e => by
    by_cases z : i = j
    · subst z; rw [List.getElem?_set_self hl] at e; cases e; exact .inl ⟨rfl, rfl⟩
    · rw [List.getElem?_set_ne z] at e; exact .inr ⟨z, e⟩
  have mu' : ∀ {j : Nat} {zs}, (fr.set i (.mut ys))[j]? = some (.mut zs) → ∃ zs', fr[j]? = some (.mut zs') := fun {j zs} e => by
    rcases inv e with ⟨rfl, _⟩ | ⟨_, e⟩
    · exact ⟨xs, hi⟩
    · exact ⟨zs, e⟩
  exact {
    sub := fun c o e => by
      rw [upd_ne (show c ≠ a from fun z => by subst z; rw [q4] at e; cases e)]
      exact A.sub _ _ e
    ext := A.ext, new := A.new, rho := A.rho
    keep := fun c o e m => by
      rw [upd_ne (show c ≠ a from fun z => by subst z; rw [q6] at e; cases e)]
      exact A.keep c o e m
    fsh := A.fsh
    sto := A.sto.of fun c hc => upd_ne fun z => q5 (z ▸ hc)
    len := by rw [List.length_set]; exact A.len
    dat := fun j d e => by
      by_cases z : i = j
      · subst z
        rw [List.getElem?_set_self hl] at e
        cases e
      · rw [List.getElem?_set_ne z] at e
        exact A.dat j d e
    mu := fun j zs e => by
      rcases inv e with ⟨rfl, rfl⟩ | ⟨z, e⟩
      · exact ⟨a, us, ha, upd_same, r, q4, q5, q6⟩
      · obtain ⟨c, ws, h1, h2, h3⟩ := A.mu j zs e
        refine ⟨c, ws, h1, ?_, h3⟩
        rw [upd_ne (show c ≠ a from fun y => by subst y; exact z (A.apart i j c xs zs hi e ha h1))]
        exact h2
    apart := fun j l c zs ws e1 e2 p1 p2 => by
      obtain ⟨z1, e1⟩ := mu' e1
      obtain ⟨z2, e2⟩ := mu' e2
      exact A.apart j l c z1 z2 e1 e2 p1 p2
    pin := fun q hq => by
      obtain ⟨h1, h2, h3, h4, h5⟩ := A.pin q hq
      refine ⟨?_, h2, h3, h4, fun j zs e => ?_⟩
      · rw [upd_ne (show q.1 ≠ a from fun z => h5 i xs hi (by rw [z]; exact ha))]
        exact h1
      · obtain ⟨z1, e1⟩ := mu' e
        exact h5 j z1 e1 }
/-- a slot's list becomes data -/
theorem Ab.freeze (A : Ab g b F ρ σ H fr st) {i : Nat} {xs : List D} (hi : fr[i]? = some (.mut xs)) : ∃ F', Same F F' ∧ Ab g b F' ρ σ H (fr.set i (.dat (.lst xs))) st := by
  have hl : i < fr.length := (List.getElem?_eq_some_iff.mp hi).1
  obtain ⟨a, vs, q1, q2, q3, q4, q5, q6⟩ := A.mu i xs hi
  have hs : i < σ.length := by rw [← A.len]; exact hl
  have B : Ab g b F ρ (σ.set i none) H (fr.set i .un) st := by
    have ne : ∀ {j : Nat} {q}, (fr.set i .un)[j]? = some q → q ≠ .un → i ≠ j ∧ fr[j]? = some q := fun {j q} e n => by
      by_cases z : i = j
      · subst z; rw [List.getElem?_set_self hl] at e; cases e; exact absurd rfl n
      · rw [List.getElem?_set_ne z] at e; exact ⟨z, e⟩
    exact {
      sub := A.sub, ext := A.ext, new := A.new, rho := A.rho, keep := A.keep, fsh := A.fsh, sto := A.sto
      len := by rw [List.length_set, List.length_set]; exact A.len
      dat := fun j d e => by
        obtain ⟨z, e⟩ := ne e (by intro q; cases q)
        rw [List.getElem?_set_ne z]; exact A.dat j d e
      mu := fun j d e => by
        obtain ⟨z, e⟩ := ne e (by intro q; cases q)
        rw [List.getElem?_set_ne z]; exact A.mu j d e
      apart := fun j l c zs ws e1 e2 p1 p2 => by
        obtain ⟨z1, e1⟩ := ne e1 (by intro q; cases q)
        obtain ⟨z2, e2⟩ := ne e2 (by intro q; cases q)
        rw [List.getElem?_set_ne z1] at p1
        rw [List.getElem?_set_ne z2] at p2
        exact A.apart j l c zs ws e1 e2 p1 p2
      pin := fun q hq => by
        obtain ⟨h1, h2, h3, h4, h5⟩ := A.pin q hq
        refine ⟨h1, h2, h3, h4, fun j zs e => ?_⟩
        obtain ⟨z, e⟩ := ne e (by intro q; cases q)
        rw [List.getElem?_set_ne z]
        exact h5 j zs e }
  have B2 := B.frzAt (o := .lst vs) q2 q4 q5 q6 (fun j ys e z => by
    by_cases y : i = j
    · subst y; rw [List.getElem?_set_self hl] at e; cases e
    · rw [List.getElem?_set_ne y] at e z
      exact y (A.apart i j a xs ys hi e q1 z)) (fun q hq z => by
    obtain ⟨h1, h2, h3, h4, h5⟩ := A.pin q hq
    exact h5 i xs hi (by rw [z]; exact q1))
  refine ⟨_, B2.2, ?_⟩
  have C := B2.1.set (i := i) (d := .lst xs) (v := .ref a) (by rw [List.length_set]; exact hl) (.lst upd_same (q3.mono B2.2 (pfx _)))
  rw [List.set_set, List.set_set] at C
  have es : σ.set i (some (.ref a)) = σ := by
    refine List.ext_getElem? fun j => ?_
    by_cases z : i = j
    · subst z; rw [List.getElem?_set_self hs, q1]
    · rw [List.getElem?_set_ne z]
  rw [es] at C
  exact C
end
end MP

set_option Elab.async false
set_option linter.all false
set_option maxRecDepth 100000
set_option maxHeartbeats 8000000
namespace MP
open PySem PySem.Spec L2
section
variable {g : Gb} {b : Bs} {wx : WX} {cf : Nat → List D → Sto → R W} {k : Nat} {X : Cx} {c : Cc} {F F' : Hp} {ρ ρ' : Rho} {σ : L2.St} {H H' : Hp} {fr : Fr} {st st' : Sto} {Q : VK} {Dn : Ends} {wf : Nat}
theorem TX.of {f : Fr → Sto → Out} (A : Ab g b F ρ σ H fr st) (p : PoS g b wx (f fr st) F ρ Dn) : TX g b wx f Dn σ H := ⟨F, ρ, fr, st, A, p⟩
theorem PoS.nxt (p : PoS g b wx (.nx fr st) F ρ Dn) (A : Ab g b F ρ σ H fr st) : Dn.nx σ H := p F ρ σ H (.refl _) (pfx _) A
theorem block_fn {sc : Scope} {env : PySem.Env} (h : env.scope = sc) (hk : sc.kind = .function) : env.blockKind = .function := by
  unfold Env.blockKind
  rw [h, hk]
  rfl
theorem swap_lc {sc : Scope} {env : PySem.Env} (h : env.scope = sc) (hk : sc.kind = .function) {t : Str} {tp pos : Pos} {elt : Expr} {gs : List Comprehension} {scope : Scope} {l : Nat} {r : Bool} (hr : swapC sc (.Name t tp) (.ListComp elt gs scope pos) = some r) :
    swapsWith (.ListComp elt gs scope pos) (some (.Name t tp)) l env = pure r := by
  simp only [swapC, Option.some.injEq] at hr
  unfold swapsWith
  simp only [block_fn h hk, Expr.pos]
  rw [← hr]
  have e : env.kindOf t = sc.names.lookup t := by rw [← h]; rfl
  rw [e]
  rfl
theorem sw_none {sc : Scope} {env : PySem.Env} (h : env.scope = sc) (hk : sc.kind = .function) {ts vs : List Expr} {k1 k2 : Nat} {p1 p2 : Pos} {r : Option (List Str)} (hr : swCls sc ts vs = some r) : swappedStores [.Tuple ts k1 p1] (.Tuple vs k2 p2) env = pure r := by
  have ek : ∀ id, env.kindOf id = sc.names.lookup id := fun id => by rw [← h]; rfl
  unfold swCls at hr
  unfold swappedStores
  simp only [ek, block_fn h hk]
  simp only [pure_bind, bne_self_eq_false, Bool.or_false]
  split at hr
  · rename_i c1
    cases hr
    rw [if_pos c1]
  · rename_i c1
    rw [if_neg c1]
    split at hr
    · rename_i c2
      cases hr
      exact if_pos c2
    · rename_i c2
      refine (if_neg c2).trans ?_
      dsimp only at hr
      split at hr
      · rename_i c3
        cases hr
        exact if_pos c3
      · rename_i c3
        refine (if_neg c3).trans ?_
        split at hr
        · rename_i c4
          cases hr
          exact if_pos c4
        · rename_i c4
          refine (if_neg c4).trans ?_
          split at hr
          · cases hr
          · rename_i c5
            cases hr
            exact if_neg c5
theorem get_list {X : Cx} : PGet X (rIxL X.K) := by
  intro pins s σ H x y v u Q I rx ry h
  obtain ⟨p, xs, i, z, rfl, rfl, hq, he, q⟩ := h
  cases rx
  obtain ⟨t, rfl⟩ := ry
  obtain ⟨its, r, pl, hz⟩ := I.list hq
  obtain ⟨j, h1, h2, h3, h4, h5⟩ := atI_get he
  obtain ⟨w, ew, rw'⟩ := r.get h2
  have hl := r.length
  have hn := line63
  have fin : EP X pins σ Q w s := ⟨z, H, I, rw', q⟩
  by_cases h0 : 0 ≤ i
  · have hj : i.toNat = j := Option.some.inj ((seqIndex_of h0 h5).symm.trans h1)
    exact wpAny_getItem_list pl.isList h0 (by omega) (by rw [hj]; simpa using ew) fin
  · have hj : (i + (its.toArray.size : Int)).toNat = j := by
      have h6 := (seqIndex_neg (by omega) h4).symm.trans h1
      rw [List.size_toArray, ← hl]
      exact Option.some.inj h6
    exact wpAny_getItem_list_neg pl.isList (by omega) (by rw [List.size_toArray] <;> omega) (by omega) (by rw [hj]; simpa using ew) fin
/-- how a value is stored -/
theorem swap_false {tg v : Expr} {l : Nat} (Y : Cy g wx cf k X c) (h : swapC c.sc tg v = some false) : swapsWithSole [tg] v l X.env = pure false := by
  show swapsWith v (some tg) l X.env = pure false
  cases v <;> first | rfl | skip
  · cases tg <;> first | rfl | exact swap_lc Y.hsc Y.kind h
  · cases tg <;> cases h
  · cases tg <;> cases h
theorem asg_none {tg v : Expr} (Y : Cy g wx cf k X c) (h : asgOk c.sc tg v = true) : swappedStores [tg] v X.env = pure none := by
  cases tg <;> cases v <;> first | rfl | (cases h; done) | skip
  exact sw_none Y.hsc Y.kind (of_decide_eq_true h)
theorem s_asg (Y : Cy g wx cf k X c) {G : G} {e : E} {tg v : Expr} {pos : Pos} (hG : PG X tg (TGt g b G)) (hE : PE X v (T g b wx DR (ev cf e))) (h1 : asgOk c.sc tg v = true) (h2 : noStar tg = true) (h3 : swapC c.sc tg v = some false) :
    PS X (.Assign [tg] v pos) (TX g b wx (ex cf wf (.asg G e))) := PS.by fun D σ H q' => by
  obtain ⟨F, ρ, fr, st, A, p⟩ := q'
  simp only [ex] at p
  refine ⟨_, ps_asg hE hG (swap_false Y h3) (asg_none Y h1) (by rw [each_cons h2]; rfl), F, ρ, fr, st, A, p.out fun w s1 F1 ρ1 H1 v _ _ _ A1 rv p1 => ?_⟩
  cases e : putG G w.d fr with
  | none => rw [e] at p1; exact p1.elim
  | some fr' =>
    rw [e] at p1
    exact ⟨F1, ρ1, fr, s1, w.d, fr', A1, rv, e, fun σ' A' _ => p1.nxt A'⟩
theorem s_own (Y : Cy g wx cf k X c) {i : Nat} {e : E} {x : Str} {px pos : Pos} {v : Expr} (hl : locB c i x = true) (hE : PE X v (T g b wx WR (ev cf e))) (h3 : swapC c.sc (.Name x px) v = some false) :
    PS X (.Assign [.Name x px] v pos) (TX g b wx (ex cf wf (.own i e))) := PS.by fun D σ H q' => by
  obtain ⟨F, ρ, fr, st, A, p⟩ := q'
  obtain ⟨l1, l2, l3⟩ := Y.loc hl
  simp only [ex] at p
  refine ⟨_, ps_asg hE (pg_name Y.G.nd l1 l2 l3) (swap_false Y h3) (by cases v <;> rfl) rfl, F, ρ, fr, st, A, p.out fun w s1 F1 ρ1 H1 v _ _ _ A1 rv p1 => ?_⟩
  cases w with
  | dat d => exact p1.elim
  | own xs =>
    simp only at p1
    split at p1
    · rename_i hi
      exact p1.nxt (A1.setOwn hi rv)
    · exact p1.elim
/-- .. of a comprehension on one line -/
theorem s_asgLc {i : Nat} {e : E} {t : Stmt} (h : PS X t (tAsg (T g b wx WR (ev cf e)) (gName i))) : PS X t (TX g b wx (ex cf wf (.asg (.nm i) e))) := PS.by fun D σ H q' => by
  obtain ⟨F, ρ, fr, st, A, p⟩ := q'
  simp only [ex] at p
  refine ⟨_, h, F, ρ, fr, st, A, p.out fun w s1 F1 ρ1 H1 v _ _ _ A1 rv p1 => ?_⟩
  obtain ⟨F2, S2, A2, rv2⟩ := rv.frz A1
  simp only [putG] at p1
  split at p1
  · rename_i e'
    split at e'
    · rename_i hi
      cases e'
      exact (p1.mono S2 (pfx _)).nxt (A2.set hi rv2)
    · cases e'
  · exact p1.elim
theorem s_ownLc {i : Nat} {e : E} {t : Stmt} (h : PS X t (tAsg (T g b wx WR (ev cf e)) (gName i))) : PS X t (TX g b wx (ex cf wf (.own i e))) := PS.by fun D σ H q' => by
  obtain ⟨F, ρ, fr, st, A, p⟩ := q'
  simp only [ex] at p
  refine ⟨_, h, F, ρ, fr, st, A, p.out fun w s1 F1 ρ1 H1 v _ _ _ A1 rv p1 => ?_⟩
  cases w with
  | dat d => exact p1.elim
  | own xs =>
    simp only at p1
    split at p1
    · rename_i hi
      exact p1.nxt (A1.setOwn hi rv)
    · exact p1.elim
theorem noComp_swap {v : Expr} {t : Option Expr} {l : Nat} {env : PySem.Env} (h : noComp v = true) : swapsWith v t l env = pure false := by
  cases v <;> first | rfl | cases h
theorem noComp_sole {tg v : Expr} {l : Nat} {env : PySem.Env} (h : noComp v = true) : swapsWithSole [tg] v l env = pure false := by
  show swapsWith v (some tg) l env = pure false
  exact noComp_swap h
theorem s_setm (Y : Cy g wx cf k X c) {i : Nat} {q e : E} {x : Str} {px pq pos : Pos} {q' v : Expr} (hx : visB c i x = true) (hs : noSlice q' = true) (hn : noComp v = true) (hQ : PE X q' (T g b wx DR (ev cf q))) (hE : PE X v (T g b wx DR (ev cf e))) :
    PS X (.Assign [.Subscript (.Name x px) q' pq] v pos) (TX g b wx (ex cf wf (.setm i q e))) := PS.by fun D σ H q'' => by
  obtain ⟨F, ρ, fr, st, A, p⟩ := q''
  obtain ⟨h1, h2, h3, h4⟩ := Y.vis hx
  simp only [ex] at p
  refine ⟨_, ps_asg hE (pg_sub (pe_var h1 h2 h3 h4) hQ set_list (by intro v; cases q' <;> first | rfl | cases hs)) (noComp_sole hn) (by cases v <;> rfl) (by cases q' <;> first | rfl | cases hs), ?_⟩
  cases e0 : getM fr i with
  | none => rw [e0] at p; exact p.elim
  | some xs =>
    rw [e0] at p
    refine ⟨F, ρ, fr, st, A, PoS.out p fun w s1 F1 ρ1 H1 v _ _ _ A1 rv p1 => ?_⟩
    obtain ⟨a, vs, q1, q2, q3, _⟩ := A1.mu i xs (getM_some e0)
    refine ⟨.ref a, q1, F1, ρ1, fr, s1, A1, PoS.out p1 fun w2 s2 F2 ρ2 H2 u _ S2 P2 A2 ru p2 => ?_⟩
    split at p2
    · rename_i n en
      have ru' : VR g F2 ρ2 w2.d u := ru
      rw [en] at ru'
      have eu := ru'.intI
      subst eu
      obtain ⟨a2, vs2, q1', q2', q3', _⟩ := A2.mu i xs (getM_some e0)
      rw [q1] at q1'; cases q1'
      cases ej : ixD xs.length n with
      | none => rw [ej] at p2; exact p2.elim
      | some j =>
        rw [ej] at p2
        refine ⟨a, vs2, n, j, rfl, rfl, q2', by rw [← q3'.length]; exact ej, ?_⟩
        exact p2.nxt (A2.change (getM_some e0) q1 (q3'.set j (VR.mono S2 P2 rv)))
    · exact p2.elim
theorem aug_ok {o : Bop} {z d r : D} {v u : V} (e : augD o z d = some r) (rz : VR g F ρ z v) (rd : VR g F ρ d u) {Q : VK} (q : ∀ w, VR g F ρ r w → Q w H) : ∃ t, PIp X (opOf o) t ∧ t v u H Q := by
  unfold augD at e
  split at e
  · cases e; cases rz; cases rd
    exact ⟨_, ip_add, _, _, rfl, rfl, q _ (.int _)⟩
  · cases e; cases rz; cases rd
    exact ⟨_, ip_sub, _, _, rfl, rfl, q _ (.int _)⟩
  · cases e
theorem ipAny {o : Operator} : PIp X o (fun v u H Q => ∃ t, PIp X o t ∧ t v u H Q) := fun pins s σ H x y v u Q I rx ry ⟨t, h1, h2⟩ => h1 pins s σ H x y v u Q I rx ry h2
theorem s_augm (Y : Cy g wx cf k X c) {i : Nat} {o : Bop} {q e : E} {x : Str} {px pq pos : Pos} {q' v : Expr} (hx : visB c i x = true) (hs : noSlice q' = true) (hQ : PE X q' (T g b wx DR (ev cf q))) (hE : PE X v (T g b wx DR (ev cf e))) :
    PS X (.AugAssign (.Subscript (.Name x px) q' pq) (opOf o) v pos) (TX g b wx (ex cf wf (.augm i o q e))) := PS.by fun D σ H q'' => by
  obtain ⟨F, ρ, fr, st, A, p⟩ := q''
  obtain ⟨h1, h2, h3, h4⟩ := Y.vis hx
  simp only [ex] at p
  refine ⟨_, ps_augS (pe_var h1 h2 h3 h4) hQ get_list hE ipAny set_list (by intros; cases q' <;> first | rfl | cases hs), ?_⟩
  cases e0 : getM fr i with
  | none => rw [e0] at p; exact p.elim
  | some xs =>
    rw [e0] at p
    obtain ⟨a, vs, q1, q2, q3, _⟩ := A.mu i xs (getM_some e0)
    refine ⟨.ref a, q1, F, ρ, fr, st, A, PoS.out p fun w s1 F1 ρ1 H1 u _ _ _ A1 ru p1 => ?_⟩
    split at p1
    · rename_i n en
      have ru' : VR g F1 ρ1 w.d u := ru
      rw [en] at ru'
      have eu := ru'.intI
      subst eu
      obtain ⟨a1, vs1, q11, q12, q13, _⟩ := A1.mu i xs (getM_some e0)
      rw [q1] at q11; cases q11
      cases ej : ixD xs.length n with
      | none => rw [ej] at p1; exact p1.elim
      | some j =>
        rw [ej] at p1
        simp only at p1
        cases ez : xs[j]? with
        | none => rw [ez] at p1; exact p1.elim
        | some z =>
          rw [ez] at p1
          simp only at p1
          have eat : atD xs n = some z := by unfold atD; rw [ej]; exact ez
          obtain ⟨zv, z1, z2⟩ := atD_ok q13 eat
          refine ⟨a, vs1, n, zv, rfl, rfl, .inl (.inl q12), z1, F1, ρ1, fr, s1, A1, PoS.out p1 fun w2 s2 F2 ρ2 H2 u2 _ S2 P2 A2 ru2 p2 => ?_⟩
          cases eq : augD o z w2.d with
          | none => rw [eq] at p2; exact p2.elim
          | some r =>
            rw [eq] at p2
            refine aug_ok eq (VR.mono S2 P2 z2) ru2 fun y ry => ?_
            obtain ⟨a2, vs2, q21, q22, q23, _⟩ := A2.mu i xs (getM_some e0)
            rw [q1] at q21; cases q21
            refine ⟨a, vs2, n, j, rfl, rfl, q22, by rw [← q23.length]; exact ej, ?_⟩
            exact p2.nxt (A2.change (getM_some e0) q1 (q23.set j ry))
    · exact p1.elim
theorem few_one {v : Expr} {cp : Pos} {env : PySem.Env} (h : noStar v = true) : ((backTo cp (starEach [v] env)).all (fun x => !x.1) && (backToKw cp (keywordEach [] env)).all (fun x => x.1.isSome) && decide ([v].length + ([] : List Keyword).length + (if ([] : List Keyword).isEmpty then 0 else 1) < 30)) = true := by
  rw [noStar_cons h]
  rfl
theorem s_appm (Y : Cy g wx cf k X c) {i : Nat} {e : E} {x m : Str} {px ap cp pos : Pos} {v : Expr} (hx : visB c i x = true) (hm : m = "append") (hl : (ap.endLine == cp.line) = true) (hs : noStar v = true) (hE : PE X v (T g b wx DR (ev cf e))) :
    PS X (.Expr (.Call (.Attribute (.Name x px) m ap) [v] [] cp) pos) (TX g b wx (ex cf wf (.appm i e))) := PS.by fun D σ H q'' => by
  obtain ⟨F, ρ, fr, st, A, p⟩ := q''
  obtain ⟨h1, h2, h3, h4⟩ := Y.vis hx
  subst hm
  simp only [ex] at p
  refine ⟨_, ps_expr (pe_bm PySem.F.plainAttrs_list PySem.F.slot_list_append PySem.F.type_list_append mt_append (pe_var h1 h2 h3 h4) (pa_cons hE pa_nil (noStar_cons hs _)) rfl (few_one hs) hl (noStar_cons hs _)), ?_⟩
  cases e0 : getM fr i with
  | none => rw [e0] at p; exact p.elim
  | some xs =>
    rw [e0] at p
    obtain ⟨a, vs, q1, q2, q3, _⟩ := A.mu i xs (getM_some e0)
    refine ⟨.ref a, q1, .inl ⟨rfl, vs, .inl (.inl q2)⟩, F, ρ, fr, st, A, PoS.out p fun w s1 F1 ρ1 H1 u _ _ _ A1 ru p1 => ?_⟩
    split at p1
    · rename_i hz
      obtain ⟨a1, vs1, q11, q12, q13, _⟩ := A1.mu i xs (getM_some e0)
      rw [q1] at q11; cases q11
      exact ⟨a, vs1, u, rfl, rfl, q12, by rw [← q13.length]; exact hz, p1.nxt (A1.change (getM_some e0) q1 (q13.append (.one ru)))⟩
    · exact p1.elim
theorem s_extm (Y : Cy g wx cf k X c) {i : Nat} {e : E} {x m : Str} {px ap cp pos : Pos} {v : Expr} (hx : visB c i x = true) (hm : m = "extend") (hl : (ap.endLine == cp.line) = true) (hs : noStar v = true) (hE : PE X v (T g b wx DR (ev cf e))) :
    PS X (.Expr (.Call (.Attribute (.Name x px) m ap) [v] [] cp) pos) (TX g b wx (ex cf wf (.extm i e))) := PS.by fun D σ H q'' => by
  obtain ⟨F, ρ, fr, st, A, p⟩ := q''
  obtain ⟨h1, h2, h3, h4⟩ := Y.vis hx
  subst hm
  simp only [ex] at p
  refine ⟨_, ps_expr (pe_bm PySem.F.plainAttrs_list PySem.F.slot_list_extend PySem.F.type_list_extend mt_extend (pe_var h1 h2 h3 h4) (pa_cons hE pa_nil (noStar_cons hs _)) rfl (few_one hs) hl (noStar_cons hs _)), ?_⟩
  cases e0 : getM fr i with
  | none => rw [e0] at p; exact p.elim
  | some xs =>
    rw [e0] at p
    obtain ⟨a, vs, q1, q2, q3, _⟩ := A.mu i xs (getM_some e0)
    refine ⟨.ref a, q1, .inl ⟨rfl, vs, .inl (.inl q2)⟩, F, ρ, fr, st, A, PoS.out p fun w s1 F1 ρ1 H1 u _ _ _ A1 ru p1 => ?_⟩
    split at p1
    · rename_i ys ed
      have ru' : VR g F1 ρ1 w.d u := ru
      rw [ed] at ru'
      obtain ⟨a', us, rfl, b1, b2⟩ := ru'.lstI
      split at p1
      · rename_i hz
        obtain ⟨a1, vs1, q11, q12, q13, _⟩ := A1.mu i xs (getM_some e0)
        rw [q1] at q11; cases q11
        exact ⟨a, a', vs1, us, rfl, rfl, q12, A1.sub _ _ b1, by rw [← q13.length, ← b2.length]; exact hz, p1.nxt (A1.change (getM_some e0) q1 (q13.append b2))⟩
      · exact p1.elim
    · exact p1.elim
theorem s_ret {e : E} {v : Expr} {pos : Pos} (hE : PE X v (T g b wx WR (ev cf e))) : PS X (.Return (some v) pos) (TX g b wx (ex cf wf (.ret e))) := PS.by fun D σ H q'' => by
  obtain ⟨F, ρ, fr, st, A, p⟩ := q''
  simp only [ex] at p
  refine ⟨_, ps_ret hE, F, ρ, fr, st, A, PoS.out p fun w s1 F1 ρ1 H1 v _ _ _ A1 rv p1 => ?_⟩
  exact p1 F1 ρ1 H1 v (.refl _) (pfx _) A1.bare rv.bare
theorem s_exp {e : E} {v : Expr} {pos : Pos} (hn : noComp v = true) (hE : PE X v (T g b wx DR (ev cf e))) : PS X (.Expr v pos) (TX g b wx (ex cf wf (.exp e))) := PS.by fun D σ H q'' => by
  obtain ⟨F, ρ, fr, st, A, p⟩ := q''
  simp only [ex] at p
  exact ⟨_, ps_expr hE (noComp_swap hn), F, ρ, fr, st, A, PoS.out p fun w s1 F1 ρ1 H1 v _ _ _ A1 rv p1 => p1.nxt A1⟩
theorem s_if {t : E} {a b' : Ss} {t' : Expr} {a' b'' : List Stmt} {pos : Pos} (hT : PT X t' (T g b wx BR (evB cf t))) (ha : PSs X a' (TX g b wx (exs cf wf a))) (hb : PSs X b'' (TX g b wx (exs cf wf b'))) : PS X (.If t' a' b'' pos) (TX g b wx (ex cf wf (.ife t a b'))) := PS.by fun D σ H q'' => by
  obtain ⟨F, ρ, fr, st, A, p⟩ := q''
  have e : ex cf wf (.ife t a b') fr st = (evB cf t fr st).out fr fun k s1 => if k then exs cf wf a fr s1 else exs cf wf b' fr s1 := by
    simp only [ex, evB]
    cases ev cf t fr st with
    | ok w s =>
      simp only [R.out, R.bind, tb]
      cases w.d <;> first | rfl | skip
      rename_i q
      cases q <;> rfl
    | exc _ _ _ => rfl
    | bad => rfl
  rw [e] at p
  refine ⟨_, ps_if hT ha hb, F, ρ, fr, st, A, PoS.out p fun w s1 F1 ρ1 H1 v _ _ _ A1 rv p1 => ?_⟩
  cases rv
  cases w with
  | true => rw [if_pos rfl] at p1 ⊢; exact .of A1 p1
  | false => rw [if_neg Bool.false_ne_true] at p1 ⊢; exact .of A1 p1
/-- one statement, then the others -/
theorem PoS.andThen {o : Out} {f : Fr → Sto → Out} (h : PoS g b wx (o.andThen f) F ρ Dn) : PoS g b wx o F ρ { Dn with nx := fun σ' H' => ∃ F' ρ' fr' st', Same F F' ∧ ρ <+: ρ' ∧ Ab g b F' ρ' σ' H' fr' st' ∧ PoS g b wx (f fr' st') F' ρ' Dn } := by
  cases o with
  | nx fr st => exact fun F' ρ' σ' H' S P A => ⟨F', ρ', fr, st, S, P, A, PoS.mono (o := f fr st) h S P⟩
  | rt w st => exact h
  | exc c p fr st => exact h
  | bad => exact h
theorem ends_imp {D D' : Ends} (h : PoS g b wx (.nx fr st) F ρ D) (hn : ∀ σ H, D.nx σ H → D'.nx σ H) : PoS g b wx (.nx fr st) F ρ D' := fun F' ρ' σ' H' S P A => hn _ _ (h F' ρ' σ' H' S P A)
theorem s_cons {s : S} {r : Ss} {s' : Stmt} {r' : List Stmt} (hs : PS X s' (TX g b wx (ex cf wf s))) (hr : PSs X r' (TX g b wx (exs cf wf r))) : PSs X (s' :: r') (TX g b wx (exs cf wf (.cons s r))) := PSs.by fun D σ H q'' => by
  obtain ⟨F, ρ, fr, st, A, p⟩ := q''
  simp only [exs] at p
  refine ⟨_, pss_cons hs hr, F, ρ, fr, st, A, ?_⟩
  have q := PoS.andThen p
  revert q
  cases ex cf wf s fr st with
  | nx fr' st' =>
    intro q
    exact fun F' ρ' σ' H' S P A' => by
      obtain ⟨F2, ρ2, fr2, st2, S2, P2, A2, p2⟩ := q F' ρ' σ' H' S P A'
      exact .of A2 p2
  | rt w st' => intro q; exact q
  | exc c' p' fr' st' => intro q; exact q
  | bad => intro q; exact q
theorem s_nil : PSs X [] (TX g b wx (exs cf wf .nil)) := PSs.by fun D σ H q'' => by
  obtain ⟨F, ρ, fr, st, A, p⟩ := q''
  exact ⟨_, pss_nil, PoS.nxt p A⟩
theorem s_frz {i : Nat} {r : Ss} {ss : List Stmt} (h : PSs X ss (TX g b wx (exs cf wf r))) : PSs X ss (TX g b wx (exs cf wf (.frz i r))) := PSs.by fun D σ H q'' => by
  obtain ⟨F, ρ, fr, st, A, p⟩ := q''
  simp only [exs] at p
  refine ⟨_, h, ?_⟩
  cases e : getM fr i with
  | none => rw [e] at p; exact p.elim
  | some xs =>
    rw [e] at p
    obtain ⟨F2, S2, A2⟩ := A.freeze (getM_some e)
    exact ⟨F2, ρ, _, st, A2, PoS.mono p S2 (pfx _)⟩
theorem s_for (Y : Cy g wx cf k X c) {G : G} {it : It} {bd : Ss} {tg iter : Expr} {bd' : List Stmt} {pos : Pos} (hk : keepOf it = []) (hs : noSet iter = true) (hI : PI X tg iter (TW g b wx (evI cf it) (keepOf it))) (hG : PG X tg (TGt g b G)) (hB : PSs X bd' (TX g b wx (exs cf wf bd))) :
    PS X (.For tg iter bd' [] pos) (TX g b wx (ex cf wf (.for_ G it bd))) := PS.by fun D σ H q'' => by
  obtain ⟨F, ρ, fr, st, A, p⟩ := q''
  rw [hk] at hI
  simp only [ex] at p
  refine ⟨_, ps_for Y.G.own Y.G.calm hI hG hB (set_fold hs _), F, ρ, fr, st, A, PoS.out p fun ds s1 F1 ρ1 H1 J _ S P A1 wk p1 => ?_⟩
  have wk : Walks g b σ fr F1 ρ1 J ds [] := wk
  generalize hbody : (fun x env s2 => match putG G x env with | some env' => exs cf wf bd env' s2 | none => Out.bad) = body at p1
  refine ⟨fun i m σ2 H2 => m = ds.length - i ∧ i ≤ ds.length ∧ ∃ F2 ρ2 fr2 st2, Same F1 F2 ∧ ρ1 <+: ρ2 ∧ Ab g b F2 ρ2 σ2 H2 fr2 st2 ∧ PoS g b wx (forL body (ds.drop i) fr2 st2) F2 ρ2 D, ⟨_, rfl, Nat.zero_le _, F1, ρ1, fr, s1, .refl _, pfx _, A1, p1⟩, ?_⟩
  rintro i m σ2 H2 ⟨rfl, hi, F2, ρ2, fr2, st2, S2, P2, A2, p2⟩
  by_cases hlt : i < ds.length
  · refine .inr ⟨wk.go i b.P F2 ρ2 σ2 H2 fr2 st2 hlt S2 P2 A2 (fun m hm => by simp at hm), fun σ3 H3 => ∃ F3 ρ3 fr3 st3, Same F1 F3 ∧ ρ1 <+: ρ3 ∧ Ab g b F3 ρ3 σ3 H3 fr3 st3 ∧ PoS g b wx (forL body (ds.drop (i + 1)) fr3 st3) F3 ρ3 D, fun σ3 H3 h3 => ⟨_, by omega, rfl, hlt, h3⟩, fun x H3 y => ?_⟩
    obtain ⟨d, F3, ed, S3, A3, rd⟩ := wk.yld i b.P F2 ρ2 σ2 H2 fr2 st2 x H3 hlt S2 P2 A2 (fun m hm => by simp at hm) y
    have edrop : ds.drop i = d :: ds.drop (i + 1) := by
      obtain ⟨h1, h2⟩ := List.getElem?_eq_some_iff.mp ed
      rw [← h2]
      exact List.drop_eq_getElem_cons hlt
    rw [edrop] at p2
    simp only [forL] at p2
    rw [show body d fr2 st2 = match putG G d fr2 with | some env' => exs cf wf bd env' st2 | none => Out.bad from by rw [← hbody]] at p2
    cases eg : putG G d fr2 with
    | none => rw [eg] at p2; exact p2.elim
    | some fr' =>
      rw [eg] at p2
      simp only at p2
      refine ⟨F3, ρ2, fr2, st2, d, fr', A3, rd, eg, fun σ' A4 ag => ⟨F3, ρ2, fr', st2, A4, ?_⟩⟩
      have q := PoS.andThen (p2.mono S3 (pfx _))
      revert q
      cases exs cf wf bd fr' st2 with
      | nx fr5 st5 =>
        intro q
        exact fun F' ρ' σ5 H5 S5 P5 A5 => by
          obtain ⟨F6, ρ6, fr6, st6, S6, P6, A6, p6⟩ := q F' ρ' σ5 H5 S5 P5 A5
          exact ⟨F6, ρ6, fr6, st6, (S2.trans S3).trans S6, P2.trans P6, A6, p6⟩
      | rt w st' => intro q; exact q
      | exc c' p' fr' st' => intro q; exact q
      | bad => intro q; exact q
  · have ei : i = ds.length := by omega
    subst ei
    rw [List.drop_length] at p2
    exact .inl ⟨wk.stop _ b.P F2 ρ2 σ2 H2 fr2 st2 rfl S2 P2 A2 (fun m hm => by simp at hm), PoS.nxt p2 A2⟩
theorem s_while (Y : Cy g wx cf k X c) {t : E} {bd : Ss} {t' : Expr} {bd' : List Stmt} {pos : Pos} (hT : PT X t' (T g b wx BR (evB cf t))) (hB : PSs X bd' (TX g b wx (exs cf wf bd))) : PS X (.While t' bd' [] pos) (TX g b wx (ex cf wf (.whl t bd))) := PS.by fun D σ H q'' => by
  obtain ⟨F, ρ, fr, st, A, p⟩ := q''
  simp only [ex] at p
  have p : PoS g b wx (whileL (evB cf t) (exs cf wf bd) wf fr st) F ρ D := p
  refine ⟨_, ps_while Y.G.own hT hB, fun m σ2 H2 => ∃ F2 ρ2 fr2 st2, Ab g b F2 ρ2 σ2 H2 fr2 st2 ∧ PoS g b wx (whileL (evB cf t) (exs cf wf bd) m fr2 st2) F2 ρ2 D, ⟨wf, F, ρ, fr, st, A, p⟩, ?_⟩
  rintro m σ2 H2 ⟨F2, ρ2, fr2, st2, A2, p2⟩
  cases m with
  | zero => exact p2.elim
  | succ m =>
    simp only [whileL] at p2
    refine ⟨F2, ρ2, fr2, st2, A2, PoS.out p2 fun q s1 F3 ρ3 H3 v _ S3 P3 A3 rv p3 => ?_⟩
    cases rv
    cases q with
    | true =>
      rw [if_pos rfl] at p3 ⊢
      refine ⟨fun σ5 H5 => ∃ F5 ρ5 fr5 st5, Ab g b F5 ρ5 σ5 H5 fr5 st5 ∧ PoS g b wx (whileL (evB cf t) (exs cf wf bd) m fr5 st5) F5 ρ5 D, fun σ5 H5 h5 => ⟨m, by omega, h5⟩, F3, ρ3, fr2, s1, A3, ?_⟩
      have q := PoS.andThen p3
      revert q
      cases exs cf wf bd fr2 s1 with
      | nx fr5 st5 =>
        intro q
        exact fun F' ρ' σ5 H5 S5 P5 A5 => by
          obtain ⟨F6, ρ6, fr6, st6, S6, P6, A6, p6⟩ := q F' ρ' σ5 H5 S5 P5 A5
          exact ⟨F6, ρ6, fr6, st6, A6, p6⟩
      | rt w st' => intro q; exact q
      | exc c' p' fr' st' => intro q; exact q
      | bad => intro q; exact q
    | false =>
      rw [if_neg Bool.false_ne_true] at p3 ⊢
      exact p3.nxt A3

/-! ### several at once -/
def put1 (o : Bool) (i : Nat) (w : W) (fr : Fr) : Option Fr := if i < fr.length then (match o, w with
  | false, w => some (fr.set i (.dat w.d))
  | true, .own xs => some (fr.set i (.mut xs))
  | true, .dat _ => none) else none
def isOwn : W → Bool
  | .own _ => true
  | _ => false
theorem putP_cons (o : Bool) (i : Nat) (r : List (Bool × Nat)) (w : W) (ws : List W) (fr : Fr) : putP ((o, i) :: r) (w :: ws) fr = (put1 o i w fr).bind fun f => putP r ws f := by
  cases o <;> cases w <;> simp only [putP, put1] <;> split <;> rfl
theorem WR.mono {w : W} {v : V} (A : Ab g b F ρ σ H fr st) (h : WR g b F ρ H σ fr w v) (hw : isOwn w = false) (S : Same F F') (P : ρ <+: ρ') {H' : Hp} {σ' : L2.St} {fr' : Fr} : WR g b F' ρ' H' σ' fr' w v := by
  cases w with
  | dat d => exact VR.mono S P h
  | own xs => cases hw
theorem step1 {o : Bool} {i : Nat} {w : W} {fr' : Fr} {v : V} (A : Ab g b F ρ σ H fr st) (h : WR g b F ρ H σ fr w v) (e : put1 o i w fr = some fr') :
    ∃ F', Same F F' ∧ Ab g b F' ρ (σ.set i (some v)) H fr' st ∧ ∀ w2 v2, WR g b F ρ H σ fr w2 v2 → (isOwn w = true → isOwn w2 = true → v ≠ v2) → WR g b F' ρ H (σ.set i (some v)) fr' w2 v2 := by
  unfold put1 at e
  split at e
  · rename_i hi
    have hs : i < σ.length := by rw [← A.len]; exact hi
    cases o with
    | false =>
      simp only [Option.some.injEq] at e
      subst e
      cases w with
      | dat d =>
        refine ⟨F, .refl _, A.set hi h, fun w2 v2 h2 _ => ?_⟩
        cases w2 with
        | dat d2 => exact h2
        | own ys =>
          obtain ⟨a, vs, rfl, r1, r2, r3, r4, r5, r6, r7⟩ := h2
          refine ⟨a, vs, rfl, r1, r2, r3, r4, r5, fun j zs e => ?_, r7⟩
          by_cases z : i = j
          · subst z; rw [List.getElem?_set_self hi] at e; cases e
          · rw [List.getElem?_set_ne z] at e ⊢; exact r6 j zs e
      | own xs =>
        obtain ⟨a0, vs0, rfl, q1, q2, q3, q4, q5, q6, q7⟩ := h
        obtain ⟨A', S'⟩ := A.frzAt q1 q3 q4 q5 q6 q7
        refine ⟨_, S', A'.set hi (.lst upd_same (q2.mono S' (pfx _))), fun w2 v2 h2 ne => ?_⟩
        cases w2 with
        | dat d2 => exact VR.mono S' (pfx _) h2
        | own ys =>
          obtain ⟨a, vs, rfl, r1, r2, r3, r4, r5, r6, r7⟩ := h2
          refine ⟨a, vs, rfl, r1, r2.mono S' (pfx _), ?_, r4, r5, fun j zs e => ?_, r7⟩
          · rw [upd_ne (show a ≠ a0 from fun z => ne rfl rfl (by rw [z]))]; exact r3
          · by_cases z : i = j
            · subst z; rw [List.getElem?_set_self hi] at e; cases e
            · rw [List.getElem?_set_ne z] at e ⊢; exact r6 j zs e
    | true =>
      cases w with
      | dat d => cases e
      | own xs =>
        simp only [Option.some.injEq] at e
        subst e
        refine ⟨F, .refl _, A.setOwn hi h, fun w2 v2 h2 ne => ?_⟩
        cases w2 with
        | dat d2 => exact h2
        | own ys =>
          obtain ⟨a, vs, rfl, r1, r2, r3, r4, r5, r6, r7⟩ := h2
          refine ⟨a, vs, rfl, r1, r2, r3, r4, r5, fun j zs e => ?_, r7⟩
          by_cases z : i = j
          · subst z
            rw [List.getElem?_set_self hs]
            intro y
            cases y
            exact ne rfl rfl rfl
          · rw [List.getElem?_set_ne z] at e ⊢; exact r6 j zs e
  · cases e
/-- a result is held while the next part runs -/
theorem hold {w : W} {v : V} (A : Ab g b F ρ σ H fr st) (h : WR g b F ρ H σ fr w v) : ∃ b', Ab g b' F ρ σ H fr st ∧
    ∀ F2 ρ2 H2 s2, Same F F2 → ρ <+: ρ2 → Ab g b' F2 ρ2 σ H2 fr s2 → Ab g b F2 ρ2 σ H2 fr s2 ∧ WR g b F2 ρ2 H2 σ fr w v ∧ ∀ w2 v2, WR g b' F2 ρ2 H2 σ fr w2 v2 → WR g b F2 ρ2 H2 σ fr w2 v2 ∧ (isOwn w = true → isOwn w2 = true → v ≠ v2) := by
  cases w with
  | dat d => exact ⟨b, A, fun F2 ρ2 H2 s2 S P B => ⟨B, VR.mono S P h, fun w2 v2 h2 => ⟨h2, fun z => by cases z⟩⟩⟩
  | own xs =>
    obtain ⟨a, vs, rfl, q1, q2, q3, q4, q5, q6, q7⟩ := h
    refine ⟨{ b with P := (a, .lst vs) :: b.P }, ⟨A.sub, A.ext, A.new, A.rho, A.keep, A.fsh, A.sto, A.len, A.dat, A.mu, A.apart, fun q hq => ?_⟩, fun F2 ρ2 H2 s2 S P B => ?_⟩
    · rcases List.mem_cons.mp hq with z | z
      · subst z; exact ⟨q1, q3, q4, q5, q6⟩
      · exact A.pin q z
    · have pn := B.pin (a, .lst vs) List.mem_cons_self
      refine ⟨B.unpin, ⟨a, vs, rfl, pn.1, q2.mono S P, pn.2.1, pn.2.2.1, pn.2.2.2.1, pn.2.2.2.2, q7⟩, fun w2 v2 h2 => ?_⟩
      cases w2 with
      | dat d2 => exact ⟨h2, fun _ z => by cases z⟩
      | own ys =>
        obtain ⟨a2, vs2, rfl, r1, r2, r3, r4, r5, r6, r7⟩ := h2
        refine ⟨⟨a2, vs2, rfl, r1, r2, r3, r4, r5, r6, fun q hq => r7 q (List.mem_cons_of_mem _ hq)⟩, fun _ _ z => ?_⟩
        cases z
        exact r7 (a, .lst vs) List.mem_cons_self rfl
def wAny (g : Gb) (wx : WX) (f : Fr → Sto → R W) : TE := fun σ H Q => ∃ b', T g b' wx WR f σ H Q
theorem pe_wAny {e : Expr} {f : Fr → Sto → R W} (h : ∀ b', PE X e (T g b' wx WR f)) : PE X e (wAny g wx f) := PE.by fun σ H Q ⟨b', q⟩ => ⟨_, h b', q⟩
/-- the part of the last exception's clause -/
theorem exc_unpin {b' : Bs} (hb : ∀ F2 ρ2 H2 s2, Same F F2 → ρ <+: ρ2 → Ab g b' F2 ρ2 σ H2 fr s2 → Ab g b F2 ρ2 σ H2 fr s2) {α β : Type} {Rl R2 : Rel α β} {r : R α} {f : α → Sto → Out} {Q : β → Hp → Prop} (h : PoS g b wx (r.out fr f) F ρ Dn)
    (hk : ∀ a s1 F1 ρ1 H1 v, r = .ok a s1 → Same F F1 → ρ <+: ρ1 → Ab g b' F1 ρ1 σ H1 fr s1 → Rl g b' F1 ρ1 H1 σ fr a v → PoS g b wx (f a s1) F1 ρ1 Dn → Q v H1) : Po g b' wx Rl r F ρ σ fr Q := by
  cases r with
  | ok a st => exact fun F2 ρ2 H2 v s p A rl => hk a st F2 ρ2 H2 v rfl s p A rl (PoS.mono (o := f a st) h s p)
  | exc c p st => exact fun F2 ρ2 H2 cls d s p A x => h F2 ρ2 σ H2 cls d s p (hb F2 ρ2 H2 _ s p A) x
  | bad => exact h.elim
theorem out_bind {α β : Type} {r : R α} {f : α → Sto → R β} {q : β → Sto → Out} : (r.bind f).out fr q = r.out fr fun a s => (f a s).out fr q := by
  cases r <;> rfl
theorem s_par2 (Y : Cy g wx cf k X c) {i j : Nat} {o1 o2 : Bool} {e1 e2 : E} {x y : Str} {v1 v2 : Expr} {px py pt : Pos} {kt k2 pt2 pos} (hi : X.N[i]? = some x) (hj : X.N[j]? = some y) (hij : i ≠ j) (hx : X.env.scope.names.lookup x = some .local) (hy : X.env.scope.names.lookup y = some .local)
    (n1 : noStar v1 = true) (n2 : noStar v2 = true) (h1 : ∀ b', PE X v1 (T g b' wx WR (ev cf e1))) (h2 : ∀ b', PE X v2 (T g b' wx WR (ev cf e2)))
    (hw : swappedStores [.Tuple [.Name x px, .Name y py] kt pt] (.Tuple [v1, v2] k2 pt2) X.env = pure (some [x, y])) :
    PS X (.Assign [.Tuple [.Name x px, .Name y py] kt pt] (.Tuple [v1, v2] k2 pt2) pos) (TX g b wx (ex cf wf (.par [(o1, i), (o2, j)] (.cons e1 (.cons e2 .nil))))) := PS.by fun D σ H q'' => by
  obtain ⟨F, ρ, fr, st, A, p⟩ := q''
  simp only [ex, evW, out_bind] at p
  refine ⟨_, ps_par Y.G.calm Y.G.nd hi hj hij hx hy (pa_cons (pe_wAny h1) (pa_cons (pe_wAny h2) pa_nil (noStar_cons n2 _)) (noStar_cons n1 _)) hw, ?_⟩
  refine ⟨b, F, ρ, fr, st, A, PoS.out p fun w1 s1 F1 ρ1 H1 u1 _ _ _ A1 r1 p1 => ?_⟩
  obtain ⟨b', A1', hb'⟩ := hold A1 r1
  refine ⟨b', F1, ρ1, fr, s1, A1', exc_unpin (R2 := WR) (fun F2 ρ2 H2 s2 S P B => (hb' F2 ρ2 H2 s2 S P B).1) p1 fun w2 s2 F2 ρ2 H2 u2 _ S2 P2 A2' r2 p2 => ?_⟩
  obtain ⟨A2, r1', hn⟩ := hb' F2 ρ2 H2 s2 S2 P2 A2'
  obtain ⟨r2', ne⟩ := hn w2 u2 r2
  simp only [R.out, putP_cons] at p2
  refine ⟨u1, u2, rfl, ?_⟩
  cases ep : put1 o1 i w1 fr with
  | none => rw [ep] at p2; exact p2.elim
  | some f1 =>
    rw [ep] at p2
    obtain ⟨F3, S3, A3, hr3⟩ := step1 A2 r1' ep
    simp only [Option.bind_some] at p2
    cases ep2 : put1 o2 j w2 f1 with
    | none => rw [ep2] at p2; exact p2.elim
    | some f2 =>
      rw [ep2] at p2
      obtain ⟨F4, S4, A4, _⟩ := step1 A3 (hr3 w2 u2 r2' ne) ep2
      exact (p2.mono (S3.trans S4) (pfx _)).nxt A4
theorem s_par3 (Y : Cy g wx cf k X c) {i j l : Nat} {o1 o2 o3 : Bool} {e1 e2 e3 : E} {x y z : Str} {v1 v2 v3 : Expr} {px py pz pt : Pos} {kt k2 pt2 pos} (hi : X.N[i]? = some x) (hj : X.N[j]? = some y) (hl : X.N[l]? = some z) (hij : i ≠ j) (hil : i ≠ l) (hjl : j ≠ l)
    (hx : X.env.scope.names.lookup x = some .local) (hy : X.env.scope.names.lookup y = some .local) (hz : X.env.scope.names.lookup z = some .local)
    (n1 : noStar v1 = true) (n2 : noStar v2 = true) (n3 : noStar v3 = true) (h1 : ∀ b', PE X v1 (T g b' wx WR (ev cf e1))) (h2 : ∀ b', PE X v2 (T g b' wx WR (ev cf e2))) (h3 : ∀ b', PE X v3 (T g b' wx WR (ev cf e3)))
    (hw : swappedStores [.Tuple [.Name x px, .Name y py, .Name z pz] kt pt] (.Tuple [v1, v2, v3] k2 pt2) X.env = pure (some [x, y, z])) :
    PS X (.Assign [.Tuple [.Name x px, .Name y py, .Name z pz] kt pt] (.Tuple [v1, v2, v3] k2 pt2) pos) (TX g b wx (ex cf wf (.par [(o1, i), (o2, j), (o3, l)] (.cons e1 (.cons e2 (.cons e3 .nil)))))) := PS.by fun D σ H q'' => by
  obtain ⟨F, ρ, fr, st, A, p⟩ := q''
  simp only [ex, evW, out_bind] at p
  refine ⟨_, ps_par3 Y.G.calm Y.G.nd hi hj hl hij hil hjl hx hy hz (pa_cons (pe_wAny h1) (pa_cons (pe_wAny h2) (pa_cons (pe_wAny h3) pa_nil (noStar_cons n3 _)) (noStar_cons n2 _)) (noStar_cons n1 _)) hw, ?_⟩
  refine ⟨b, F, ρ, fr, st, A, PoS.out p fun w1 s1 F1 ρ1 H1 u1 _ _ _ A1 r1 p1 => ?_⟩
  obtain ⟨b', A1', hb'⟩ := hold A1 r1
  refine ⟨b', F1, ρ1, fr, s1, A1', exc_unpin (R2 := WR) (fun F2 ρ2 H2 s2 S P B => (hb' F2 ρ2 H2 s2 S P B).1) p1 fun w2 s2 F2 ρ2 H2 u2 _ S2 P2 A2' r2 p2 => ?_⟩
  obtain ⟨b2, A2b, hb2⟩ := hold A2' r2
  have un2 : ∀ F3 ρ3 H3 s3, Same F2 F3 → ρ2 <+: ρ3 → Ab g b2 F3 ρ3 σ H3 fr s3 → Ab g b F3 ρ3 σ H3 fr s3 := fun F3 ρ3 H3 s3 S P B => (hb' F3 ρ3 H3 s3 (S2.trans S) (P2.trans P) (hb2 F3 ρ3 H3 s3 S P B).1).1
  refine ⟨b2, F2, ρ2, fr, s2, A2b, exc_unpin (R2 := WR) un2 p2 fun w3 s3 F3 ρ3 H3 u3 _ S3 P3 A3b r3 p3 => ?_⟩
  obtain ⟨A3', r2', hn2⟩ := hb2 F3 ρ3 H3 s3 S3 P3 A3b
  obtain ⟨r3', ne23⟩ := hn2 w3 u3 r3
  obtain ⟨A3, r1', hn1⟩ := hb' F3 ρ3 H3 s3 (S2.trans S3) (P2.trans P3) A3'
  obtain ⟨r2'', ne12⟩ := hn1 w2 u2 r2'
  obtain ⟨r3'', ne13⟩ := hn1 w3 u3 r3'
  simp only [R.out, putP_cons] at p3
  refine ⟨u1, u2, u3, rfl, ?_⟩
  cases ep : put1 o1 i w1 fr with
  | none => rw [ep] at p3; exact p3.elim
  | some f1 =>
    rw [ep] at p3
    obtain ⟨F4, S4, A4, hr4⟩ := step1 A3 r1' ep
    simp only [Option.bind_some] at p3
    cases ep2 : put1 o2 j w2 f1 with
    | none => rw [ep2] at p3; exact p3.elim
    | some f2 =>
      rw [ep2] at p3
      obtain ⟨F5, S5, A5, hr5⟩ := step1 A4 (hr4 w2 u2 r2'' ne12) ep2
      simp only [Option.bind_some] at p3
      cases ep3 : put1 o3 l w3 f2 with
      | none => rw [ep3] at p3; exact p3.elim
      | some f3 =>
        rw [ep3] at p3
        obtain ⟨F6, S6, A6, _⟩ := step1 A5 (hr5 w3 u3 (hr4 w3 u3 r3'' ne13) ne23) ep3
        exact (p3.mono ((S4.trans S5).trans S6) (pfx _)).nxt A6
end
end MP

set_option Elab.async false
set_option linter.all false
set_option maxRecDepth 100000
set_option maxHeartbeats 8000000
namespace MP
open PySem PySem.Spec L2
section
variable {g : Gb} {b : Bs} {wx : WX} {cf : Nat → List D → Sto → R W} {k wf : Nat} {X : Cx} {c : Cc} {F F' : Hp} {ρ ρ' : Rho} {σ : L2.St} {H H' : Hp} {fr : Fr} {st st' : Sto} {Q : VK} {Dn : Ends}
/-- a cell that nobody tracks is written -/
theorem Ab.write (A : Ab g b F ρ [] H [] st) {a : Addr} (o : HO) (f1 : F a = none) (n1 : a ∉ sh ρ) (h1 : b.H0 a = none) (q1 : ∀ q ∈ b.P, q.1 ≠ a) : Ab g b F ρ [] (upd H a o) [] st where
  sub := fun x u e => by
    rw [upd_ne (show x ≠ a from fun z => by subst z; rw [f1] at e; cases e)]
    exact A.sub _ _ e
  ext := A.ext
  new := A.new
  rho := A.rho
  keep := fun x u e m => by
    rw [upd_ne (show x ≠ a from fun z => by subst z; rw [h1] at e; cases e)]
    exact A.keep x u e m
  fsh := A.fsh
  sto := A.sto.of fun c hc => upd_ne fun z => n1 (z ▸ hc)
  len := rfl
  dat := fun i d h => by simp at h
  mu := fun i d h => by simp at h
  apart := fun i j a xs ys h => by simp at h
  pin := fun q hq => by
    obtain ⟨k1, k2, k3, k4, k5⟩ := A.pin q hq
    refine ⟨?_, k2, k3, k4, k5⟩
    rw [upd_ne (q1 q hq)]
    exact k1
abbrev drawKV (m : Int) (a : Addr) (t : Int) : List (Key × V) := [(.inr "mixed", .int m), (.inr "great", .ref a), (.inr "turn", .int t)]
theorem merge3 (m : Int) (a : Addr) (t : Int) : mergeK [] (drawKV m a t) = drawKV m a t := by
  have e1 : (Str.ofString "mixed" = Str.ofString "great") = False := eq_false (by decide +kernel)
  have e2 : (Str.ofString "mixed" = Str.ofString "turn") = False := eq_false (by decide +kernel)
  have e3 : (Str.ofString "great" = Str.ofString "turn") = False := eq_false (by decide +kernel)
  simp [mergeK, putK, drawKV, e1, e2, e3]
theorem mk_inv {x y z : W} (p : PoS g b wx (match x.d, y, z.d with
    | .int m, .own xs, .int t => .rt (.dat (.ref (st.length + 1))) (st ++ [.lst xs, .dct [("mixed", .int m), ("great", .ref st.length), ("turn", .int t)]])
    | _, _, _ => .bad) F ρ Dn) : ∃ m xs t, x.d = .int m ∧ y = .own xs ∧ z.d = .int t ∧ PoS g b wx (.rt (.dat (.ref (st.length + 1))) (st ++ [.lst xs, .dct [("mixed", .int m), ("great", .ref st.length), ("turn", .int t)]])) F ρ Dn := by
  revert p
  generalize x.d = dx
  generalize z.d = dz
  intro p
  cases dx <;> first | exact p.elim | skip
  cases y <;> first | exact p.elim | skip
  cases dz <;> first | exact p.elim | skip
  exact ⟨_, _, _, rfl, rfl, rfl, p⟩
theorem s_mk (Y : Cy g wx cf k X c) {e1 e2 e3 : E} {v1 v2 v3 : Expr} {j1 j2 j3 : Nat} {p1 p2 p3 pd pos : Pos} (h1 : ∀ b', PE X v1 (T g b' wx WR (ev cf e1))) (h2 : ∀ b', PE X v2 (T g b' wx WR (ev cf e2))) (h3 : ∀ b', PE X v3 (T g b' wx WR (ev cf e3))) :
    PS X (.Return (some (.Dict [some (.Constant (.str "mixed") j1 p1), some (.Constant (.str "great") j2 p2), some (.Constant (.str "turn") j3 p3)] [v1, v2, v3] pd)) pos) (TX g b wx (ex cf wf (.mk e1 e2 e3))) := PS.by fun D σ H q'' => by
  obtain ⟨F, ρ, fr, st, A, p⟩ := q''
  simp only [ex] at p
  refine ⟨_, ps_ret (pe_disp (pps_cons pe_str (pe_wAny h1) (pps_cons pe_str (pe_wAny h2) (pps_cons pe_str (pe_wAny h3) pps_nil))) rfl rfl (by simp) (by simp)), ?_⟩
  intro pa hpa
  have A0 := A.pinNew (.dK []) hpa
  have np : ∀ q ∈ b.P, q.1 ≠ pa := fun q hq => A.npin hpa hq
  refine ⟨_, F, ρ, fr, st, A0, exc_unpin (R2 := WR) (fun F2 ρ2 H2 s2 S P B => B.unpin) p fun w1 s1 F1 ρ1 H1 u1 _ S1 P1 A1 r1 p1 => ?_⟩
  obtain ⟨b', A1', hb'⟩ := hold A1 r1
  refine ⟨b', F1, ρ1, fr, s1, A1', exc_unpin (R2 := WR) (fun F2 ρ2 H2 s2 S P B => (hb' F2 ρ2 H2 s2 S P B).1.unpin) p1 fun w2 s2 F2 ρ2 H2 u2 _ S2 P2 A2' r2 p2 => ?_⟩
  obtain ⟨b2, A2b, hb2⟩ := hold A2' r2
  refine ⟨b2, F2, ρ2, fr, s2, A2b, exc_unpin (R2 := WR) (fun F3 ρ3 H3 s3 S P B => (hb' F3 ρ3 H3 s3 (S2.trans S) (P2.trans P) (hb2 F3 ρ3 H3 s3 S P B).1).1.unpin) p2 fun w3 s3 F3 ρ3 H3 u3 _ S3 P3 A3b r3 p3 => ?_⟩
  obtain ⟨A3', r2', hn2⟩ := hb2 F3 ρ3 H3 s3 S3 P3 A3b
  obtain ⟨r3', ne23⟩ := hn2 w3 u3 r3
  obtain ⟨A3, r1', hn1⟩ := hb' F3 ρ3 H3 s3 (S2.trans S3) (P2.trans P3) A3'
  obtain ⟨r2'', ne12⟩ := hn1 w2 u2 r2'
  obtain ⟨r3'', ne13⟩ := hn1 w3 u3 r3'
  have pn := A3.pin (pa, .dK []) List.mem_cons_self
  obtain ⟨m, xs, t, e1, e2', e3, p4⟩ := mk_inv p3
  subst e2'
  have iv : ∀ {w : W} {u : V} {i : Int}, WR g { b with P := (pa, .dK []) :: b.P } F3 ρ3 H3 σ fr w u → w.d = .int i → u = .int i := fun {w u i} r e => by
    cases w with
    | dat d => simp only [W.d] at e; subst e; exact VR.intI r
    | own ys => cases e
  have z1 := iv r1' e1
  have z3 := iv r3'' e3
  subst z1; subst z3
  obtain ⟨a, vs, rfl, a1, a2, a3, a4, a5, a6, a7⟩ := r2''
  refine ⟨pn.1, drawKV m a t, rfl, by simp [drawKV], ?_⟩
  rw [merge3]
  have hap : pa ≠ a := a7 (pa, .dK []) List.mem_cons_self
  have B0 := A3.unpin.bare.write (.dK (drawKV m a t)) pn.2.1 pn.2.2.1 pn.2.2.2.1 np
  have a1' : upd H3 pa (.dK (drawKV m a t)) a = some (.lst vs) := (upd_ne (Ne.symm hap)).trans a1
  have B1 := B0.newOb (o := .lst xs) ⟨vs, a1', a2.mono (.refl _) (List.prefix_append _ _)⟩ a3 a4 a5 (fun i ys e => by simp at e) fun q hq => a7 q (List.mem_cons_of_mem _ hq)
  have hl : (ρ3 ++ [a])[s3.length]? = some a := by
    rw [← A3.sto.len, List.getElem?_append_right (Nat.le_refl _), Nat.sub_self]; rfl
  have hl' : ((ρ3 ++ [a]) ++ [pa])[s3.length]? = some a := by
    rw [List.getElem?_append_left (by rw [List.length_append, A3.sto.len]; simp)]; exact hl
  have B2 := B1.newOb (a := pa) (o := .dct [("mixed", .int m), ("great", .ref s3.length), ("turn", .int t)]) ⟨[.int m, .ref a, .int t], upd_same, .cons (.int m) (.cons (.ref hl') (.cons (.int t) .nil))⟩ pn.2.1 (fun z => by
    rcases List.mem_append.mp z with z | z
    · exact pn.2.2.1 z
    · exact hap (List.mem_singleton.mp z)) pn.2.2.2.1 (fun i ys e => by simp at e) np
  rw [List.append_assoc, List.append_assoc] at B2
  refine p4 F3 (ρ3 ++ ([a] ++ [pa])) _ (.ref pa) (.refl _) (List.prefix_append _ _) B2 ?_
  have hl2 : (ρ3 ++ ([a] ++ [pa]))[s3.length + 1]? = some pa := by
    rw [← A3.sto.len, List.getElem?_append_right (Nat.le_add_right _ _), Nat.add_sub_cancel_left]; rfl
  exact VR.ref hl2

theorem Ab.setG (A : Ab g b F ρ σ H fr st) {d e : D} {x : Str} {v u : V} (h : putF x d e st = some st') (rd : VR g F ρ d v) (re : VR g F ρ e u) : ∃ a H', v = .ref a ∧ DPut H a (.str x) u H' ∧ Ab g b F ρ σ H' fr st' := by
  cases d <;> simp only [putF] at h <;> first | (cases h; done) | skip
  rename_i n
  obtain ⟨a, rfl, er⟩ := rd.refI
  split at h
  · rename_i kvs es
    split at h
    · rename_i hk
      simp only [Bool.and_eq_true, decide_eq_true_eq] at hk
      cases ep : putD x e kvs with
      | none => rw [ep] at h; cases h
      | some q =>
        rw [ep] at h
        cases h
        obtain ⟨vs, h1, h2⟩ := A.sto.at_ n _ a es er
        obtain ⟨us, h3, h4⟩ := putD_ok h2 re hk.1 ep
        have hp : putK ((kvs.map fun kv => (Sum.inr kv.1 : Key)).zip vs) (.inr x) u = (q.map fun kv => (Sum.inr kv.1 : Key)).zip us := by
          unfold putK
          rw [if_pos (putD_any h2 ep), h3]
        refine ⟨a, _, rfl, DPut.k (k := .inr x) h1 ?_, ?_⟩
        · rw [List.length_zip, List.length_map, sizeLine_eq]
          omega
        · rw [hp]
          exact A.setOb es er rfl ⟨us, upd_same, h4⟩ rfl
    · cases h
  · cases h
theorem hu1 (Y : Cy g wx cf k X c) : X.A.units + 1 < cLine := Nat.lt_of_le_of_lt (Nat.add_le_add_left (by decide) _) Y.G.room.units
theorem s_put (Y : Cy g wx cf k X c) {a e : E} {x : Str} {a' v : Expr} {j : Nat} {p1 p2 pos : Pos} (hn : noComp v = true) (ha : PE X a' (T g b wx DR (ev cf a))) (hE : PE X v (T g b wx DR (ev cf e))) :
    PS X (.Assign [.Subscript a' (.Constant (.str x) j p1) p2] v pos) (TX g b wx (ex cf wf (.put a x e))) := PS.by fun D σ H q'' => by
  obtain ⟨F, ρ, fr, st, A, p⟩ := q''
  simp only [ex] at p
  refine ⟨_, ps_dput (hu1 Y) ha pe_str hE (noComp_swap hn), ?_⟩
  refine ⟨F, ρ, fr, st, A, PoS.out p fun w s1 F1 ρ1 H1 v1 _ _ _ A1 rv p1 => ⟨F1, ρ1, fr, s1, A1, PoS.out p1 fun w2 s2 F2 ρ2 H2 u _ S2 P2 A2 ru p2 => ?_⟩⟩
  cases eq : putF x w2.d w.d s2 with
  | none => rw [eq] at p2; exact p2.elim
  | some s3 =>
    rw [eq] at p2
    obtain ⟨a0, H', e1, e2, A3⟩ := A2.setG eq ru (VR.mono S2 P2 rv)
    exact ⟨a0, H', e1, e2, p2.nxt A3⟩
theorem s_obs (Y : Cy g wx cf k X c) {a i e : E} {a' i' v : Expr} {p2 pos : Pos} (hs : noSlice i' = true) (hn : noComp v = true) (ha : PE X a' (T g b wx DR (ev cf a))) (hi : PE X i' (T g b wx DR (ev cf i))) (hE : PE X v (T g b wx DR (ev cf e))) :
    PS X (.Assign [.Subscript a' i' p2] v pos) (TX g b wx (ex cf wf (.obs a i e))) := PS.by fun D σ H q'' => by
  obtain ⟨F, ρ, fr, st, A, p⟩ := q''
  simp only [ex] at p
  refine ⟨_, ps_asg hE (pg_sub ha hi set_list (by intro v; cases i' <;> first | rfl | cases hs)) (noComp_sole hn) (by cases v <;> rfl) (by cases i' <;> first | rfl | cases hs), ?_⟩
  refine ⟨F, ρ, fr, st, A, PoS.out p fun w s1 F1 ρ1 H1 v1 _ _ _ A1 rv p1 => ⟨F1, ρ1, fr, s1, A1, PoS.out p1 fun w2 s2 F2 ρ2 H2 u _ S2 P2 A2 ru p2 => ⟨F2, ρ2, fr, s2, A2, PoS.out p2 fun w3 s3 F3 ρ3 H3 u3 _ S3 P3 A3 rz p3 => ?_⟩⟩⟩
  split at p3
  · rename_i n en
    have rz' : VR g F3 ρ3 w3.d u3 := rz
    rw [en] at rz'
    have eu := rz'.intI
    subst eu
    cases eq : setF w2.d n w.d s3 with
    | none => rw [eq] at p3; exact p3.elim
    | some s4 =>
      rw [eq] at p3
      have ru' : VR g F3 ρ3 w2.d u := VR.mono S3 P3 ru
      have rv' : VR g F3 ρ3 w.d v1 := VR.mono S3 P3 (VR.mono S2 P2 rv)
      revert eq ru'
      generalize w2.d = d
      intro eq ru'
      cases d <;> simp only [setF] at eq <;> first | (cases eq; done) | skip
      rename_i m
      obtain ⟨a0, rfl, er⟩ := ru'.refI
      split at eq
      · rename_i xs es
        obtain ⟨vs, h1, h2⟩ := A3.sto.at_ m _ a0 es er
        cases ej : ixD xs.length n with
        | none => rw [ej] at eq; cases eq
        | some j =>
          rw [ej] at eq
          cases eq
          exact ⟨a0, vs, n, j, rfl, rfl, h1, by rw [← h2.length]; exact ej, p3.nxt (A3.setOb es er rfl ⟨_, upd_same, h2.set j rv'⟩ rfl)⟩
      · cases eq
  · exact p3.elim
theorem s_ppar (Y : Cy g wx cf k X c) {a e1 e2 : E} {x z : Str} {i : Nat} {a' v1 v2 : Expr} {j k1 k2 : Nat} {p1 p2 p3 p4 p5 pos : Pos} (hw : swCls c.sc [.Subscript a' (.Constant (.str x) j p1) p2, .Name z p3] [v1, v2] = some none) (hl : locB c i z = true) (n1 : noStar v1 = true) (n2 : noStar v2 = true) (ha : PE X a' (T g b wx DR (ev cf a))) (h1 : PE X v1 (T g b wx DR (ev cf e1))) (h2 : PE X v2 (T g b wx DR (ev cf e2))) :
    PS X (.Assign [.Tuple [.Subscript a' (.Constant (.str x) j p1) p2, .Name z p3] k1 p4] (.Tuple [v1, v2] k2 p5) pos) (TX g b wx (ex cf wf (.ppar a x i e1 e2))) := PS.by fun D σ H q'' => by
  obtain ⟨F, ρ, fr, st, A, p⟩ := q''
  obtain ⟨l1, l2, l3⟩ := Y.loc hl
  simp only [ex] at p
  refine ⟨_, ps_asg (pe_tup (pa_cons h1 (pa_cons h2 pa_nil (noStar_cons n2 _)) (noStar_cons n1 _))) (pg_tup Y.G.calm (pgs_cons (pg_sub ha pe_str (set_dict (hu1 Y))) (pgs_cons (pg_name Y.G.nd l1 l2 l3) pgs_nil)))
    rfl (sw_none Y.hsc Y.kind hw) rfl, ?_⟩
  refine ⟨F, ρ, fr, st, A, PoS.out p fun w s1 F1 ρ1 H1 u1 _ _ _ A1 rv p1 => ⟨F1, ρ1, fr, s1, A1, PoS.out p1 fun w2 s2 F2 ρ2 H2 u2 _ S2 P2 A2 ru p2 => ⟨by show 2 ≤ sizeLine; decide, fun q hq => ?_⟩⟩⟩
  have A3 := A2.alloc (.tup [u1, u2]) hq
  refine ⟨q, [u1, u2], rfl, .inl (.inl upd_same), rfl, u1, [u2], rfl, ?_⟩
  refine ⟨F2, ρ2, fr, s2, A3, PoS.out p2 fun w3 s3 F3 ρ3 H3 u3 _ S3 P3 A4 rz p3 => ?_⟩
  cases eq : putF x w3.d w.d s3 with
  | none => rw [eq] at p3; exact p3.elim
  | some s4 =>
    rw [eq] at p3
    obtain ⟨a0, H', e1, e2, A5⟩ := A4.setG eq rz (VR.mono S3 P3 (VR.mono S2 P2 rv))
    refine ⟨a0, H', e1, e2, u2, [], rfl, rfl, ?_⟩
    simp only at p3
    split at p3
    · rename_i hi
      exact p3.nxt (A5.set hi (VR.mono S3 P3 ru))
    · exact p3.elim
theorem melt_ok : ∀ {ds : List D} {vs : List V} {F : Hp} {st : Sto} {q : List D × Sto}, Ab g b F ρ σ H fr st → VRs g F ρ ds vs → meltD ds st = some q → ∃ F', Same F F' ∧ Ab g b F' ρ σ H fr q.2 ∧ VRs g F' ρ q.1 vs
  | [], _, F, st, q, A, r, e => by
    cases r
    cases e
    exact ⟨F, .refl _, A, .nil⟩
  | d :: ds, _, F, st, q, A, r, e => by
    cases r with
    | cons r1 r2 =>
      cases d <;> simp only [meltD] at e <;> first | (cases e; done) | skip
      rename_i n
      split at e
      · rename_i xs es
        obtain ⟨a, rfl, er⟩ := r1.refI
        obtain ⟨F1, S1, A1, v1⟩ := A.meltOb es er
        cases em : meltD ds (st.set n .gone) with
        | none => rw [em] at e; cases e
        | some q' =>
          rw [em] at e
          cases e
          obtain ⟨F2, S2, A2, v2⟩ := melt_ok A1 (r2.mono S1 (pfx _)) em
          exact ⟨F2, S1.trans S2, A2, .cons (v1.mono S2 (pfx _)) v2⟩
      · cases e
theorem s_melt {i : Nat} {r : Ss} {r' : List Stmt} (h : PSs X r' (TX g b wx (exs cf wf r))) : PSs X r' (TX g b wx (exs cf wf (.melt i r))) := PSs.by fun D σ H q'' => by
  obtain ⟨F, ρ, fr, st, A, p⟩ := q''
  simp only [exs] at p
  refine ⟨_, h, ?_⟩
  split at p
  · rename_i xs e
    cases em : meltD xs st with
    | none => rw [em] at p; exact p.elim
    | some q =>
      rw [em] at p
      obtain ⟨v, h1, h2⟩ := A.dat i _ (getD_some e)
      obtain ⟨a, vs, rfl, h3, h4⟩ := h2.lstI
      obtain ⟨F', S, A', r⟩ := melt_ok A h4 em
      have hi : i < fr.length := (List.getElem?_eq_some_iff.mp (getD_some e)).1
      have hs : i < σ.length := by rw [← A.len]; exact hi
      have B := A'.set (i := i) (d := .lst q.1) (v := .ref a) hi (.lst (S _ _ h3) r)
      have es : σ.set i (some (.ref a)) = σ := by
        refine List.ext_getElem? fun j => ?_
        by_cases z : i = j
        · subst z; rw [List.getElem?_set_self hs, h1]
        · rw [List.getElem?_set_ne z]
      rw [es] at B
      exact ⟨F', ρ, _, _, B, p.mono S (pfx _)⟩
  · exact p.elim
end
end MP

set_option Elab.async false
set_option linter.all false
set_option maxRecDepth 100000
set_option maxHeartbeats 8000000
namespace MP
open PySem PySem.Spec L2
section
variable {g : Gb} {cf : Nat → List D → Sto → R W} {k wf : Nat}
theorem par_names : ∀ (gs : List (Bool × Nat)) (ts : List Expr) (c : Cc), parB c gs ts = true → gs.length = ts.length
  | [], [], _, _ => rfl
  | [], _ :: _, _, h => by cases h
  | (_, _) :: _, [], _, h => by cases h
  | (_, i) :: r, e :: es, c, h => by
    cases e <;> first | (cases h; done) | skip
    simp only [parB, Bool.and_eq_true] at h
    simp [par_names r es c h.2]
theorem parB_cons {c : Cc} {o : Bool} {i : Nat} {r : List (Bool × Nat)} {e : Expr} {es : List Expr} (h : parB c ((o, i) :: r) (e :: es) = true) : ∃ x p, e = .Name x p ∧ c.N[i]? = some x ∧ c.sc.names.lookup x = some .local ∧ parB c r es = true := by
  cases e <;> first | (cases h; done) | skip
  rename_i x p
  simp only [parB, Bool.and_eq_true, decide_eq_true_eq] at h
  exact ⟨x, p, rfl, h.1.1, h.1.2, h.2⟩
theorem mA0_cons {c : Cc} {es : A} {v : Expr} {vs : List Expr} (h : mA0 c es (v :: vs) = true) : ∃ e r, es = .cons e r ∧ noStar v = true ∧ mE c e v = true ∧ mA0 c r vs = true := by
  cases es <;> first | (cases h; done) | skip
  rename_i e r
  simp only [mA0, Bool.and_eq_true] at h
  exact ⟨e, r, rfl, h.1.1, h.1.2, h.2⟩
theorem mA0_nil {c : Cc} {es : A} (h : mA0 c es [] = true) : es = .nil := by
  cases es <;> first | rfl | cases h
theorem s_par {b : Bs} {wx : WX} {X : Cx} {c : Cc} (Y : Cy g wx cf k X c) {gs : List (Bool × Nat)} {es : A} {ts vs : List Expr} {k1 k2 : Nat} {p1 p2 pos : Pos} (h1 : swCls c.sc ts vs = some (some (namesOf ts))) (h2 : parB c gs ts = true) (h3 : mA0 c es vs = true) (h4 : (gs.map (·.2)).Nodup) (h5 : gs.length = vs.length) :
    PS X (.Assign [.Tuple ts k1 p1] (.Tuple vs k2 p2) pos) (TX g b wx (ex cf wf (.par gs es))) := by
  have hw := sw_none (k1 := k1) (k2 := k2) (p1 := p1) (p2 := p2) Y.hsc Y.kind h1
  have l1 := par_names gs ts c h2
  match gs, ts, vs, h1, h2, h3, h4, h5, l1, hw with
  | [(o1, i), (o2, j)], [t1, t2], [v1, v2], h1, h2, h3, h4, h5, l1, hw =>
    obtain ⟨x, px, rfl, a1, a2, h2⟩ := parB_cons h2
    obtain ⟨y, py, rfl, b1, b2, h2⟩ := parB_cons h2
    obtain ⟨e1, r1, rfl, n1, m1, h3⟩ := mA0_cons h3
    obtain ⟨e2, r2, rfl, n2, m2, h3⟩ := mA0_cons h3
    have e3 := mA0_nil h3
    subst e3
    refine s_par2 Y (by rw [Y.hN]; exact a1) (by rw [Y.hN]; exact b1) ?_ (by rw [Y.hsc]; exact a2) (by rw [Y.hsc]; exact b2) n1 n2 (fun b' => sE e1 b' Y v1 m1) (fun b' => sE e2 b' Y v2 m2) hw
    simp at h4
    exact h4
  | [(o1, i), (o2, j), (o3, l)], [t1, t2, t3], [v1, v2, v3], h1, h2, h3, h4, h5, l1, hw =>
    obtain ⟨x, px, rfl, a1, a2, h2⟩ := parB_cons h2
    obtain ⟨y, py, rfl, b1, b2, h2⟩ := parB_cons h2
    obtain ⟨z, pz, rfl, c1, c2, h2⟩ := parB_cons h2
    obtain ⟨e1, r1, rfl, n1, m1, h3⟩ := mA0_cons h3
    obtain ⟨e2, r2, rfl, n2, m2, h3⟩ := mA0_cons h3
    obtain ⟨e3, r3, rfl, n3, m3, h3⟩ := mA0_cons h3
    have e4 := mA0_nil h3
    subst e4
    simp at h4
    exact s_par3 Y (by rw [Y.hN]; exact a1) (by rw [Y.hN]; exact b1) (by rw [Y.hN]; exact c1) h4.1.1 h4.1.2 h4.2 (by rw [Y.hsc]; exact a2) (by rw [Y.hsc]; exact b2) (by rw [Y.hsc]; exact c2) n1 n2 n3 (fun b' => sE e1 b' Y v1 m1) (fun b' => sE e2 b' Y v2 m2) (fun b' => sE e3 b' Y v3 m3) hw
  | [], [], vs, h1, _, _, _, _, _, _ => exact absurd h1 (by simp [swCls, namesOf])
  | [_], [_], vs, h1, _, _, _, _, _, _ => exact absurd h1 (by simp [swCls])
  | _ :: _ :: _ :: _ :: _, ts, vs, h1, _, _, _, h5, l1, _ =>
    exfalso
    have : ts.length ≠ 2 ∧ ts.length ≠ 3 := by
      simp only [List.length_cons] at l1
      omega
    simp [swCls, this.1, this.2] at h1
/-- a comprehension in an assignment -/
theorem lc_inv {c : Cc} {e : E} {elt' : Expr} {gs : List Comprehension} {scope : Scope} {pos : Pos} (h : mE c e (.ListComp elt' gs scope pos) = true) : ∃ elt G own it cd tg iter ifs, e = .comp elt G own it cd ∧ gs = [⟨tg, iter, ifs, 0⟩] := by
  cases e <;> simp only [mE, noLC, Bool.false_and] at h <;> first | (cases h; done) | skip
  rename_i elt G own it cd
  split at h
  · rename_i q
    cases q
    simp only [Bool.and_eq_true, decide_eq_true_eq] at h
    obtain ⟨⟨⟨⟨⟨⟨⟨⟨h1, _⟩, _⟩, _⟩, _⟩, _⟩, _⟩, _⟩, _⟩ := h
    subst h1
    exact ⟨_, _, _, _, _, _, _, _, rfl, rfl⟩
  · cases h
theorem s_lc {b : Bs} {wx : WX} {X : Cx} {c : Cc} (Y : Cy g wx cf k X c) {i : Nat} {x : Str} {px pos spos : Pos} {e : E} {elt' : Expr} {gs : List Comprehension} {scope : Scope} (hl : locB c i x = true) (h : mE c e (.ListComp elt' gs scope pos) = true) (hs : swapC c.sc (.Name x px) (.ListComp elt' gs scope pos) = some true) :
    PS X (.Assign [.Name x px] (.ListComp elt' gs scope pos) spos) (tAsg (T g b wx WR (ev cf e)) (gName i)) := by
  obtain ⟨elt, G, own, it, cd, tg, iter, ifs, rfl, rfl⟩ := lc_inv h
  simp only [mE, Bool.and_eq_true, decide_eq_true_eq, List.all_eq_true, Bool.not_eq_true', List.contains_iff_mem] at h
  obtain ⟨⟨⟨⟨⟨⟨⟨⟨h1, ha⟩, hb⟩, h2⟩, h3⟩, h4⟩, h5⟩, h6⟩, h7⟩ := h
  have hk := (blkOk_by h2).kind
  have hloc : X.env.scope.names.lookup x = some .local := by
    simp only [swapC, Option.some.injEq, Bool.and_eq_true, beq_iff_eq] at hs
    rw [Y.hsc]
    exact hs.1.1
  exact s_setLc Y (Y.loc hl).1 hloc (swap_lc Y.hsc Y.kind hs) h2 h3 ha (sI it b Y tg iter h4) (fun s H C cl fp b' => g_ok (Y.block hk s H C cl fp) G tg h5) (fun s H C cl fp b' => sC cd b' (Y.block hk s H C cl fp) ifs h6) (fun s H C cl fp b' => (sE elt b' (Y.block hk s H C cl fp) elt' h7).dat)
theorem swap_true {sc : Scope} {tg v : Expr} (h : swapC sc tg v = some true) : ∃ x px elt gs scope pos, tg = .Name x px ∧ v = .ListComp elt gs scope pos := by
  cases v <;> cases tg <;> first | (cases h; done) | exact ⟨_, _, _, _, _, _, rfl, rfl⟩
mutual
theorem sS : ∀ (s : S) {wx : WX} {X : Cx} {c : Cc} (b : Bs) (Y : Cy g wx cf k X c) (s' : Stmt), mS c s s' = true → PS X s' (TX g b wx (ex cf wf s))
  | .asg G e, _, X, c, b, Y, s', h => by
    simp only [mS] at h
    split at h
    · rename_i tg v pos
      simp only [Bool.and_eq_true] at h
      obtain ⟨⟨⟨⟨h1, h2⟩, h3⟩, h4⟩, h5⟩ := h
      cases hq : swapC c.sc tg v with
      | none => rw [hq] at h5; cases h5
      | some q =>
        cases q with
        | false => exact s_asg Y (g_ok Y G tg h1) (sE e b Y v h2).dat h3 h4 hq
        | true =>
          obtain ⟨x, px, elt, gs, scope, p2, rfl, rfl⟩ := swap_true hq
          cases G with
          | nm i => exact s_asgLc (s_lc Y (by simpa only [mG] using h1) h2 hq)
          | tp gs => simp [mG] at h1
    · cases h
  | .own i e, _, X, c, b, Y, s', h => by
    simp only [mS] at h
    split at h
    · rename_i x p v pos
      simp only [Bool.and_eq_true] at h
      obtain ⟨⟨h1, h2⟩, h5⟩ := h
      cases hq : swapC c.sc (.Name x p) v with
      | none => rw [hq] at h5; cases h5
      | some q =>
        cases q with
        | false => exact s_own Y h1 (sE e b Y v h2) hq
        | true =>
          obtain ⟨x', px, elt, gs, scope, p2, e1, rfl⟩ := swap_true hq
          cases e1
          exact s_ownLc (s_lc Y h1 h2 hq)
    · cases h
  | .par gs es, _, X, c, b, Y, s', h => by
    simp only [mS] at h
    split at h
    · simp only [Bool.and_eq_true, decide_eq_true_eq] at h
      obtain ⟨⟨⟨⟨h1, h2⟩, h3⟩, h4⟩, h5⟩ := h
      exact s_par Y h1 h2 h3 h4 h5
    · cases h
  | .setm i q e, _, X, c, b, Y, s', h => by
    simp only [mS] at h
    split at h
    · simp only [Bool.and_eq_true] at h
      obtain ⟨⟨⟨⟨h1, h2⟩, h3⟩, h4⟩, h5⟩ := h
      exact s_setm Y h1 h2 h3 (sE q b Y _ h4).dat (sE e b Y _ h5).dat
    · cases h
  | .augm i o q e, _, X, c, b, Y, s', h => by
    simp only [mS] at h
    split at h
    · simp only [Bool.and_eq_true, decide_eq_true_eq] at h
      obtain ⟨⟨⟨⟨h1, h2⟩, h3⟩, h4⟩, h5⟩ := h
      subst h3
      exact s_augm Y h1 h2 (sE q b Y _ h4).dat (sE e b Y _ h5).dat
    · cases h
  | .appm i e, _, X, c, b, Y, s', h => by
    simp only [mS] at h
    split at h
    · simp only [Bool.and_eq_true, decide_eq_true_eq] at h
      obtain ⟨⟨⟨⟨h1, h2⟩, h3⟩, h4⟩, h5⟩ := h
      exact s_appm Y h1 h2 h3 h4 (sE e b Y _ h5).dat
    · cases h
  | .extm i e, _, X, c, b, Y, s', h => by
    simp only [mS] at h
    split at h
    · simp only [Bool.and_eq_true, decide_eq_true_eq] at h
      obtain ⟨⟨⟨⟨h1, h2⟩, h3⟩, h4⟩, h5⟩ := h
      exact s_extm Y h1 h2 h3 h4 (sE e b Y _ h5).dat
    · cases h
  | .ife t a b', _, X, c, b, Y, s', h => by
    simp only [mS] at h
    split at h
    · simp only [Bool.and_eq_true] at h
      obtain ⟨⟨⟨h1, h2⟩, h3⟩, h4⟩ := h
      exact s_if (sT t b Y _ h1 h2) (sSs a b Y _ h3) (sSs b' b Y _ h4)
    · cases h
  | .for_ G it bd, _, X, c, b, Y, s', h => by
    simp only [mS] at h
    split at h
    · simp only [Bool.and_eq_true, Bool.not_eq_true'] at h
      obtain ⟨⟨⟨⟨h1, h2⟩, h3⟩, h4⟩, h5⟩ := h
      have hk : keepOf it = [] := by cases it <;> first | rfl | cases h1
      exact s_for Y hk h2 (sI it b Y _ _ h3) (g_ok Y G _ h4) (sSs bd b Y _ h5)
    · cases h
  | .whl t bd, _, X, c, b, Y, s', h => by
    simp only [mS] at h
    split at h
    · simp only [Bool.and_eq_true] at h
      obtain ⟨⟨h1, h2⟩, h3⟩ := h
      exact s_while Y (sT t b Y _ h1 h2) (sSs bd b Y _ h3)
    · cases h
  | .ret e, _, X, c, b, Y, s', h => by
    simp only [mS] at h
    split at h
    · exact s_ret (sE e b Y _ h)
    · cases h
  | .exp e, _, X, c, b, Y, s', h => by
    simp only [mS] at h
    split at h
    · simp only [Bool.and_eq_true] at h
      exact s_exp h.1 (sE e b Y _ h.2).dat
    · cases h
  | .mk a b' d, _, X, c, b, Y, s', h => by
    simp only [mS] at h
    split at h
    · simp only [Bool.and_eq_true, decide_eq_true_eq] at h
      obtain ⟨⟨⟨⟨⟨h1, h2⟩, h3⟩, h4⟩, h5⟩, h6⟩ := h
      subst h1; subst h2; subst h3
      exact s_mk Y (fun b1 => sE a b1 Y _ h4) (fun b1 => sE b' b1 Y _ h5) (fun b1 => sE d b1 Y _ h6)
    · cases h
  | .put a x e, _, X, c, b, Y, s', h => by
    simp only [mS] at h
    split at h
    · simp only [Bool.and_eq_true, decide_eq_true_eq] at h
      obtain ⟨⟨⟨h1, h2⟩, h3⟩, h4⟩ := h
      subst h1
      exact s_put Y h2 (sE a b Y _ h3).dat (sE e b Y _ h4).dat
    · cases h
  | .obs a i e, _, X, c, b, Y, s', h => by
    simp only [mS] at h
    split at h
    · simp only [Bool.and_eq_true] at h
      obtain ⟨⟨⟨⟨h1, h2⟩, h3⟩, h4⟩, h5⟩ := h
      exact s_obs Y h1 h2 (sE a b Y _ h3).dat (sE i b Y _ h4).dat (sE e b Y _ h5).dat
    · cases h
  | .ppar a x i e1 e2, _, X, c, b, Y, s', h => by
    simp only [mS] at h
    split at h
    · simp only [Bool.and_eq_true, decide_eq_true_eq] at h
      obtain ⟨⟨⟨⟨⟨⟨⟨h1, hw⟩, h2⟩, h3⟩, h4⟩, h5⟩, h6⟩, h7⟩ := h
      subst h1
      exact s_ppar Y hw h4 h2 h3 (sE a b Y _ h5).dat (sE e1 b Y _ h6).dat (sE e2 b Y _ h7).dat
    · cases h
  | .dead, _, X, c, b, Y, s', h => PS.by fun D σ H q => by
    obtain ⟨F, ρ, fr, st, A, p⟩ := q
    exact p.elim
theorem sSs : ∀ (s : Ss) {wx : WX} {X : Cx} {c : Cc} (b : Bs) (Y : Cy g wx cf k X c) (s' : List Stmt), mSs c s s' = true → PSs X s' (TX g b wx (exs cf wf s))
  | .nil, _, X, c, b, Y, s', h => by
    simp only [mSs] at h
    split at h
    · exact s_nil
    · cases h
  | .cons s r, _, X, c, b, Y, s', h => by
    simp only [mSs] at h
    split at h
    · simp only [Bool.and_eq_true] at h
      exact s_cons (sS s b Y _ h.1) (sSs r b Y _ h.2)
    · cases h
  | .frz i r, _, X, c, b, Y, s', h => s_frz (sSs r b Y _ (by simpa only [mSs] using h))
  | .melt i r, _, X, c, b, Y, s', h => s_melt (sSs r b Y _ (by simpa only [mSs] using h))
end
end
end MP

set_option Elab.async false
set_option linter.all false
set_option maxRecDepth 100000
set_option maxHeartbeats 8000000
namespace MP
open PySem PySem.Spec L2
open PyProof.Rows (AllBare envOfC)
section
variable {g : Gb} {b : Bs} {wx : WX} {k wf : Nat} {F F' : Hp} {ρ ρ' : Rho} {σ : L2.St} {H H' : Hp} {fr : Fr} {st st' : Sto} {Q : VK}
theorem st0_dat {Fn : Fn} {ds : List D} {i : Nat} {d : D} (h : (st0 Fn ds)[i]? = some (.dat d)) : ds[i]? = some d := by
  unfold st0 at h
  by_cases hi : i < ds.length
  · rw [List.getElem?_append_left (by simpa using hi), List.getElem?_map] at h
    cases e : ds[i]? with
    | none => rw [e] at h; cases h
    | some q => rw [e] at h; cases h; rfl
  · rw [List.getElem?_append_right (by simpa using hi), List.getElem?_replicate] at h
    split at h <;> cases h
theorem st0_mut {Fn : Fn} {ds : List D} {i : Nat} {d : List D} (h : (st0 Fn ds)[i]? = some (.mut d)) : False := by
  unfold st0 at h
  by_cases hi : i < ds.length
  · rw [List.getElem?_append_left (by simpa using hi), List.getElem?_map] at h
    cases e : ds[i]? with
    | none => rw [e] at h; cases h
    | some q => rw [e] at h; cases h
  · rw [List.getElem?_append_right (by simpa using hi), List.getElem?_replicate] at h
    split at h <;> cases h
/-- a def's frame at its entry -/
theorem Ab.begin {Fn : Fn} {N : List Str} {ds : List D} {vs : List V} (A : Ab g b F ρ [] H [] st) (r : VRs g F ρ ds vs) (hn : Fn.nN = N.length) : Ab g b F ρ (L2.start N vs) H (st0 Fn ds) st where
  sub := A.sub
  ext := A.ext
  new := A.new
  rho := A.rho
  keep := A.keep
  fsh := A.fsh
  sto := A.sto
  len := by
    unfold st0 L2.start
    rw [List.length_append, List.length_append, List.length_map, List.length_map, List.length_replicate, List.length_replicate, r.length, hn]
  dat := fun i d e => by
    obtain ⟨v, h1, h2⟩ := r.get (st0_dat e)
    refine ⟨v, ?_, h2⟩
    unfold L2.start
    have hi : i < vs.length := (List.getElem?_eq_some_iff.mp h1).1
    rw [List.getElem?_append_left (by simpa using hi), List.getElem?_map, h1]
    rfl
  mu := fun i xs e => (st0_mut e).elim
  apart := fun i j a xs ys e => (st0_mut e).elim
  pin := fun q hq => by
    obtain ⟨h1, h2, h3, h4, _⟩ := A.pin q hq
    exact ⟨h1, h2, h3, h4, fun i ys e => (st0_mut e).elim⟩
theorem PoS_done {o : Out} (h : Po g b wx WR (done o) F ρ [] [] Q) (hw : ∀ c d σ σ' H, wx c d σ H → wx c d σ' H) : PoS g b wx o F ρ { nx := fun _ H' => Q .non H', rt := Q } := by
  cases o with
  | nx fr st => exact fun F' ρ' σ' H' S P A => h F' ρ' H' .non S P A.bare .non
  | rt w st => exact h
  | exc c p fr st => exact fun F' ρ' σ' H' cls d S P A x => hw _ _ _ _ _ (h F' ρ' H' cls d S P A.bare x)
  | bad => exact h
/-- a def of the text: its body keeps the promise -/
theorem fnG_of {f : Addr} {x qual : Str} {params : Arguments} {body : List Stmt} {scope : Scope} {fd : FuncData} {N ps : List Str} {sp : Sp} (FD : FunD g.K x qual params body scope [] [] f fd) (S : FnScope N ps scope) (len : ∀ vs H Q E, sp vs H Q E → vs.length = ps.length)
    (hb : ∀ (cdv : Value) (A : Around) (outer : List PySem.Env) (s : Shared) (H : Hp) (vs : List V) (Q : VK) (E : XK), (A.deeper (envOfC qual scope s.heap.objs.size f cdv)).guards = some [] → Room k (A.deeper (envOfC qual scope s.heap.objs.size f cdv)) → sp vs H Q E →
      ∃ t, PSs (cxOf (L2.CX g.P g.w) g.P g.w g.K g.mg g.base N qual scope f cdv A outer s H E) body t ∧ t { nx := fun _ H' => Q .non H', rt := Q } (L2.start N vs) H) : FnG g (k + 1) f fd ps sp := by
  obtain ⟨oc, od, dV, kV, doc, pm, an, cdv, ct, osl, rfl, lk, hcd, _, _⟩ := FD.ex
  refine ⟨len, fun A outer s H args us vs Q E hgu hroom hz hbind hv hq => ?_⟩
  have kin : g.K.In s.heap := hz.mod.kin.keeps fun c o q => (hz.bs c o q).1
  have nol : s.heap.NoLimit := hz.mod.nolimit.keeps fun c o q => (hz.bs c o q).1
  have kd : ∀ y ∈ ps.zip us, scope.names.lookup y.1 = some .local ∨
      (scope.names.lookup y.1 = some .cell ∧ ((cellsFrom (s.heap.objs.size + 1) scope.names []).lookup y.1).isSome = true) := by
    rintro ⟨n, v⟩ hy
    rcases S.par n (List.of_mem_zip hy).1 with q | q
    · exact .inl q
    · exact .inr ⟨q, PySem.W.cellsFrom_some _ _ _ (.inl q)⟩
  refine codeAny_call_function hroom.depth (kin _ _ lk) rfl S.co S.gen rfl
    (PySem.W.codeRec_of kin hcd) (hbind _ _ _ _ ?_)
  refine wpAny_newFunctionEnv_cells S.kind kd fun env he s2 ic => ?_
  subst he
  refine ⟨nol.keeps ic.toInCall.keep, codeAny_func ?_⟩
  obtain ⟨t, pt, qt⟩ := hb cdv A outer s H vs Q E hgu (hroom.deeper _) hq
  have I0 : Inv (cxOf (L2.CX g.P g.w) g.P g.w g.K g.mg g.base N qual scope f cdv A outer s H E) [] (L2.start N vs) H s2 :=
    inv_start S hroom.hd hz (len _ _ _ _ hq) hv ic
  refine wpAny_mono (pt.run [] s2 (L2.start N vs) H _ I0 qt) (fun fl s3 hs => ?_) fun e s3 hs => hs
  cases fl with
  | ret u =>
    obtain ⟨v, σ3, H3, J, rv, q⟩ := hs
    exact ⟨v, H3, J.os, J.bare, J.base, J.hok, rv, q⟩
  | next =>
    obtain ⟨σ3, H3, J, q⟩ := hs
    exact ⟨.non, H3, J.os, J.bare, J.base, J.hok, rfl, q⟩
  | brk => exact (let ⟨_, _, _, q⟩ := hs; False.elim q)
  | cont => exact (let ⟨_, _, _, q⟩ := hs; False.elim q)
/-- a table's def -/
theorem fn_ok {T : Tab} {fx : Str → Option Nat} {cs : Str → Option D} {i : Nat} {Fn : Fn} {x qual : Str} {params : Arguments} {body : List Stmt} {scope : Scope} {f : Addr} {fd : FuncData} {N ps : List Str} (M : Md g (run T wf k) k fx cs)
    (FD : FunD g.K x qual params body scope [] [] f fd) (S : FnScope N ps scope) (hT : T.fn i = some Fn) (hm : mSs ⟨N, scope, fun _ => true, fx, cs⟩ Fn.body body = true) (hn : Fn.nN = N.length) (hp : Fn.np = ps.length) :
    FnG g (k + 1) f fd ps (spOf g (run T wf (k + 1) i) ps.length) := by
  refine fnG_of FD S (fun vs H Q E ⟨_, _, _, _, h, _⟩ => h) fun cdv A outer s H vs Q E hgu hroom hq => ?_
  obtain ⟨F, ρ, ds, st, hl, A0, rv, p⟩ := hq
  have Y : Cy g (fun cls d _ H => E cls d H) (run T wf k) k (cxOf (L2.CX g.P g.w) g.P g.w g.K g.mg g.base N qual scope f cdv A outer s H E) ⟨N, scope, fun _ => true, fx, cs⟩ :=
    ⟨⟨rfl, rfl, rfl, rfl, rfl, rfl, S.nd, hroom, hgu, takes_of rfl rfl rfl rfl, passes_of rfl⟩, M, rfl, rfl, S.kind, fun _ _ => .inl rfl⟩
  refine ⟨_, sSs (wf := wf) Fn.body ⟨H, F, ρ, []⟩ Y body hm, F, ρ, st0 Fn ds, st, A0.begin rv hn, ?_⟩
  simp only [run, hT] at p
  split at p
  · exact PoS_done p fun _ _ _ _ _ h => h
  · exact p.elim
/-- what is known of each def's name -/
structure Known (g : Gb) (T : Tab) (wf : Nat) (fx : Str → Option Nat) (cs : Str → Option D) : Prop where
  blt : ∀ x ∈ bltNames, g.mg x = none
  con : ∀ x d, cs x = some d → ∃ v u, g.mg x = some u ∧ RelV v u ∧ ∀ F ρ, VR g F ρ d v
  fn : ∀ x i, fx x = some i → ∃ fd ps, g.mg x = some (.ref (g.fa i)) ∧ PySem.W.keepIn g.K (.ref (g.fa i)) = true ∧ Binds g.K fd ps [] ∧
    ((∃ Fn qual params body scope N, T.fn i = some Fn ∧ FunD g.K x qual params body scope [] [] (g.fa i) fd ∧ FnScope N ps scope ∧ mSs ⟨N, scope, fun _ => true, fx, cs⟩ Fn.body body = true ∧ Fn.nN = N.length ∧ Fn.np = ps.length) ∨
      (T.fn i = none ∧ (∀ k, Md g (run T wf k) k fx cs → FnG g (k + 1) (g.fa i) fd ps (spOf g (T.nat i (run T wf k)) ps.length)) ∧ ∀ cf ds st, T.nat i cf ds st ≠ .bad → ds.length = ps.length))
theorem known_md {T : Tab} {fx : Str → Option Nat} {cs : Str → Option D} (Kn : Known g T wf fx cs) : ∀ k, Md g (run T wf k) k fx cs
  | 0 => ⟨Kn.blt, Kn.con, fun x i h => by
    obtain ⟨fd, ps, h1, h2, h3, _⟩ := Kn.fn x i h
    refine ⟨fd, ps, h1, h2, h3, ⟨fun vs H Q E ⟨_, _, _, _, hl, _⟩ => hl, fun A outer s H args us vs Q E _ _ _ _ _ hq => ?_⟩, fun ds st hb => absurd rfl hb⟩
    obtain ⟨F, ρ, ds, st, _, _, _, p⟩ := hq
    exact p.elim⟩
  | k + 1 => ⟨Kn.blt, Kn.con, fun x i h => by
    obtain ⟨fd, ps, h1, h2, h3, h4⟩ := Kn.fn x i h
    rcases h4 with ⟨Fn, qual, params, body, scope, N, t1, t2, t3, t4, t5, t6⟩ | ⟨t1, t2, t3⟩
    · refine ⟨fd, ps, h1, h2, h3, fn_ok (known_md Kn k) t2 t3 t1 t4 t5 t6, fun ds st hb => ?_⟩
      simp only [run, t1] at hb
      split at hb
      · rename_i q; rw [q, t6]
      · exact absurd rfl hb
    · have e : run T wf (k + 1) i = T.nat i (run T wf k) := by
        funext ds st
        simp only [run, t1]
      refine ⟨fd, ps, h1, h2, h3, ?_, fun ds st hb => ?_⟩
      · rw [e]; exact t2 k (known_md Kn k)
      · rw [e] at hb; exact t3 _ ds st hb⟩
end

/-! ### the law's own call -/
theorem callG {g : Gb} {k : Nat} {mb : Str → Option Value} {fa a : Addr} {fd : FuncData} {x : Str} {sp : Sp} {s0 : Shared} {its : List Value} {ns : List Int}
    (kin : g.K.In s0.heap) (hns : s0.heap.Ns mainGlobals g.mg) (hbl : s0.heap.Ns builtinsNs mb) (hbb : ∀ x : Str, x ≠ "__name__" → mb x = bootBuiltins x) (lim : s0.heap.NoLimit) (hgn : s0.gens = #[])
    (ha : s0.heap.get? a = some { cls := .type "list", data := .seq its.toArray }) (hi : PyProof.Rows.IntsAre its ns) (hl : ns.length ≤ sizeLine) (hr : Room k callerA)
    (Fn : ∀ base : Heap, g.K.In base → base.Ns mainGlobals g.mg → FnG { g with base := base } k fa fd [x] (sp)) (hbind : ∀ (s : Shared) (u : Value), BindsTo s fd ⟨[u], []⟩ [(x, u)])
    (hsp : ∀ H : Hp, Only H → SqL g.K H a (ns.map V.int) → sp [.ref a] H (fun v _ => v = .bl true) fun _ _ _ => False) :
    codeAny (model g.P g.w) callerA (.call (.ref fa) ⟨[.ref a], []⟩) (fun r s' => r = .ok (.ret (.bool true)) ∧ OldK s0.heap s'.heap ∧ s'.os = s0.os ∧ AllBare s'.gens) s0 := by
  have rv := vals_ints hi
  have ln := hi.length
  have main : ∀ H : Hp, Only H → SqL g.K H a (ns.map V.int) → HOk g.P g.w H s0.heap → (∀ c, H c ≠ none → c = a) → (H a ≠ none → g.K.lookup a = none) →
      codeAny (model g.P g.w) callerA (.call (.ref fa) ⟨[.ref a], []⟩) (fun r s' => r = .ok (.ret (.bool true)) ∧ OldK s0.heap s'.heap ∧ s'.os = s0.os ∧ AllBare s'.gens) s0 := by
    intro H only sq hok at1 atK
    have notDict : ∀ {c : Addr} {o : Obj} {es : Array DictEntry} {ep : Nat}, s0.heap.get? c = some o → o.data = .dict es ep → H c = none := by
      intro c o es ep e d
      cases q : H c with
      | none => rfl
      | some u =>
        obtain rfl : c = a := at1 c (by rw [q]; simp)
        rw [ha] at e
        cases e
        exact absurd d (by intro z; cases z)
    have nsOf : ∀ {c : Addr} {m : Str → Option Value}, s0.heap.Ns c m → (hidT s0.heap H).Ns c m := by
      rintro c m ⟨o, es, ep, e, d, r⟩
      exact ⟨o, es, ep, hidT_get e (notDict e d), d, r⟩
    have kb : g.K.In (hidT s0.heap H) := by
      intro c o e
      refine hidT_get (kin c o e) ?_
      cases q : H c with
      | none => rfl
      | some u =>
        obtain rfl : c = a := at1 c (by rw [q]; simp)
        rw [atK (by rw [q]; simp)] at e
        cases e
    have md : Mod g.K g.mg (hidT s0.heap H) := ⟨kb, nsOf hns, ⟨mb, nsOf hbl, hbb⟩, by
      obtain ⟨mc, h1, h2⟩ := lim
      exact ⟨mc, nsOf h1, h2⟩⟩
    have env0 : Env0 g.P g.w g.K g.mg (hidT s0.heap H) callerA [] s0 H :=
      ⟨rfl, md, fun c o e => of_hidT e, Nat.le_of_eq (hidT_size _ _), trivial, (fun c hc => by cases hc), hok, .of_eq hgn⟩
    refine codeAny_mono ((Fn _ kb (nsOf hns)).run callerA [] s0 H ⟨[.ref a], []⟩ [.ref a] [.ref a] _ _ rfl hr env0
      (hbind s0 (.ref a)) (.cons rfl .nil) (hsp H only sq)) fun r s' h => ?_
    cases r with
    | error e =>
      obtain ⟨_, _, _, _, _, _, _, _, _, _, _, _, z⟩ := h
      exact z.elim
    | ok fl =>
      cases fl with
      | next => exact h.elim
      | brk => exact h.elim
      | cont => exact h.elim
      | ret u =>
        obtain ⟨v, H2, os, bare, un, hok2, r2, q2⟩ := h
        obtain rfl : v = .bl true := q2
        obtain rfl : u = Value.bool true := r2
        refine ⟨rfl, OldK.of_keep fun c o e => ?_, os, bare⟩
        cases q : H c with
        | none => exact un.keep c o e q (by intro z; cases z) (by intro z; cases z)
        | some w =>
          rcases only c with z | ⟨ob, xs, z⟩
          · rw [q] at z; cases z
          · obtain ⟨e1, _⟩ := hok c _ z
            obtain ⟨e2, _⟩ := hok2 c _ (un.frzs c ob _ z)
            rw [e] at e1; cases e1
            exact e2
  cases hk : g.K.lookup a with
  | some o =>
    have e := kin a o hk
    rw [ha] at e
    cases e
    refine main (fun _ => none) (fun _ => .inl rfl) (.inr ⟨_, its.toArray, _, hk, rfl, rfl, rfl, ?_, ?_⟩) (fun c u z => ?_) (fun c z => absurd rfl z) fun z => absurd rfl z
    · rw [List.size_toArray, ln]; exact hl
    · simpa using rv
    · cases z
  | none =>
    have here : ∀ {c : Addr}, c ≠ a → (fun c => if c = a then some (HO.frz { cls := .type "list", data := .seq its.toArray } (.lst (ns.map V.int))) else none) c = none := fun h => if_neg h
    refine main (fun c => if c = a then some (HO.frz { cls := .type "list", data := .seq its.toArray } (.lst (ns.map V.int))) else none) (fun c => ?_) (.inl (.inr ⟨_, if_pos rfl⟩)) (fun c u z => ?_) (fun c z => ?_) fun _ => hk
    · by_cases hc : c = a
      · exact .inr ⟨_, _, if_pos hc⟩
      · exact .inl (if_neg hc)
    · by_cases hc : c = a
      · subst hc
        have z2 := (if_pos rfl).symm.trans z
        cases z2
        exact ⟨ha, by rw [List.length_map]; exact hl, its, _, rv, ha⟩
      · have z2 := (here hc).symm.trans z
        cases z2
    · exact Decidable.byContradiction fun hc => z (here hc)
/-- a law: from its head -/
theorem walkG {l : PySem.W.OpenLaw} {n k : Nat} {q : Program} {loose : List Str} {XP : (Str → Option Value) → Heap → Prop} {YP : World → Heap → Prop} {d : DefRec} {x : Str}
    (hn : l.most = some n) (hn2 : n ≤ sizeLine) (hdf : d.params.defaults = []) (hr : Room k callerA)
    (Fn : ∀ (w : World) (mg : Str → Option Value) (fa : Addr) (h : Heap), YP w h → h.Ns mainGlobals mg → mg d.name = some (.ref fa) →
      ∃ (g : Gb) (fd : FuncData) (sp : Sp), g.P = l.prog ∧ g.w = w ∧ g.mg = mg ∧ g.K.In h ∧ (∀ (s : Shared) (u : Value), BindsTo s fd ⟨[u], []⟩ [(x, u)]) ∧
        (∀ (H : Hp) (a : Addr) (ns : List Int), ns.length ≤ n → Only H → SqL g.K H a (ns.map V.int) → sp [.ref a] H (fun v _ => v = .bl true) fun _ _ _ => False) ∧
        ∀ base : Heap, g.K.In base → base.Ns mainGlobals mg → FnG { g with base := base } k fa fd [x] sp) :
    PySem.W.WalkO q loose XP YP l.row.toRowW d [] (fun f vs => PySem.call f vs) := by
  refine Att.attach_call hn hdf fun w s0 s1 mg mb fa o pm cd doc a vs ns G Y ho hd hcd hmg hobj hints hlen hg => ?_
  obtain ⟨g, fd, sp, e1, e2, e3, kin, hb, hsp, hF⟩ := Fn w mg fa _ Y G.T.g hmg
  subst e3
  have r := callG (g := g) kin G.T.g G.T.b G.T.builtins G.T.nolimit hg hobj hints (Nat.le_trans hlen hn2) hr hF hb fun H hO hS => hsp H a ns hlen hO hS
  rw [e1, e2] at r
  exact r
end MP

set_option Elab.async false
set_option linter.all false
set_option maxRecDepth 100000
set_option maxHeartbeats 8000000
namespace MP
open PySem PySem.Spec PyProof.Rows L2
theorem SaysD_mem {fa : List He.Fa} {fn : List He.DefD} {K : PySem.W.Frag} (c : He.SaysD fa fn K) {f : He.Fa} (h : f ∈ fa) : f.ok K = true := by
  have c1 := (He.ba (show ((fa.all fun f => f.ok K) && fn.all fun d => d.ok K) = true from congrArg (fun z : He.AlD => z.1) c)).1
  exact List.all_eq_true.mp c1 f h
theorem SaysD_def {fa : List He.Fa} {fn : List He.DefD} {K : PySem.W.Frag} (c : He.SaysD fa fn K) {d : He.DefD} (h : d ∈ fn) : ∃ fd, FunD K d.name d.qual d.params d.body d.scope (d.dvs K) (d.kws K) (He.fAd K d.at_) fd := by
  obtain ⟨i, hi, e⟩ := List.getElem_of_mem h
  exact c.def_ i (by rw [List.getElem?_eq_getElem hi, e])
/-- a def: its name, its number, its text, its names, its parameters, its term -/
structure Row where
  name : Str
  id : Nat
  txt : Stmt
  N : List Str
  ps : List Str
  F : Fn
def Row.d (r : Row) : He.DefD := ⟨(r.name, none), r.name, r.name, defArgs r.txt, defBody r.txt, defScope r.txt, [], []⟩
def scopeB (N P : List Str) (sc : Scope) : Bool := decide (sc.kind = .function) && !sc.isCoroutine && !sc.isGenerator && decide N.Nodup && decide (N.take P.length = P) &&
  (P.all fun x => decide (sc.names.lookup x = some .local) || decide (sc.names.lookup x = some .cell)) && sc.names.all fun y => decide (y.2 ≠ .free)
theorem scopeB_ok {N P : List Str} {sc : Scope} (h : scopeB N P sc = true) : FnScope N P sc := by
  simp only [scopeB, Bool.and_eq_true, decide_eq_true_eq, Bool.not_eq_true', List.all_eq_true, Bool.or_eq_true] at h
  obtain ⟨⟨⟨⟨⟨⟨h1, h2⟩, h3⟩, h4⟩, h5⟩, h6⟩, h7⟩ := h
  exact ⟨h1, h2, h3, h4, h5, h6, h7⟩
def BindOk (r : Row) : Prop := ∀ (kV doc pm : Value) (an : Option Addr) (cdv ct : Value) (us : List Value), us.length = r.ps.length → bindArgs (PySem.W.fnOf r.name r.name (defArgs r.txt) (defBody r.txt) (defScope r.txt) .none kV doc pm an cdv ct) ⟨us, []⟩ = pure (r.ps.zip us)
def rowB (fx : Str → Option Nat) (cs : Str → Option D) (r : Row) : Bool := scopeB r.N r.ps (defScope r.txt) && mSs ⟨r.N, defScope r.txt, fun _ => true, fx, cs⟩ r.F.body (defBody r.txt) && decide (r.F.nN = r.N.length) && decide (r.F.np = r.ps.length)
/-- a constant of the module -/
inductive Cst where
  | int (x : Str) (i : Int) | str (x z : Str)
def Cst.fa : Cst → He.Fa
  | .int x i => .int x i
  | .str x z => .str x z
def Cst.nm : Cst → Str
  | .int x _ => x
  | .str x _ => x
def Cst.d : Cst → D
  | .int _ i => .int i
  | .str _ z => .str z
def look {α : Type} (x : Str) : List (Str × α) → Option α
  | [] => none
  | (y, a) :: r => if x = y then some a else look x r
theorem look_mem {α : Type} {x : Str} {a : α} : ∀ {l : List (Str × α)}, look x l = some a → (x, a) ∈ l
  | [], h => by cases h
  | (y, b) :: l, h => by
    unfold look at h
    split at h
    · rename_i e; cases h; subst e; exact List.mem_cons_self
    · exact List.mem_cons_of_mem _ (look_mem h)
section
variable (rows : List Row) (cst : List Cst)
def fxOf (x : Str) : Option Nat := look x (rows.map fun r => (r.name, r.id))
def csOf (x : Str) : Option D := look x (cst.map fun c => (c.nm, c.d))
def faOf : List He.Fa := bltNames.map He.Fa.free ++ (rows.map fun r => He.Fa.glo r.name) ++ cst.map Cst.fa
def fnsOf : List He.DefD := rows.map Row.d
def nmOf (i : Nat) : Str := match rows.find? (fun r => r.id == i) with
  | some r => r.name
  | none => ""
def gOf (P : Program) (w : World) (K : PySem.W.Frag) (mg : Str → Option Value) (base : Heap) : Gb := ⟨P, w, K, mg, base, fun i => He.ga K (nmOf rows i), fun _ => 0, fun _ => ""⟩
end
theorem knownOf {T : Tab} {wf : Nat} {rows : List Row} {cst : List Cst} {P : Program} {w : World} {K : PySem.W.Frag} {mg : Str → Option Value} {base h : Heap} (X : K.In h) (G : h.Ns mainGlobals mg) (c : He.SaysD (faOf rows cst) (fnsOf rows) K)
    (hid : (rows.all fun r => decide (nmOf rows r.id = r.name)) = true) (hr : (rows.all (rowB (fxOf rows) (csOf cst))) = true) (hF : ∀ r ∈ rows, T.fn r.id = some r.F) (hb : ∀ r ∈ rows, BindOk r) :
    Known (gOf rows P w K mg base) T wf (fxOf rows) (csOf cst) where
  blt := fun x hx => He.free_ok X G (SaysD_mem c (List.mem_append_left _ (List.mem_append_left _ (List.mem_map_of_mem hx))))
  con := fun x d hd => by
    obtain ⟨k, hk, e⟩ := List.mem_map.mp (look_mem hd)
    have f := SaysD_mem c (List.mem_append_right _ (List.mem_map_of_mem (f := Cst.fa) hk))
    cases k with
    | int y i =>
      cases e
      obtain ⟨t, q⟩ := He.int_ok X G f
      exact ⟨.int i, _, q, ⟨t, rfl⟩, fun _ _ => .int i⟩
    | str y z =>
      cases e
      obtain ⟨t, q⟩ := He.str_ok X G f
      exact ⟨.str z, _, q, ⟨t, rfl⟩, fun _ _ => .str z⟩
  fn := fun x i hx => by
    obtain ⟨r, hr1, e⟩ := List.mem_map.mp (look_mem hx)
    cases e
    have f := He.glo_ok X G (SaysD_mem c (List.mem_append_left _ (List.mem_append_right _ (List.mem_map_of_mem (f := fun r : Row => He.Fa.glo r.name) hr1))))
    obtain ⟨fd, FD⟩ := SaysD_def c (List.mem_map_of_mem (f := Row.d) hr1)
    have e1 : nmOf rows r.id = r.name := of_decide_eq_true (List.all_eq_true.mp hid r hr1)
    have e2 := List.all_eq_true.mp hr r hr1
    simp only [rowB, Bool.and_eq_true, decide_eq_true_eq] at e2
    obtain ⟨⟨⟨s1, s2⟩, s3⟩, s4⟩ := e2
    have ea : (gOf rows P w K mg base).fa r.id = He.ga K r.name := by show He.ga K (nmOf rows r.id) = _; rw [e1]
    have FD' : FunD K r.name r.name (defArgs r.txt) (defBody r.txt) (defScope r.txt) [] [] (He.ga K r.name) fd := FD
    rw [ea]
    exact ⟨fd, r.ps, f, FD'.kp, FD'.bindsN (hb r hr1), .inl ⟨r.F, r.name, defArgs r.txt, defBody r.txt, defScope r.txt, r.N, hF r hr1, FD', scopeB_ok s1, s2, s3, s4⟩⟩
/-- the law's call, from its run -/
theorem lawSp {g : Gb} {c : List D → Sto → R W} {H : Hp} {a : Addr} {ns : List Int} (hS : SqL g.K H a (ns.map V.int)) (hc : ∃ st', c [.scr ns] [] = .ok (.dat (.bl true)) st') : spOf g c 1 [.ref a] H (fun v _ => v = .bl true) fun _ _ _ => False := by
  obtain ⟨st', e⟩ := hc
  refine ⟨H, [], [.scr ns], [], rfl, ?_, .cons (.scr hS) .nil, ?_⟩
  · exact {
      sub := .refl _
      ext := .refl _
      new := fun a o h => .inl h
      rho := ⟨[], rfl, fun a ha => by simp at ha⟩
      keep := fun a o h _ => h
      fsh := fun n a o h => by simp at h
      sto := ⟨rfl, fun n o p h => by simp at h, List.nodup_nil⟩
      len := rfl
      dat := fun i d h => by simp at h
      mu := fun i xs h => by simp at h
      apart := fun i j a xs ys h => by simp at h
      pin := fun q hq => by simp at hq }
  · rw [e]
    intro F' ρ' H' v _ _ _ h
    exact VR.blI h
theorem lawFn {T : Tab} {wf k : Nat} {rows : List Row} {cst : List Cst} {P : Program} {w : World} {mg : Str → Option Value} {fa : Addr} {h : Heap} {x : Str} {L : Row} (hY : ∃ K : PySem.W.Frag, K.In h ∧ He.SaysD (faOf rows cst) (fnsOf rows) K) (G : h.Ns mainGlobals mg)
    (hid : (rows.all fun r => decide (nmOf rows r.id = r.name)) = true) (hr : (rows.all (rowB (fxOf rows) (csOf cst))) = true) (hF : ∀ r ∈ rows, T.fn r.id = some r.F) (hb : ∀ r ∈ rows, BindOk r)
    (hL : L ∈ rows) (hfx : fxOf rows L.name = some L.id) (hx : L.ps = [x]) (hfa : mg L.name = some (.ref fa)) (hrun : ∀ ns : List Int, ns.length ≤ 63 → ∃ st', run T wf (k + 1) L.id [.scr ns] [] = .ok (.dat (.bl true)) st') :
    ∃ (g : Gb) (fd : FuncData) (sp : Sp), g.P = P ∧ g.w = w ∧ g.mg = mg ∧ g.K.In h ∧ (∀ (s : Shared) (u : Value), BindsTo s fd ⟨[u], []⟩ [(x, u)]) ∧
        (∀ (H : Hp) (a : Addr) (ns : List Int), ns.length ≤ 63 → Only H → SqL g.K H a (ns.map V.int) → sp [.ref a] H (fun v _ => v = .bl true) fun _ _ _ => False) ∧
        ∀ base : Heap, g.K.In base → base.Ns mainGlobals mg → FnG { g with base := base } (k + 1) fa fd [x] sp := by
  obtain ⟨K, X, c⟩ := hY
  obtain ⟨fd, FD⟩ := SaysD_def c (List.mem_map_of_mem (f := Row.d) hL)
  have FD' : FunD K L.name L.name (defArgs L.txt) (defBody L.txt) (defScope L.txt) [] [] (He.ga K L.name) fd := FD
  refine ⟨gOf rows P w K mg h, fd, fun vs H Q E => ∀ base : Heap, spOf (gOf rows P w K mg base) (run T wf (k + 1) L.id) 1 vs H Q E, rfl, rfl, rfl, X, ?_, ?_, ?_⟩
  · intro s u
    have := FD'.bindsA (hb L hL) s [u] (by rw [hx]; rfl)
    rw [hx] at this
    exact this
  · intro H a ns hl _ hS base
    exact lawSp (g := gOf rows P w K mg base) hS (hrun ns hl)
  · intro base Kb Gb
    have Kn := knownOf (T := T) (wf := wf) (P := P) (w := w) (base := base) X G c hid hr hF hb
    have h1 := He.glo_ok X G (SaysD_mem c (List.mem_append_left _ (List.mem_append_right _ (List.mem_map_of_mem (f := fun r : Row => He.Fa.glo r.name) hL))))
    have e2 : fa = He.ga K L.name := by
      have := hfa.symm.trans h1
      cases this; rfl
    subst e2
    have e2 := List.all_eq_true.mp hr L hL
    simp only [rowB, Bool.and_eq_true, decide_eq_true_eq] at e2
    obtain ⟨⟨⟨s1, s2⟩, s3⟩, s4⟩ := e2
    have FG := fn_ok (g := gOf rows P w K mg base) (known_md Kn k) FD' (scopeB_ok s1) (hF L hL) s2 s3 s4
    rw [hx] at FG
    exact ⟨fun vs H Q E hq => FG.len vs H Q E (hq base), fun A outer s H args us vs Q E a1 a2 a3 a4 a5 hq => FG.run A outer s H args us vs Q E a1 a2 a3 a4 a5 (hq base)⟩
end MP

set_option Elab.async false
set_option linter.all false
set_option maxRecDepth 100000
namespace MP
open PySem
theorem nr {α : Sort u} {a b : α} (h : a = b) : a = b := h
/-! ### steps of the small language, as equations -/
section
variable {α β : Type} (cf : Nat → List D → Sto → R W) (wf : Nat)
@[simp] theorem bind_okE (a : α) (st : Sto) (f : α → Sto → R β) : (R.ok a st).bind f = f a st := nr rfl
@[simp] theorem bind_excE (c : Nat) (p : D) (st : Sto) (f : α → Sto → R β) : (R.exc c p st : R α).bind f = .exc c p st := nr rfl
@[simp] theorem bind_badE (f : α → Sto → R β) : (R.bad : R α).bind f = .bad := nr rfl
@[simp] theorem out_okE (a : α) (st : Sto) (env : Fr) (f : α → Sto → Out) : (R.ok a st).out env f = f a st := nr rfl
@[simp] theorem out_excE (c : Nat) (p : D) (st : Sto) (env : Fr) (f : α → Sto → Out) : (R.exc c p st : R α).out env f = .exc c p env st := nr rfl
@[simp] theorem then_nx (env : Fr) (st : Sto) (f : Fr → Sto → Out) : (Out.nx env st).andThen f = f env st := nr rfl
@[simp] theorem then_rt (w : W) (st : Sto) (f : Fr → Sto → Out) : (Out.rt w st).andThen f = .rt w st := nr rfl
@[simp] theorem then_exc (c : Nat) (p : D) (env : Fr) (st : Sto) (f : Fr → Sto → Out) : (Out.exc c p env st).andThen f = .exc c p env st := nr rfl
@[simp] theorem opt_some (a : α) (st : Sto) : opt (some a) st = .ok a st := nr rfl
@[simp] theorem opt_none (st : Sto) : opt (none : Option α) st = .bad := nr rfl
@[simp] theorem W_dat (d : D) : (W.dat d).d = d := nr rfl
@[simp] theorem W_own (xs : List D) : (W.own xs).d = .lst xs := nr rfl
@[simp] theorem done_rt (w : W) (st : Sto) : done (.rt w st) = .ok w st := nr rfl
@[simp] theorem done_nx (env : Fr) (st : Sto) : done (.nx env st) = .ok (.dat .non) st := nr rfl
@[simp] theorem done_exc (c : Nat) (p : D) (env : Fr) (st : Sto) : done (.exc c p env st) = .exc c p st := nr rfl
def forB (g : G) (b : Ss) (x : D) (env : Fr) (st : Sto) : Out := match putG g x env with
  | some env' => exs cf wf b env' st
  | none => .bad
def compB (e : E) (g : G) (env : Fr) (c : C) (x : D) (st : Sto) : R (Option D) := (opt (putG g x env) st).bind fun env' s2 => (evC cf c env' s2).bind fun k s3 =>
      if k then (ev cf e env' s3).bind fun y s4 => .ok (some y.d) s4 else .ok none s3
def whC (c : E) (env : Fr) (st : Sto) : R Bool := (ev cf c env st).bind fun x s1 => match x.d with
    | .bl k => .ok k s1
    | _ => .bad
def whB (b : Ss) (env : Fr) (st : Sto) : Out := exs cf wf b env st
variable (i m f : Nat) (x : Str) (d : D) (a b c e e1 e2 : E) (es r : A) (env : Fr) (st : Sto) (o o' : Bop) (q q' : Cop) (lo hi : O) (it : It) (g : G) (own : List Nat) (cc : C) (fb : B1) (fb2 : B2) (ty : Ty) (s : S) (sa sb ss : Ss)
@[simp] theorem ev_var : ev cf (.var i) env st = opt ((getD env i).map .dat) st := by rw [ev]
@[simp] theorem ev_con : ev cf (.con d) env st = .ok (.dat d) st := by rw [ev]
@[simp] theorem ev_glo : ev cf (.glo x d) env st = .ok (.dat d) st := by rw [ev]
@[simp] theorem ev_tup : ev cf (.tup es) env st = (evA cf es env st).bind fun ds s1 => if ds.length ≤ sizeLine then .ok (.dat (.tup ds)) s1 else .bad := by rw [ev]
@[simp] theorem ev_lst : ev cf (.lst es) env st = (evA cf es env st).bind fun ds s1 => if ds.length ≤ sizeLine then .ok (.own ds) s1 else .bad := by rw [ev]
@[simp] theorem ev_bin : ev cf (.bin o a b) env st = (ev cf a env st).bind fun x s1 => (ev cf b env s1).bind fun y s2 => opt (binD o x.d y.d) s2 := by rw [ev]
@[simp] theorem ev_neg : ev cf (.neg a) env st = (ev cf a env st).bind fun x s1 => match x.d with
    | .int i => .ok (.dat (.int (-i))) s1
    | _ => .bad := by rw [ev] <;> rfl
@[simp] theorem ev_cmp : ev cf (.cmp q a b) env st = (ev cf a env st).bind fun x s1 => (ev cf b env s1).bind fun y s2 => opt ((cmpD q x.d y.d).map fun k => .dat (.bl k)) s2 := by rw [ev]
@[simp] theorem ev_chain : ev cf (.chain q q' a b c) env st = (ev cf a env st).bind fun x s1 => (ev cf b env s1).bind fun y s2 => match cmpD q x.d y.d with
    | some true => (ev cf c env s2).bind fun z s3 => opt ((cmpD q' y.d z.d).map fun k => .dat (.bl k)) s3
    | some false => .ok (.dat (.bl false)) s2
    | none => .bad := by rw [ev] <;> rfl
@[simp] theorem ev_not : ev cf (.not a) env st = (ev cf a env st).bind fun x s1 => match x.d with
    | .bl k => .ok (.dat (.bl (!k))) s1
    | _ => .bad := by rw [ev] <;> rfl
@[simp] theorem ev_and : ev cf (.and a b) env st = (ev cf a env st).bind fun x s1 => match x.d with
    | .bl true => ev cf b env s1
    | .bl false => .ok (.dat (.bl false)) s1
    | _ => .bad := by rw [ev] <;> rfl
@[simp] theorem ev_or : ev cf (.or a b) env st = (ev cf a env st).bind fun x s1 => match x.d with
    | .bl true => .ok (.dat (.bl true)) s1
    | .bl false => ev cf b env s1
    | _ => .bad := by rw [ev] <;> rfl
@[simp] theorem ev_ite : ev cf (.ite c a b) env st = (ev cf c env st).bind fun x s1 => match x.d with
    | .bl true => ev cf a env s1
    | .bl false => ev cf b env s1
    | _ => .bad := by rw [ev] <;> rfl
@[simp] theorem ev_idx : ev cf (.idx a b) env st = (ev cf a env st).bind fun x s1 => (ev cf b env s1).bind fun y s2 => match items x.d, y.d with
    | some xs, .int k => opt ((atD xs k).map .dat) s2
    | _, _ => .bad := by rw [ev] <;> rfl
@[simp] theorem ev_idxM : ev cf (.idxM m a) env st = match getM env m with
    | some xs => (ev cf a env st).bind fun y s1 => match y.d with
      | .int k => opt ((atD xs k).map .dat) s1
      | _ => .bad
    | none => .bad := by rw [ev] <;> rfl
@[simp] theorem ev_lenM : ev cf (.lenM m) env st = opt ((getM env m).map fun xs => .dat (.int xs.length)) st := by rw [ev]
@[simp] theorem ev_slc : ev cf (.slc a lo hi) env st = (ev cf a env st).bind fun x s1 => (evO cf lo env s1).bind fun l s2 => (evO cf hi env s2).bind fun h s3 => opt (slcD x.d l h) s3 := by rw [ev]
@[simp] theorem ev_rev : ev cf (.rev a) env st = (ev cf a env st).bind fun x s1 => opt (revD x.d) s1 := by rw [ev]
@[simp] theorem ev_call : ev cf (.call f x es) env st = (evA cf es env st).bind fun ds s1 => cf f ds s1 := by rw [ev]
@[simp] theorem ev_b1 : ev cf (.b1 fb a) env st = (ev cf a env st).bind fun x s1 => opt (b1D fb x.d) s1 := by rw [ev]
@[simp] theorem ev_b2 : ev cf (.b2 fb2 a b) env st = (ev cf a env st).bind fun x s1 => (ev cf b env s1).bind fun y s2 => opt (b2D fb2 x.d y.d) s2 := by rw [ev]
@[simp] theorem ev_isi : ev cf (.isi a ty) env st = (ev cf a env st).bind fun x s1 => opt ((isiD x.d ty).map fun k => .dat (.bl k)) s1 := by rw [ev]
@[simp] theorem ev_lrng (tp : Bool) : ev cf (.lrng tp it) env st = (evI cf it env st).bind fun xs s1 => .ok (if tp then .dat (.tup xs) else .own xs) s1 := by rw [ev]
@[simp] theorem ev_comp : ev cf (.comp e g own it cc) env st = (evI cf it env st).bind fun xs s1 => if own.any fun i => (getM env i).isSome then .bad else
    (compL (compB cf e g (wipeE env own) cc) xs s1).bind fun ys s5 => if ys.length ≤ sizeLine then .ok (.own ys) s5 else .bad := by rw [ev] <;> rfl
@[simp] theorem ev_get : ev cf (.get a x) env st = (ev cf a env st).bind fun d s1 => opt ((getF x d.d s1).map .dat) s1 := by rw [ev]
@[simp] theorem ev_obi : ev cf (.obi a b) env st = (ev cf a env st).bind fun d s1 => (ev cf b env s1).bind fun y s2 => match lstF d.d s2, y.d with
    | some xs, .int k => opt ((atD xs k).map .dat) s2
    | _, _ => .bad := by rw [ev] <;> rfl
@[simp] theorem ev_obl : ev cf (.obl a) env st = (ev cf a env st).bind fun d s1 => opt ((lstF d.d s1).map fun xs => .dat (.int xs.length)) s1 := by rw [ev]
@[simp] theorem ev_obe : ev cf (.obe a) env st = (ev cf a env st).bind fun d s1 => match lstF d.d s1 with
    | some xs => if okD 60 (.lst xs) then .ok (.dat (.bl (!xs.isEmpty))) s1 else .bad
    | none => .bad := by rw [ev] <;> rfl
@[simp] theorem ev_new : ev cf (.new a) env st = (ev cf a env st).bind fun d s1 => match d with
    | .own xs => .ok (.dat (.ref s1.length)) (s1 ++ [.lst xs])
    | .dat _ => .bad := by rw [ev] <;> rfl
@[simp] theorem evA_nil : evA cf .nil env st = .ok [] st := by rw [evA]
@[simp] theorem evA_cons : evA cf (.cons e r) env st = (ev cf e env st).bind fun x s1 => (evA cf r env s1).bind fun xs s2 => .ok (x.d :: xs) s2 := by rw [evA]
@[simp] theorem evA_star : evA cf (.star e r) env st = (ev cf e env st).bind fun x s1 => match items x.d with
    | some ys => (evA cf r env s1).bind fun xs s2 => .ok (ys ++ xs) s2
    | none => .bad := by rw [evA] <;> rfl
@[simp] theorem evO_none : evO cf .none env st = .ok none st := by rw [evO]
@[simp] theorem evO_some : evO cf (.some e) env st = (ev cf e env st).bind fun x s1 => match x.d with
    | .int i => .ok (some i) s1
    | _ => .bad := by rw [evO] <;> rfl
@[simp] theorem evI_seq : evI cf (.seq e) env st = (ev cf e env st).bind fun x s1 => opt (items x.d) s1 := by rw [evI]
@[simp] theorem evI_mut : evI cf (.mut i) env st = opt (getM env i) st := by rw [evI]
@[simp] theorem evI_rng1 : evI cf (.rng1 a) env st = (ev cf a env st).bind fun x s1 => match x.d with
    | .int n => if rngOk 0 n then .ok (rng 0 n) s1 else .bad
    | _ => .bad := by rw [evI] <;> rfl
@[simp] theorem evI_rng2 : evI cf (.rng2 a b) env st = (ev cf a env st).bind fun x s1 => (ev cf b env s1).bind fun y s2 => match x.d, y.d with
    | .int m, .int n => if rngOk m n then .ok (rng m n) s2 else .bad
    | _, _ => .bad := by rw [evI] <;> rfl
@[simp] theorem evI_zip : evI cf (.zip a b) env st = (ev cf a env st).bind fun x s1 => (ev cf b env s1).bind fun y s2 => match items x.d, items y.d with
    | some xs, some ys => .ok (zipF xs ys) s2
    | _, _ => .bad := by rw [evI] <;> rfl
@[simp] theorem evI_enum : evI cf (.enum a) env st = (ev cf a env st).bind fun x s1 => opt ((items x.d).map enumF) s1 := by rw [evI]
@[simp] theorem evC_yes : evC cf .yes env st = .ok true st := by rw [evC]
@[simp] theorem evC_one : evC cf (.one e) env st = (ev cf e env st).bind fun x s1 => match x.d with
    | .bl k => .ok k s1
    | _ => .bad := by rw [evC] <;> rfl
@[simp] theorem evW_nil : evW cf .nil env st = .ok [] st := by rw [evW]
@[simp] theorem evW_cons : evW cf (.cons e r) env st = (ev cf e env st).bind fun x s1 => (evW cf r env s1).bind fun xs s2 => .ok (x :: xs) s2 := by rw [evW]
@[simp] theorem ex_asg : ex cf wf (.asg g e) env st = (ev cf e env st).out env fun x s1 => match putG g x.d env with
    | some env' => .nx env' s1
    | none => .bad := by rw [ex] <;> rfl
@[simp] theorem ex_own : ex cf wf (.own i e) env st = (ev cf e env st).out env fun x s1 => match x with
    | .own xs => if i < env.length then .nx (env.set i (.mut xs)) s1 else .bad
    | _ => .bad := by rw [ex] <;> rfl
@[simp] theorem ex_par (gs : List (Bool × Nat)) : ex cf wf (.par gs es) env st = (evW cf es env st).out env fun ws s1 => match putP gs ws env with
    | some env' => .nx env' s1
    | none => .bad := by rw [ex] <;> rfl
@[simp] theorem ex_setm : ex cf wf (.setm i a e) env st = match getM env i with
    | some xs => (ev cf e env st).out env fun x s1 => (ev cf a env s1).out env fun y s2 => match y.d with
      | .int n => match ixD xs.length n with
        | some j => .nx (env.set i (.mut (xs.set j x.d))) s2
        | none => .bad
      | _ => .bad
    | none => .bad := by rw [ex] <;> rfl
@[simp] theorem ex_augm : ex cf wf (.augm i o a e) env st = match getM env i with
    | some xs => (ev cf a env st).out env fun y s1 => match y.d with
      | .int n => match ixD xs.length n with
        | some j => match xs[j]? with
          | some z => (ev cf e env s1).out env fun x s2 => match augD o z x.d with
            | some q => .nx (env.set i (.mut (xs.set j q))) s2
            | none => .bad
          | none => .bad
        | none => .bad
      | _ => .bad
    | none => .bad := by rw [ex] <;> rfl
@[simp] theorem ex_appm : ex cf wf (.appm i e) env st = match getM env i with
    | some xs => (ev cf e env st).out env fun x s1 => if xs.length < sizeLine then .nx (env.set i (.mut (xs ++ [x.d]))) s1 else .bad
    | none => .bad := by rw [ex] <;> rfl
@[simp] theorem ex_extm : ex cf wf (.extm i e) env st = match getM env i with
    | some xs => (ev cf e env st).out env fun x s1 => match x.d with
      | .lst ys => if xs.length + ys.length ≤ sizeLine then .nx (env.set i (.mut (xs ++ ys))) s1 else .bad
      | _ => .bad
    | none => .bad := by rw [ex] <;> rfl
@[simp] theorem ex_ife : ex cf wf (.ife c sa sb) env st = (ev cf c env st).out env fun x s1 => match x.d with
    | .bl true => exs cf wf sa env s1
    | .bl false => exs cf wf sb env s1
    | _ => .bad := by rw [ex] <;> rfl
@[simp] theorem ex_for : ex cf wf (.for_ g it sb) env st = (evI cf it env st).out env fun xs s1 => forL (forB cf wf g sb) xs env s1 := by rw [ex] <;> rfl
@[simp] theorem ex_whl : ex cf wf (.whl c sb) env st = whileL (whC cf c) (whB cf wf sb) wf env st := by rw [ex] <;> rfl
@[simp] theorem ex_ret : ex cf wf (.ret e) env st = (ev cf e env st).out env fun x s1 => .rt x s1 := by rw [ex]
@[simp] theorem ex_exp : ex cf wf (.exp e) env st = (ev cf e env st).out env fun _ s1 => .nx env s1 := by rw [ex]
@[simp] theorem ex_mk : ex cf wf (.mk a b c) env st = (ev cf a env st).out env fun x s1 => (ev cf b env s1).out env fun y s2 => (ev cf c env s2).out env fun z s3 => match x.d, y, z.d with
    | .int m, .own xs, .int t => .rt (.dat (.ref (s3.length + 1))) (s3 ++ [.lst xs, .dct [("mixed", .int m), ("great", .ref s3.length), ("turn", .int t)]])
    | _, _, _ => .bad := by rw [ex] <;> rfl
@[simp] theorem ex_put : ex cf wf (.put a x e) env st = (ev cf e env st).out env fun y s1 => (ev cf a env s1).out env fun d s2 => match putF x d.d y.d s2 with
    | some s3 => .nx env s3
    | none => .bad := by rw [ex] <;> rfl
@[simp] theorem ex_obs : ex cf wf (.obs a b e) env st = (ev cf e env st).out env fun y s1 => (ev cf a env s1).out env fun d s2 => (ev cf b env s2).out env fun z s3 => match z.d with
    | .int k => match setF d.d k y.d s3 with
      | some s4 => .nx env s4
      | none => .bad
    | _ => .bad := by rw [ex] <;> rfl
@[simp] theorem ex_ppar : ex cf wf (.ppar a x i e1 e2) env st = (ev cf e1 env st).out env fun y s1 => (ev cf e2 env s1).out env fun z s2 => (ev cf a env s2).out env fun d s3 => match putF x d.d y.d s3 with
    | some s4 => if i < env.length then .nx (env.set i (.dat z.d)) s4 else .bad
    | none => .bad := by rw [ex] <;> rfl
@[simp] theorem ex_dead : ex cf wf .dead env st = .bad := by rw [ex]
@[simp] theorem exs_nil : exs cf wf .nil env st = .nx env st := by rw [exs]
@[simp] theorem exs_cons : exs cf wf (.cons s ss) env st = (ex cf wf s env st).andThen fun env' s1 => exs cf wf ss env' s1 := by rw [exs]
@[simp] theorem exs_frz : exs cf wf (.frz i ss) env st = match getM env i with
    | some xs => exs cf wf ss (env.set i (.dat (.lst xs))) st
    | none => .bad := by rw [exs] <;> rfl
@[simp] theorem exs_melt : exs cf wf (.melt i ss) env st = match getD env i with
    | some (.lst xs) => match meltD xs st with
      | some q => exs cf wf ss (env.set i (.dat (.lst q.1))) q.2
      | none => .bad
    | _ => .bad := by rw [exs] <;> rfl
@[simp] theorem putG_nm : putG (.nm i) d env = if i < env.length then some (env.set i (.dat d)) else none := by rw [putG]
@[simp] theorem putG_tp (gs : Gs) (xs : List D) : putG (.tp gs) (.tup xs) env = putGs gs xs env := by rw [putG]
@[simp] theorem putGs_nil : putGs .nil [] env = some env := by rw [putGs]
@[simp] theorem putGs_cons (gs : Gs) (y : D) (xs : List D) : putGs (.cons g gs) (y :: xs) env = (putG g y env).bind fun env' => putGs gs xs env' := by rw [putGs]
@[simp] theorem getD_zero (s : Slot) : getD (s :: env) 0 = match s with
    | .dat d => some d
    | _ => none := by unfold getD; cases s <;> rfl
@[simp] theorem getD_succ (s : Slot) : getD (s :: env) (i + 1) = getD env i := nr rfl
@[simp] theorem getM_zero (s : Slot) : getM (s :: env) 0 = match s with
    | .mut d => some d
    | _ => none := by unfold getM; cases s <;> rfl
@[simp] theorem getM_succ (s : Slot) : getM (s :: env) (i + 1) = getM env i := nr rfl
@[simp] theorem getM_nil : getM [] i = none := nr rfl
@[simp] theorem wipeE_nil : wipeE env [] = env := nr rfl
@[simp] theorem wipeE_cons (vs : List Nat) : wipeE env (i :: vs) = (wipeE env vs).set i .un := nr rfl
@[simp] theorem putP_nil : putP [] [] env = some env := nr rfl
@[simp] theorem putP_f (gs : List (Bool × Nat)) (w : W) (ws : List W) : putP ((false, i) :: gs) (w :: ws) env = if i < env.length then putP gs ws (env.set i (.dat w.d)) else none := nr rfl
@[simp] theorem putP_t (gs : List (Bool × Nat)) (xs : List D) (ws : List W) : putP ((true, i) :: gs) (.own xs :: ws) env = if i < env.length then putP gs ws (env.set i (.mut xs)) else none := nr rfl
end
section
variable (i j : Int) (x y : Str) (xs ys : List D) (b b' : Bool) (d : D) (ns : List Int)
@[simp] theorem c_lt : cmpD .lt (.int i) (.int j) = some (decide (i < j)) := nr rfl
@[simp] theorem c_le : cmpD .le (.int i) (.int j) = some (decide (i ≤ j)) := nr rfl
@[simp] theorem c_gt : cmpD .gt (.int i) (.int j) = some (decide (j < i)) := nr rfl
@[simp] theorem c_ge : cmpD .ge (.int i) (.int j) = some (decide (j ≤ i)) := nr rfl
@[simp] theorem c_isN : cmpD .is d .non = some (match d with | .non => true | _ => false) := by cases d <;> rfl
@[simp] theorem c_isnN : cmpD .isnot d .non = some (match d with | .non => false | _ => true) := by cases d <;> rfl
@[simp] theorem c_isB : cmpD .is (.bl b) (.bl b') = some (decide (b = b')) := nr rfl
@[simp] theorem eqI : eqD (.int i) (.int j) = decide (i = j) := by rw [Bool.eq_iff_iff]; simp [eqD, toPy, PyData.eqv]
@[simp] theorem eqS : eqD (.str x) (.str y) = decide (x = y) := by rw [Bool.eq_iff_iff]; simp [eqD, toPy, PyData.eqv]
@[simp] theorem eqB : eqD (.bl b) (.bl b') = decide (b = b') := by rw [Bool.eq_iff_iff]; simp [eqD, toPy, PyData.eqv]
@[simp] theorem c_eqI : cmpD .eq (.int i) (.int j) = some (decide (i = j)) := by simp [cmpD, okD]
@[simp] theorem c_neI : cmpD .ne (.int i) (.int j) = some (!decide (i = j)) := by simp [cmpD, okD]
@[simp] theorem c_eqB : cmpD .eq (.bl b) (.bl b') = some (decide (b = b')) := by simp [cmpD, okD]
@[simp] theorem c_neB : cmpD .ne (.bl b) (.bl b') = some (!decide (b = b')) := by simp [cmpD, okD]
@[simp] theorem c_inT : cmpD .inn d (.tup ys) = if scalar d && ys.all scalar then some (inD d ys) else none := by cases d <;> rfl
@[simp] theorem c_ninT : cmpD .nin d (.tup ys) = if scalar d && ys.all scalar then some (!inD d ys) else none := by cases d <;> rfl
@[simp] theorem bin_add : binD .add (.int i) (.int j) = some (.dat (.int (i + j))) := nr rfl
@[simp] theorem bin_sub : binD .sub (.int i) (.int j) = some (.dat (.int (i - j))) := nr rfl
@[simp] theorem bin_mul : binD .mul (.int i) (.int j) = if mulOk i j then some (.dat (.int (i * j))) else none := nr rfl
theorem bin_mulL : binD .mul (.lst xs) (.int j) = if decide (-(2 ^ 63) ≤ j) && decide (j < 2 ^ 63) && decide (xs.length * j.toNat ≤ sizeLine) then some (.own (rep j xs)) else none := rfl
theorem bin_mulT : binD .mul (.tup xs) (.int j) = if decide (-1000 ≤ j) && decide (j ≤ 1000) && decide (xs.length ≤ 1000) then some (.dat (.tup (rep j xs))) else none := rfl
@[simp] theorem bin_fdiv : binD .fdiv (.int i) (.int j) = if divOk j then some (.dat (.int (i / j))) else none := nr rfl
@[simp] theorem bin_mod : binD .mod (.int i) (.int j) = if decide (0 < j) then some (.dat (.int (i % j))) else none := nr rfl
@[simp] theorem bin_addT : binD .add (.tup xs) (.tup ys) = if xs.length + ys.length ≤ sizeLine then some (.dat (.tup (xs ++ ys))) else none := nr rfl
@[simp] theorem bin_addL : binD .add (.lst xs) (.lst ys) = if xs.length + ys.length ≤ sizeLine then some (.own (xs ++ ys)) else none := nr rfl
@[simp] theorem items_tup : items (.tup xs) = some xs := nr rfl
@[simp] theorem items_lst : items (.lst xs) = some xs := nr rfl
@[simp] theorem items_scr : items (.scr ns) = some (ns.map .int) := nr rfl
@[simp] theorem slc_tup (l h : Option Int) : slcD (.tup xs) l h = some (.dat (.tup (cutD xs l h))) := nr rfl
@[simp] theorem slc_lst (l h : Option Int) : slcD (.lst xs) l h = some (.own (cutD xs l h)) := nr rfl
@[simp] theorem len_tup : b1D .len (.tup xs) = some (.dat (.int xs.length)) := nr rfl
@[simp] theorem len_lst : b1D .len (.lst xs) = some (.dat (.int xs.length)) := nr rfl
@[simp] theorem len_scr : b1D .len (.scr ns) = some (.dat (.int ns.length)) := nr rfl
@[simp] theorem all_lst : b1D .all (.lst xs) = (bools xs).map fun bs => .dat (.bl (bs.all id)) := nr rfl
@[simp] theorem any_lst : b1D .any (.lst xs) = (bools xs).map fun bs => .dat (.bl (bs.any id)) := nr rfl
@[simp] theorem sum_lst : b1D .sum (.lst xs) = (intsOf xs).map fun is => .dat (.int is.sum) := nr rfl
@[simp] theorem list_tup : b1D .list (.tup xs) = some (.own xs) := nr rfl
@[simp] theorem list_lst : b1D .list (.lst xs) = some (.own xs) := nr rfl
@[simp] theorem tuple_lst : b1D .tuple (.lst xs) = some (.dat (.tup xs)) := nr rfl
@[simp] theorem tuple_tup : b1D .tuple (.tup xs) = some (.dat (.tup xs)) := nr rfl
@[simp] theorem int_int : b1D .int (.int i) = some (.dat (.int i)) := nr rfl
@[simp] theorem int_bl : b1D .int (.bl b) = some (.dat (.int (if b then 1 else 0))) := nr rfl
@[simp] theorem abs_int : b1D .abs (.int i) = some (.dat (.int (if i < 0 then -i else i))) := nr rfl
theorem repr_d : b1D .repr d = if okD 60 d && showD 60 d && decide (wt 60 d ≤ sizeLine) && !scalar d then some (.dat (.str (shown d))) else none := by cases d <;> rfl
@[simp] theorem b2_min : b2D .min (.int i) (.int j) = some (.dat (.int (if j < i then j else i))) := nr rfl
@[simp] theorem b2_max : b2D .max (.int i) (.int j) = some (.dat (.int (if j > i then j else i))) := nr rfl
@[simp] theorem aug_add : augD .add (.int i) (.int j) = some (.int (i + j)) := nr rfl
end
@[simp] theorem strOk_of (s : String) : PyData.strOk (Str.ofString s) = true := by
  rw [Str.ofString_eq_toList]
  simp only [PyData.strOk, List.all_toArray, List.all_map, List.all_eq_true]
  intro c _
  simp only [Function.comp, decide_eq_true_eq]
  have h := c.valid
  unfold UInt32.isValidChar Nat.isValidChar at h
  have : c.toNat = c.val.toNat := rfl
  omega
@[simp] theorem ofString_eq (s t : String) : (Str.ofString s = Str.ofString t) = (s = t) := by
  rw [eq_iff_iff]
  constructor
  · intro h
    rw [Str.ofString_eq_toList, Str.ofString_eq_toList] at h
    have h1 := congrArg (fun x : Str => x.cps.toList) h
    simp only at h1
    have h2 : s.toList = t.toList := by
      refine List.map_inj_right (fun x y e => ?_) |>.mp h1
      exact Char.ext (UInt32.toNat_inj.mp e)
    exact String.ext h2
  · rintro rfl; rfl
@[simp] theorem c_eqS (x y : Str) : cmpD .eq (.str x) (.str y) = some (decide (x = y)) := nr rfl
@[simp] theorem c_neS (x y : Str) : cmpD .ne (.str x) (.str y) = some (!decide (x = y)) := nr rfl
theorem sizeLine_big : 100000 ≤ sizeLine := by decide
@[simp] theorem le_size {n : Nat} (h : n ≤ 100000) : n ≤ sizeLine := Nat.le_trans h sizeLine_big
theorem divOk_of {j : Int} (h : 0 < j) (h2 : j < 2 ^ 250) : divOk j = true := by
  have h3 : (2 : Nat) ^ 250 ≤ 2 ^ 9000 := Nat.pow_le_pow_right (by decide) (by decide)
  have h4 : j.natAbs < 2 ^ 9000 := Nat.lt_of_lt_of_le (by omega) h3
  unfold divOk
  rw [decide_eq_true h, decide_eq_true h4]; rfl
theorem mulOk_l {i j : Int} (h : i.natAbs < 2 ^ 63) : mulOk i j = true := by
  unfold mulOk
  rw [decide_eq_true h]; rfl
theorem mulOk_r {i j : Int} (h : j.natAbs < 2 ^ 63) : mulOk i j = true := by
  unfold mulOk
  rw [decide_eq_true h, Bool.or_true]; rfl
@[simp] theorem at0 (a : D) (xs : List D) : atD (a :: xs) 0 = some a := by simp [atD, ixD]
@[simp] theorem at1 (a b : D) (xs : List D) : atD (a :: b :: xs) 1 = some b := by
  have h : (1 : Int) < ((a :: b :: xs).length : Nat) := by simp only [List.length_cons]; omega
  simp only [atD, ixD, if_pos h]; rfl
@[simp] theorem at2 (a b c : D) (xs : List D) : atD (a :: b :: c :: xs) 2 = some c := by
  have h : (2 : Int) < ((a :: b :: c :: xs).length : Nat) := by simp only [List.length_cons]; omega
  simp only [atD, ixD, if_pos h]; rfl
@[simp] theorem at3 (a b c d : D) (xs : List D) : atD (a :: b :: c :: d :: xs) 3 = some d := by
  have h : (3 : Int) < ((a :: b :: c :: d :: xs).length : Nat) := by simp only [List.length_cons]; omega
  simp only [atD, ixD, if_pos h]; rfl
/-- a list's number at a place -/
def gAt (l : List Int) (i : Nat) : Int := l.getD i 0
theorem gAt_ok {l : List Int} {i : Nat} (h : i < l.length) : l[i]? = some (gAt l i) := by
  rw [gAt, List.getD, List.getElem?_eq_getElem h]; rfl
theorem ixD_ok {m : Nat} {g : Int} (h0 : 0 < g) (h1 : g ≤ m) : ixD m (g - 1) = some (g.toNat - 1) := by
  unfold ixD
  rw [if_pos (by omega), if_pos (by omega)]
  congr 1; omega
theorem ixD_nat {m i : Nat} (h : i < m) : ixD m (i : Int) = some i := by
  unfold ixD
  rw [if_pos (by omega), if_pos (by omega)]
  congr 1
theorem rep_one (m : Nat) (d : D) : rep (m : Int) [d] = List.replicate m d := by
  unfold rep
  rw [Int.toNat_natCast]
  induction m with
  | zero => rfl
  | succ m ih => rw [List.replicate_succ, List.flatten_cons, ih]; rfl
theorem bin_rep {m : Nat} {d : D} (h : m ≤ 100000) : binD .mul (.lst [d]) (.int m) = some (.own (List.replicate m d)) := by
  have h1 : (-(2 ^ 63) : Int) ≤ (m : Int) := by omega
  have h2 : (m : Int) < 2 ^ 63 := by omega
  have h3 : [d].length * (m : Int).toNat ≤ sizeLine := le_size (by simpa using h)
  rw [bin_mulL, decide_eq_true h1, decide_eq_true h2, decide_eq_true h3, rep_one]
  rfl
theorem bin_repT {xs : List D} {m : Nat} (h : m ≤ 1000) (h2 : xs.length ≤ 1000) : binD .mul (.tup xs) (.int m) = some (.dat (.tup (List.replicate m xs).flatten)) := by
  have h1 : (-1000 : Int) ≤ (m : Int) := by omega
  have h3 : (m : Int) ≤ 1000 := by omega
  rw [bin_mulT, decide_eq_true h1, decide_eq_true h2, decide_eq_true h3]
  simp [rep]
/-- loops -/
theorem forL_ind {body : D → Fr → Sto → Out} (P : List D → Fr → Sto → Prop) (h : ∀ x xs env st, P (x :: xs) env st → ∃ env' st', body x env st = .nx env' st' ∧ P xs env' st') :
    ∀ xs env st, P xs env st → ∃ env' st', forL body xs env st = .nx env' st' ∧ P [] env' st'
  | [], env, st, p => ⟨env, st, rfl, p⟩
  | x :: xs, env, st, p => by
    obtain ⟨env', st', e, p'⟩ := h x xs env st p
    obtain ⟨env2, st2, e2, p2⟩ := forL_ind P h xs env' st' p'
    exact ⟨env2, st2, by rw [forL, e]; exact e2, p2⟩
theorem forL_nil {body : D → Fr → Sto → Out} {env : Fr} {st : Sto} : forL body [] env st = .nx env st := rfl
theorem forL_cons {body : D → Fr → Sto → Out} {x : D} {xs : List D} {env : Fr} {st : Sto} : forL body (x :: xs) env st = (body x env st).andThen fun env' s1 => forL body xs env' s1 := rfl
/-- a loop that changes no object -/
theorem forL_st {α σ : Type} (φ : α → D) {body : D → Fr → Sto → Out} (I : σ → Fr → Prop) (step : σ → α → σ) {st : Sto} :
    ∀ (ys : List α), (∀ y ∈ ys, ∀ s env, I s env → ∃ env', body (φ y) env st = .nx env' st ∧ I (step s y) env') →
      ∀ s env, I s env → ∃ env', forL body (ys.map φ) env st = .nx env' st ∧ I (ys.foldl step s) env'
  | [], _, s, env, p => ⟨env, rfl, p⟩
  | y :: ys, h, s, env, p => by
    obtain ⟨env', e, p'⟩ := h y (by simp) s env p
    obtain ⟨env2, e2, p2⟩ := forL_st φ I step ys (fun z hz => h z (by simp [hz])) _ env' p'
    exact ⟨env2, by rw [List.map_cons, forL_cons, e]; exact e2, p2⟩
theorem compL_map {α : Type} (φ : α → D) {f : D → Sto → R (Option D)} (h : α → Option D) {st : Sto} : ∀ (ys : List α), (∀ y ∈ ys, f (φ y) st = .ok (h y) st) → compL f (ys.map φ) st = .ok (ys.filterMap h) st
  | [], _ => rfl
  | y :: ys, q => by
    rw [List.map_cons, compL, q y (by simp)]
    simp only
    rw [compL_map φ h ys fun z hz => q z (by simp [hz])]
    simp only [List.filterMap_cons]
    cases h y <;> rfl
theorem compL_mapT {α : Type} (φ : α → D) {f : D → Sto → R (Option D)} (h : α → D) {st : Sto} (ys : List α) (q : ∀ y ∈ ys, f (φ y) st = .ok (some (h y)) st) : compL f (ys.map φ) st = .ok (ys.map h) st := by
  rw [compL_map φ (fun y => some (h y)) ys q, List.filterMap_eq_map']
theorem enumF_map {α : Type} (φ : α → D) (ys : List α) : enumF (ys.map φ) = ys.zipIdx.map fun p => .tup [.int (p.2 : Nat), φ p.1] := by
  unfold enumF
  rw [List.zipIdx_map, List.map_map]
  rfl
theorem zipF_map {α β : Type} (φ : α → D) (ψ : β → D) (ys : List α) (zs : List β) : zipF (ys.map φ) (zs.map ψ) = (ys.zip zs).map fun p => .tup [φ p.1, ψ p.2] := by
  unfold zipF
  rw [List.zip_map, List.map_map]
  rfl
theorem rng_zero (n : Nat) : rng 0 n = (List.range n).map fun i => .int (i : Nat) := by
  unfold rng
  simp

/-! ### what holds behind a run -/
abbrev XQ := Nat → D → Sto → Prop
def noX : XQ := fun _ _ _ => False
@[irreducible] def R.Sat {α : Type} (r : R α) (Q : α → Sto → Prop) (E : XQ) : Prop := match r with
  | .ok a st => Q a st
  | .exc c p st => E c p st
  | .bad => False
@[irreducible] def Out.Sat (o : Out) (N : Fr → Sto → Prop) (Q : W → Sto → Prop) (E : XQ) : Prop := match o with
  | .nx env st => N env st
  | .rt w st => Q w st
  | .exc c p _ st => E c p st
  | .bad => False
section
variable {α β : Type} {Q Q' : α → Sto → Prop} {E E' : XQ} {N N' : Fr → Sto → Prop} {V V' : W → Sto → Prop}
@[simp] theorem sat_ok (a : α) (st : Sto) : (R.ok a st).Sat Q E = Q a st := by unfold R.Sat; rfl
@[simp] theorem sat_exc (c : Nat) (p : D) (st : Sto) : (R.exc c p st : R α).Sat Q E = E c p st := by unfold R.Sat; rfl
@[simp] theorem sat_bad : (R.bad : R α).Sat Q E = False := by unfold R.Sat; rfl
@[simp] theorem sat_nx (env : Fr) (st : Sto) : (Out.nx env st).Sat N V E = N env st := by unfold Out.Sat; rfl
@[simp] theorem sat_rt (w : W) (st : Sto) : (Out.rt w st).Sat N V E = V w st := by unfold Out.Sat; rfl
@[simp] theorem sat_xc (c : Nat) (p : D) (env : Fr) (st : Sto) : (Out.exc c p env st).Sat N V E = E c p st := by unfold Out.Sat; rfl
@[simp] theorem sat_bd : (Out.bad).Sat N V E = False := by unfold Out.Sat; rfl
@[simp] theorem sat_bind (r : R β) (f : β → Sto → R α) : (r.bind f).Sat Q E = r.Sat (fun a s => (f a s).Sat Q E) E := by cases r <;> simp [R.bind]
@[simp] theorem sat_done (o : Out) : (done o).Sat V E = o.Sat (fun _ st => V (.dat .non) st) V E := by cases o <;> simp [done]
@[simp] theorem sat_then (o : Out) (f : Fr → Sto → Out) : (o.andThen f).Sat N V E = o.Sat (fun env s => (f env s).Sat N V E) V E := by cases o <;> simp [Out.andThen]
@[simp] theorem sat_out (r : R β) (env : Fr) (f : β → Sto → Out) : (r.out env f).Sat N V E = r.Sat (fun a s => (f a s).Sat N V E) E := by cases r <;> simp [R.out]
theorem R.Sat.mono {r : R α} (h : r.Sat Q E) (hq : ∀ a st, Q a st → Q' a st) (he : ∀ c p st, E c p st → E' c p st) : r.Sat Q' E' := by
  cases r with
  | ok a st => rw [sat_ok] at *; exact hq a st h
  | exc c p st => rw [sat_exc] at *; exact he c p st h
  | bad => rw [sat_bad] at *; exact h
/-- with the same errors -/
theorem R.Sat.imp {r : R α} (h : r.Sat Q E) (hq : ∀ a st, Q a st → Q' a st) : r.Sat Q' E := h.mono hq fun _ _ _ z => z
/-- without errors -/
theorem R.Sat.use {r : R α} (h : r.Sat Q noX) (hq : ∀ a st, Q a st → Q' a st) : r.Sat Q' E := h.mono hq fun _ _ _ z => z.elim
theorem Out.Sat.mono {o : Out} (h : o.Sat N V E) (hn : ∀ env st, N env st → N' env st) (hv : ∀ w st, V w st → V' w st) (he : ∀ c p st, E c p st → E' c p st) : o.Sat N' V' E' := by
  cases o with
  | nx env st => rw [sat_nx] at *; exact hn env st h
  | rt w st => rw [sat_rt] at *; exact hv w st h
  | exc c p env st => rw [sat_xc] at *; exact he c p st h
  | bad => rw [sat_bd] at *; exact h
theorem eq_of_sat {r : R α} {a : α} {st : Sto} (h : r.Sat (fun x s => x = a ∧ s = st) noX) : r = .ok a st := by
  cases r with
  | ok x s => rw [sat_ok] at h; obtain ⟨rfl, rfl⟩ := h; rfl
  | exc c p s => rw [sat_exc] at h; exact h.elim
  | bad => rw [sat_bad] at h; exact h.elim
/-- a loop over typed items -/
theorem for_sat {φ : α → D} {body : D → Fr → Sto → Out} {xs : List D} (ys : List α) (hxs : xs = ys.map φ) (P : List α → Fr → Sto → Prop) {env : Fr} {st : Sto} (h0 : P ys env st)
    (hs : ∀ y ys env st, P (y :: ys) env st → (body (φ y) env st).Sat (fun env' st' => P ys env' st') V E) (hend : ∀ env st, P [] env st → N env st) : (forL body xs env st).Sat N V E := by
  subst hxs
  induction ys generalizing env st with
  | nil =>
    show (Out.nx env st).Sat N V E
    rw [sat_nx]; exact hend _ _ h0
  | cons y ys ih =>
    rw [List.map_cons, forL_cons, sat_then]
    exact (hs y ys env st h0).mono (fun env' st' h => ih h) (fun _ _ h => h) fun _ _ _ h => h
/-- a list made item by item -/
theorem comp_sat {φ : α → D} {f : D → Sto → R (Option D)} {xs : List D} (ys : List α) (hxs : xs = ys.map φ) (P : List D → List α → Sto → Prop) {st : Sto} (h0 : P [] ys st)
    (hs : ∀ zs y ys st, P zs (y :: ys) st → (f (φ y) st).Sat (fun o st' => P (zs ++ o.toList) ys st') noX) {Q : List D → Sto → Prop} (hend : ∀ zs st, P zs [] st → Q zs st) : (compL f xs st).Sat Q E := by
  subst hxs
  have main : ∀ (ys : List α) (zs : List D) (st : Sto), P zs ys st → (compL f (ys.map φ) st).Sat (fun r s => P (zs ++ r) [] s) noX := by
    intro ys
    induction ys with
    | nil => intro zs st h; simpa [compL] using h
    | cons y ys ih =>
      intro zs st h
      have h1 := hs zs y ys st h
      rw [List.map_cons, compL]
      cases q : f (φ y) st with
      | ok o s1 =>
        rw [q, sat_ok] at h1
        have h2 := ih _ _ h1
        simp only
        cases q2 : compL f (ys.map φ) s1 with
        | ok r s2 =>
          rw [q2] at h2
          simp only [sat_ok] at h2 ⊢
          cases o <;> simpa using h2
        | exc c p s => rw [q2, sat_exc] at h2; exact h2.elim
        | bad => rw [q2, sat_bad] at h2; exact h2.elim
      | exc c p s => rw [q, sat_exc] at h1; exact h1.elim
      | bad => rw [q, sat_bad] at h1; exact h1.elim
  exact (main ys [] st h0).use fun r s h => hend r s (by simpa using h)
theorem sat_eq {r : R α} {a : α} {st : Sto} (h : r = .ok a st) (q : Q a st) : r.Sat Q E := by rw [h, sat_ok]; exact q
/-- what is wanted at the end, not to be looked into -/
theorem sat_abs {r : R α} (h : ∀ Q' : α → Sto → Prop, (∀ a s, Q a s → Q' a s) → r.Sat Q' E) : r.Sat Q E := h Q fun _ _ z => z
theorem for_inv {φ : α → D} {body : D → Fr → Sto → Out} {xs : List D} (ys : List α) (hxs : xs = ys.map φ) (P : List α → Fr → Sto → Prop) {env : Fr} {st : Sto} (h0 : P ys env st)
    (hs : ∀ P' : List α → Fr → Sto → Prop, (∀ ys env st, P ys env st → P' ys env st) → ∀ y ys env st, P (y :: ys) env st → (body (φ y) env st).Sat (fun env' st' => P' ys env' st') V E) (hend : ∀ env st, P [] env st → N env st) : (forL body xs env st).Sat N V E :=
  for_sat ys hxs P h0 (hs P fun _ _ _ z => z) hend
theorem comp_inv {φ : α → D} {f : D → Sto → R (Option D)} {xs : List D} (ys : List α) (hxs : xs = ys.map φ) (P : List D → List α → Sto → Prop) {st : Sto} (h0 : P [] ys st)
    (hs : ∀ P' : List D → List α → Sto → Prop, (∀ zs ys st, P zs ys st → P' zs ys st) → ∀ zs y ys st, P zs (y :: ys) st → (f (φ y) st).Sat (fun o st' => P' (zs ++ o.toList) ys st') noX) {Q : List D → Sto → Prop} (hend : ∀ zs st, P zs [] st → Q zs st) : (compL f xs st).Sat Q E :=
  comp_sat ys hxs P h0 (hs P fun _ _ _ z => z) hend
end
end MP

set_option Elab.async false
set_option linter.all false
set_option maxRecDepth 100000
namespace MP
open PySem
/-! ### data that is small enough to be shown -/
structure Sm (n B : Nat) (d : D) : Prop where
  ok : okD n d = true
  sh : showD n d = true
  wt : wt n d ≤ B
theorem Sm.mono {n B B' : Nat} {d : D} (h : Sm n B d) (hb : B ≤ B') : Sm n B' d := ⟨h.ok, h.sh, Nat.le_trans h.wt hb⟩
theorem log2_small {m : Nat} (h : m < 10 ^ 18) : m.log2 < 1920 := by
  by_cases e : m = 0
  · subst e; decide
  · rw [Nat.log2_lt e]
    exact Nat.lt_of_lt_of_le h (Nat.le_trans (show 10 ^ 18 ≤ 2 ^ 60 by decide) (Nat.pow_le_pow_right (by decide) (by decide)))
theorem Sm.int {n : Nat} {i : Int} (h : i.natAbs < 10 ^ 18) : Sm n 20 (.int i) := by
  cases n <;> exact ⟨rfl, decide_eq_true (log2_small h), by simp only [MP.wt]; rw [if_pos h]; exact Nat.le_refl _⟩
theorem Sm.bl {n : Nat} {b : Bool} : Sm n 5 (.bl b) := by cases n <;> exact ⟨rfl, rfl, Nat.le_refl _⟩
theorem Sm.non {n : Nat} : Sm n 4 .non := by cases n <;> exact ⟨rfl, rfl, Nat.le_refl _⟩
theorem Sm.str {n : Nat} {s : Str} (h : PyData.strOk s = true) : Sm n (10 * s.length + 2) (.str s) := by cases n <;> exact ⟨h, rfl, Nat.le_refl _⟩
theorem sum_wt {n B : Nat} : ∀ xs : List D, (∀ x ∈ xs, Sm n B x) → (xs.map fun x => wt n x + 2).sum ≤ xs.length * (B + 2)
  | [], _ => by simp
  | x :: xs, h => by
    have h1 := (h x (by simp)).wt
    have h2 := sum_wt xs fun y hy => h y (by simp [hy])
    simp only [List.map_cons, List.sum_cons, List.length_cons, Nat.add_mul, Nat.one_mul]
    omega
theorem Sm.tup {n B m : Nat} {xs : List D} (h : ∀ x ∈ xs, Sm n B x) (hm : xs.length ≤ m) : Sm (n + 1) (3 + m * (B + 2)) (.tup xs) := by
  refine ⟨List.all_eq_true.mpr fun x hx => (h x hx).ok, List.all_eq_true.mpr fun x hx => (h x hx).sh, ?_⟩
  have := sum_wt xs h
  have h2 : xs.length * (B + 2) ≤ m * (B + 2) := Nat.mul_le_mul_right _ hm
  show 3 + (xs.map fun x => MP.wt n x + 2).sum ≤ _
  omega
theorem Sm.lst {n B m : Nat} {xs : List D} (h : ∀ x ∈ xs, Sm n B x) (hm : xs.length ≤ m) : Sm (n + 1) (3 + m * (B + 2)) (.lst xs) := by
  refine ⟨List.all_eq_true.mpr fun x hx => (h x hx).ok, List.all_eq_true.mpr fun x hx => (h x hx).sh, ?_⟩
  have := sum_wt xs h
  have h2 : xs.length * (B + 2) ≤ m * (B + 2) := Nat.mul_le_mul_right _ hm
  show 3 + (xs.map fun x => MP.wt n x + 2).sum ≤ _
  omega
theorem repr_ok {d : D} {B : Nat} (h : Sm 60 B d) (hb : B ≤ 16777216) (hs : scalar d = false) : b1D .repr d = some (.dat (.str (shown d))) := by
  have hw : wt 60 d ≤ sizeLine := Nat.le_trans h.wt (Nat.le_trans hb (by decide))
  rw [repr_d, h.ok, h.sh, decide_eq_true hw, hs]
  rfl
theorem layAll_of : ∀ ds : List PyData, (∀ d ∈ ds, PyData.canLay0 d = true) → PyData.canLayAll0 ds = true
  | [], _ => rfl
  | d :: ds, h => by
    show (PyData.canLay0 d && PyData.canLayAll0 ds) = true
    rw [h d (by simp), layAll_of ds fun x hx => h x (by simp [hx])]; rfl
theorem lay_of : ∀ (n : Nat) (d : D), okD n d = true → (toPy n d).canLay0 = true
  | n, .non, _ => by cases n <;> rfl
  | n, .bl _, _ => by cases n <;> rfl
  | n, .int _, _ => by cases n <;> rfl
  | n, .str s, h => by cases n <;> exact h
  | 0, .tup _, h => by cases h
  | 0, .lst _, h => by cases h
  | 0, .emp, h => by cases h
  | 0, .ref _, h => by cases h
  | 0, .fn _, h => by cases h
  | 0, .scr _, h => by cases h
  | n + 1, .emp, h => by cases h
  | n + 1, .ref _, h => by cases h
  | n + 1, .fn _, h => by cases h
  | n + 1, .scr _, h => by cases h
  | n + 1, .tup xs, h => layAll_of _ fun d hd => by
    obtain ⟨x, hx, rfl⟩ := List.mem_map.mp hd
    exact lay_of n x (List.all_eq_true.mp h x hx)
  | n + 1, .lst xs, h => layAll_of _ fun d hd => by
    obtain ⟨x, hx, rfl⟩ := List.mem_map.mp hd
    exact lay_of n x (List.all_eq_true.mp h x hx)
theorem eqD_refl {d : D} (h : okD 60 d = true) : eqD d d = true := PySem.SeqAt.eqv_refl _ (lay_of 60 d h)
theorem c_eq_refl {d : D} (h : okD 60 d = true) (hs : scalar d = false) : cmpD .eq d d = some true := by
  have e := eqD_refl h
  cases d <;> first | (cases hs; done) | simp only [cmpD, h, e] <;> rfl
theorem c_ne_refl {d : D} (h : okD 60 d = true) (hs : scalar d = false) : cmpD .ne d d = some false := by
  have e := eqD_refl h
  cases d <;> first | (cases hs; done) | simp only [cmpD, h, e] <;> rfl
end MP

set_option maxRecDepth 100000
namespace MP
open PySem
def F0 : Fn := ⟨3, 3, (.cons (.ife (.or (.not (.isi (.var 0) .int)) (.isi (.var 0) .bool)) (.cons (.ret (.con (.bl false))) .nil) .nil) (.cons (.ret (.and (.or (.cmp .is (.var 1) (.con .non)) (.cmp .ge (.var 0) (.var 1))) (.or (.cmp .is (.var 2) (.con .non)) (.cmp .le (.var 0) (.var 2))))) .nil))⟩
def F1 : Fn := ⟨1, 1, (.cons (.ife (.not (.call 0 "is_whole" (.cons (.var 0) (.cons (.glo "FEWEST" (.int 2)) (.cons (.glo "MOST" (.int 4)) .nil))))) (.cons .dead .nil) .nil) (.cons (.ret (.var 0)) .nil))⟩
def F2 : Fn := ⟨2, 2, (.cons (.ife (.not (.call 0 "is_whole" (.cons (.var 1) (.cons (.con (.int 0)) (.cons (.bin .sub (.var 0) (.con (.int 1))) .nil))))) (.cons .dead .nil) .nil) (.cons (.ret (.var 1)) .nil))⟩
def F3 : Fn := ⟨1, 1, (.cons (.ret (.idx (.tup (.cons (.con (.int 1)) (.cons (.con (.int 2)) (.cons (.con (.int 4)) (.cons (.con (.int 8)) (.cons (.con (.int 16)) .nil)))))) (.var 0))) .nil)⟩
def F4 : Fn := ⟨1, 1, (.cons (.ret (.bin .sub (.call 3 "groups_of" (.cons (.var 0) .nil)) (.con (.int 1)))) .nil)⟩
def F5 : Fn := ⟨1, 1, (.cons (.ret (.idx (.tup (.cons (.con (.int 1)) (.cons (.con (.int 2)) (.cons (.con (.int 4)) (.cons (.con (.int 8)) .nil))))) (.var 0))) .nil)⟩
def F6 : Fn := ⟨2, 2, (.cons (.ret (.cmp .eq (.bin .mod (.b1 .int (.bin .fdiv (.var 1) (.call 5 "bit_of" (.cons (.var 0) .nil)))) (.con (.int 2))) (.con (.int 1)))) .nil)⟩
def F7 : Fn := ⟨1, 3, (.cons (.ret (.b1 .tuple (.comp (.tup (.cons (.bin .add (.var 1) (.con (.int 1))) (.cons (.var 2) .nil))) (.tp (.cons (.nm 1) (.cons (.nm 2) .nil))) [1, 2] (.enum (.var 0)) (.one (.cmp .ne (.var 2) (.con (.int 0))))))) .nil)⟩
def F8 : Fn := ⟨2, 2, (.cons (.ife (.or (.not (.isi (.var 1) .tuple)) (.or (.cmp .ne (.b1 .len (.var 1)) (.con (.int 2))) (.not (.isi (.idx (.var 1) (.con (.int 0))) .str)))) (.cons (.ret (.con (.bl false))) .nil) .nil) (.cons (.ret (.and (.cmp .inn (.idx (.var 1) (.con (.int 0))) (.tup (.cons (.glo "JOIN" (.str "join")) (.cons (.glo "LEAVE" (.str "leave")) .nil)))) (.call 0 "is_whole" (.cons (.idx (.var 1) (.con (.int 1))) (.cons (.con (.int 0)) (.cons (.bin .sub (.var 0) (.con (.int 1))) .nil)))))) .nil))⟩
def F9 : Fn := ⟨2, 5, (.cons (.ife (.or (.not (.isi (.var 1) .tuple)) (.cmp .gt (.b1 .len (.var 1)) (.glo "MOST_ITEMS" (.int 40)))) (.cons (.ret (.lst (.cons (.tup .nil) .nil))) .nil) .nil) (.cons (.asg (.nm 2) (.con (.int 0))) (.cons (.for_ (.tp (.cons (.nm 3) (.cons (.nm 4) .nil))) (.enum (.var 1)) (.cons (.ife (.or (.not (.call 8 "is_item" (.cons (.var 0) (.cons (.var 4) .nil)))) (.cmp .ne (.call 6 "is_in" (.cons (.idx (.var 4) (.con (.int 1))) (.cons (.var 2) .nil))) (.cmp .eq (.idx (.var 4) (.con (.int 0))) (.glo "LEAVE" (.str "leave"))))) (.cons (.ret (.lst (.cons (.tup (.cons (.var 3) .nil)) .nil))) .nil) .nil) (.cons (.asg (.nm 2) (.call 10 "behind" (.cons (.var 2) (.cons (.var 4) .nil)))) .nil))) (.cons (.ret (.lst .nil)) .nil))))⟩
def F10 : Fn := ⟨2, 2, (.cons (.ret (.ite (.cmp .eq (.idx (.var 1) (.con (.int 0))) (.glo "JOIN" (.str "join"))) (.bin .add (.var 0) (.call 5 "bit_of" (.cons (.idx (.var 1) (.con (.int 1))) .nil))) (.bin .sub (.var 0) (.call 5 "bit_of" (.cons (.idx (.var 1) (.con (.int 1))) .nil))))) .nil)⟩
def F11 : Fn := ⟨2, 2, (.cons (.ret (.cmp .eq (.call 9 "fault_of" (.cons (.call 1 "need_many" (.cons (.var 0) .nil)) (.cons (.var 1) .nil))) (.lst .nil))) .nil)⟩
def F12 : Fn := ⟨2, 3, (.cons (.for_ (.nm 2) (.seq (.call 9 "fault_of" (.cons (.var 0) (.cons (.var 1) .nil)))) (.cons .dead .nil)) (.cons (.ret (.var 1)) .nil))⟩
def F13 : Fn := ⟨3, 9, (.cons (.par [(true, 4), (false, 5)] (.cons (.bin .mul (.lst (.cons (.con (.int 0)) .nil)) (.call 4 "all_of" (.cons (.var 0) .nil))) (.cons (.con (.int 0)) .nil))) (.cons (.for_ (.nm 3) (.seq (.var 1)) (.cons (.asg (.nm 6) (.call 10 "behind" (.cons (.var 5) (.cons (.var 3) .nil)))) (.cons (.ife (.cmp .eq (.idx (.var 3) (.con (.int 1))) (.var 2)) (.cons (.for_ (.tp (.cons (.nm 7) (.cons (.nm 8) .nil))) (.seq (.tup (.cons (.tup (.cons (.var 6) (.cons (.con (.int 1)) .nil))) (.cons (.tup (.cons (.var 5) (.cons (.neg (.con (.int 1))) .nil))) .nil)))) (.cons (.ife (.cmp .gt (.var 7) (.con (.int 0))) (.cons (.augm 4 .add (.bin .sub (.var 7) (.con (.int 1))) (.var 8)) .nil) .nil) .nil)) .nil) .nil) (.cons (.asg (.nm 5) (.var 6)) .nil)))) (.frz 4 (.cons (.ret (.call 7 "sum_of" (.cons (.var 4) .nil))) .nil))))⟩
def F14 : Fn := ⟨3, 3, (.cons (.exp (.call 1 "need_many" (.cons (.var 0) .nil))) (.cons (.exp (.call 12 "need_script" (.cons (.var 0) (.cons (.var 1) .nil)))) (.cons (.ret (.call 13 "pay_in" (.cons (.var 0) (.cons (.var 1) (.cons (.call 2 "need_partner" (.cons (.var 0) (.cons (.var 2) .nil))) .nil))))) .nil)))⟩
def F15 : Fn := ⟨2, 5, (.cons (.exp (.call 1 "need_many" (.cons (.var 0) .nil))) (.cons (.asg (.nm 2) (.con (.int 0))) (.cons (.for_ (.nm 3) (.seq (.call 12 "need_script" (.cons (.var 0) (.cons (.var 1) .nil)))) (.cons (.asg (.nm 2) (.call 10 "behind" (.cons (.var 2) (.cons (.var 3) .nil)))) .nil)) (.cons (.ret (.b1 .tuple (.comp (.var 4) (.nm 4) [4] (.rng1 (.var 0)) (.one (.call 6 "is_in" (.cons (.var 4) (.cons (.var 2) .nil))))))) .nil))))⟩
def F16 : Fn := ⟨1, 4, (.cons (.asg (.nm 1) (.bin .add (.con (.int 32452843)) (.bin .mul (.con (.int 41)) (.b1 .len (.var 0))))) (.cons (.for_ (.tp (.cons (.nm 2) (.cons (.nm 3) .nil))) (.enum (.var 0)) (.cons (.asg (.nm 1) (.bin .mod (.b1 .int (.bin .add (.bin .add (.bin .mul (.var 1) (.con (.int 998244353))) (.var 3)) (.bin .mul (.con (.int 104723)) (.var 2)))) (.con (.int 2305843009213693951)))) .nil)) (.cons (.mk (.var 1) (.comp (.var 3) (.nm 3) [3] (.seq (.var 0)) (.one (.cmp .ge (.var 3) (.bin .pow (.con (.int 10)) (.con (.int 18)))))) (.con (.int 0))) .nil)))⟩
def F17 : Fn := ⟨2, 6, (.cons (.ppar (.var 0) "turn" 4 (.bin .add (.get (.var 0) "turn") (.con (.int 1))) (.get (.var 0) "great")) (.cons (.asg (.nm 2) (.bin .mod (.b1 .int (.get (.var 0) "turn")) (.b2 .max (.con (.int 1)) (.obl (.var 4))))) (.cons (.ife (.and (.obe (.var 4)) (.cmp .gt (.obi (.var 4) (.var 2)) (.con (.int 0)))) (.cons (.asg (.nm 5) (.bin .mod (.b1 .int (.obi (.var 4) (.var 2))) (.var 1))) (.cons (.obs (.var 4) (.var 2) (.bin .fdiv (.obi (.var 4) (.var 2)) (.var 1))) (.cons (.ret (.var 5)) .nil))) .nil) (.cons (.asg (.nm 3) (.b1 .int (.bin .add (.bin .add (.bin .mul (.get (.var 0) "mixed") (.con (.int 6364136223846793))) (.bin .mul (.con (.int 1442695040888963)) (.get (.var 0) "turn"))) (.con (.int 11))))) (.cons (.put (.var 0) "mixed" (.bin .mod (.b1 .int (.var 3)) (.con (.int 2305843009213693951)))) (.cons (.ret (.bin .mod (.b1 .int (.bin .fdiv (.get (.var 0) "mixed") (.con (.int 32749)))) (.var 1))) .nil))))))⟩
def F18 : Fn := ⟨1, 1, (.cons (.ret (.idx (.lst (.cons (.con (.int 1)) (.cons (.con (.int 2)) (.cons (.con (.int 4)) (.cons (.con (.int 8)) (.cons (.con (.int 16)) .nil)))))) (.var 0))) .nil)⟩
def F19 : Fn := ⟨1, 1, (.cons (.ret (.idx (.lst (.cons (.con (.int 1)) (.cons (.con (.int 2)) (.cons (.con (.int 4)) (.cons (.con (.int 8)) .nil))))) (.var 0))) .nil)⟩
def F20 : Fn := ⟨2, 2, (.cons (.ret (.cmp .eq (.bin .mod (.b1 .int (.bin .fdiv (.var 1) (.call 19 "_law_bit" (.cons (.var 0) .nil)))) (.con (.int 2))) (.con (.int 1)))) .nil)⟩
def F21 : Fn := ⟨2, 5, (.cons (.own 2 (.bin .mul (.lst (.cons (.con (.int 0)) .nil)) (.bin .sub (.call 18 "_law_size" (.cons (.var 0) .nil)) (.con (.int 1))))) (.cons (.for_ (.tp (.cons (.nm 3) (.cons (.nm 4) .nil))) (.seq (.var 1)) (.cons (.setm 2 (.bin .sub (.var 3) (.con (.int 1))) (.bin .add (.idxM 2 (.bin .sub (.var 3) (.con (.int 1)))) (.var 4))) .nil)) (.frz 2 (.cons (.ret (.var 2)) .nil))))⟩
def F22 : Fn := ⟨2, 11, (.cons (.par [(false, 2), (false, 3)] (.cons (.comp (.new (.bin .mul (.lst (.cons (.con (.int 0)) .nil)) (.bin .sub (.call 18 "_law_size" (.cons (.var 0) .nil)) (.con (.int 1))))) (.nm 10) [10] (.rng1 (.var 0)) .yes) (.cons (.con (.int 0)) .nil))) (.cons (.for_ (.tp (.cons (.nm 4) (.cons (.nm 5) .nil))) (.seq (.var 1)) (.cons (.asg (.nm 6) (.ite (.cmp .eq (.var 4) (.con (.str "join"))) (.bin .add (.var 3) (.call 19 "_law_bit" (.cons (.var 5) .nil))) (.bin .sub (.var 3) (.call 19 "_law_bit" (.cons (.var 5) .nil))))) (.cons (.asg (.nm 7) (.idx (.var 2) (.var 5))) (.cons (.for_ (.tp (.cons (.nm 8) (.cons (.nm 9) .nil))) (.seq (.tup (.cons (.tup (.cons (.var 6) (.cons (.con (.int 1)) .nil))) (.cons (.tup (.cons (.var 3) (.cons (.neg (.con (.int 1))) .nil))) .nil)))) (.cons (.ife (.cmp .gt (.var 8) (.con (.int 0))) (.cons (.obs (.var 7) (.bin .sub (.var 8) (.con (.int 1))) (.bin .add (.obi (.var 7) (.bin .sub (.var 8) (.con (.int 1)))) (.var 9))) .nil) .nil) .nil)) (.cons (.asg (.nm 3) (.var 6)) .nil))))) (.melt 2 (.cons (.ret (.tup (.cons (.var 2) (.cons (.var 3) .nil)))) .nil))))⟩
def F23 : Fn := ⟨1, 3, (.cons (.ret (.b1 .tuple (.comp (.tup (.cons (.bin .add (.var 1) (.con (.int 1))) (.cons (.var 2) .nil))) (.tp (.cons (.nm 1) (.cons (.nm 2) .nil))) [1, 2] (.enum (.var 0)) (.one (.cmp .ne (.var 2) (.con (.int 0))))))) .nil)⟩
def F24 : Fn := ⟨3, 8, (.cons (.asg (.tp (.cons (.nm 4) (.cons (.nm 5) .nil))) (.tup (.cons (.con (.int 0)) (.cons (.tup .nil) .nil)))) (.cons (.for_ (.nm 3) (.rng1 (.call 17 "_law_next" (.cons (.var 0) (.cons (.bin .add (.var 2) (.con (.int 1))) .nil)))) (.cons (.asg (.nm 6) (.call 17 "_law_next" (.cons (.var 0) (.cons (.var 1) .nil)))) (.cons (.asg (.nm 7) (.call 20 "_law_is_in" (.cons (.var 6) (.cons (.var 4) .nil)))) (.cons (.asg (.nm 5) (.bin .add (.var 5) (.tup (.cons (.tup (.cons (.idx (.lst (.cons (.con (.str "join")) (.cons (.con (.str "leave")) .nil))) (.b1 .int (.var 7))) (.cons (.var 6) .nil))) .nil)))) (.cons (.asg (.nm 4) (.ite (.var 7) (.bin .sub (.var 4) (.call 19 "_law_bit" (.cons (.var 6) .nil))) (.bin .add (.var 4) (.call 19 "_law_bit" (.cons (.var 6) .nil))))) .nil))))) (.cons (.ret (.var 5)) .nil)))⟩
def F25 : Fn := ⟨2, 12, (.cons (.asg (.tp (.cons (.nm 6) (.cons (.nm 7) .nil))) (.call 22 "_law_pays" (.cons (.var 0) (.cons (.var 1) .nil)))) (.cons (.asg (.nm 2) (.comp (.call 14 "pay" (.cons (.var 0) (.cons (.var 1) (.cons (.var 8) .nil)))) (.nm 8) [8] (.rng1 (.var 0)) .yes)) (.cons (.ife (.cmp .ne (.b1 .repr (.var 2)) (.b1 .repr (.comp (.call 23 "_law_sum_of" (.cons (.var 9) .nil)) (.nm 9) [9] (.seq (.var 6)) .yes))) (.cons (.ret (.con (.bl false))) .nil) .nil) (.cons (.ife (.cmp .ne (.b1 .repr (.comp (.call 14 "pay" (.cons (.var 0) (.cons (.var 1) (.cons (.var 8) .nil)))) (.nm 8) [8] (.rng1 (.var 0)) .yes)) (.b1 .repr (.var 2))) (.cons (.ret (.con (.bl false))) .nil) .nil) (.cons (.asg (.nm 3) (.bin .mul (.lst (.cons (.con (.int 0)) .nil)) (.bin .sub (.call 18 "_law_size" (.cons (.var 0) .nil)) (.con (.int 1))))) (.cons (.for_ (.nm 4) (.seq (.var 2)) (.cons (.asg (.nm 3) (.comp (.bin .add (.var 10) (.var 11)) (.tp (.cons (.nm 10) (.cons (.nm 11) .nil))) [10, 11] (.zip (.var 3) (.call 21 "_law_form" (.cons (.var 0) (.cons (.var 4) .nil)))) .yes)) .nil)) (.cons (.ife (.cmp .ne (.call 23 "_law_sum_of" (.cons (.var 3) .nil)) (.bin .mul (.tup (.cons (.tup (.cons (.var 7) (.cons (.con (.int 1)) .nil))) .nil)) (.b1 .int (.cmp .gt (.var 7) (.con (.int 0)))))) (.cons (.ret (.con (.bl false))) .nil) .nil) (.cons (.asg (.nm 5) (.b1 .tuple (.comp (.var 8) (.nm 8) [8] (.rng1 (.var 0)) (.one (.call 20 "_law_is_in" (.cons (.var 8) (.cons (.var 7) .nil))))))) (.cons (.ife (.cmp .ne (.b1 .repr (.lst (.cons (.call 15 "there" (.cons (.var 0) (.cons (.var 1) .nil))) (.cons (.call 15 "there" (.cons (.var 0) (.cons (.var 1) .nil))) .nil)))) (.b1 .repr (.lst (.cons (.var 5) (.cons (.var 5) .nil))))) (.cons (.ret (.con (.bl false))) .nil) .nil) (.cons (.ret (.cmp .is (.call 11 "is_script" (.cons (.var 0) (.cons (.var 1) .nil))) (.con (.bl true)))) .nil))))))))))⟩
def F26 : Fn := ⟨1, 8, (.cons (.asg (.nm 1) (.call 16 "_law_begun" (.cons (.var 0) .nil))) (.cons (.for_ (.nm 2) (.rng1 (.bin .add (.con (.int 3)) (.bin .fdiv (.b2 .min (.con (.int 60)) (.b1 .len (.var 0))) (.con (.int 4))))) (.cons (.asg (.nm 5) (.bin .add (.con (.int 2)) (.call 17 "_law_next" (.cons (.var 1) (.cons (.con (.int 3)) .nil))))) (.cons (.asg (.nm 3) (.call 24 "_law_row" (.cons (.var 1) (.cons (.var 5) (.cons (.idx (.lst (.cons (.con (.int 6)) (.cons (.con (.int 12)) (.cons (.con (.int 40)) .nil)))) (.call 17 "_law_next" (.cons (.var 1) (.cons (.con (.int 3)) .nil)))) .nil))))) (.cons (.asg (.nm 6) (.b1 .repr (.var 3))) (.cons (.ife (.or (.not (.call 25 "_law_right" (.cons (.var 5) (.cons (.var 3) .nil)))) (.cmp .ne (.b1 .repr (.var 3)) (.var 6))) (.cons (.ret (.con (.bl false))) .nil) .nil) .nil))))) (.cons (.asg (.nm 3) (.tup (.cons (.tup (.cons (.con (.str "join")) (.cons (.con (.int 0)) .nil))) (.cons (.tup (.cons (.con (.str "join")) (.cons (.con (.int 1)) .nil))) (.cons (.tup (.cons (.con (.str "leave")) (.cons (.con (.int 0)) .nil))) (.cons (.tup (.cons (.con (.str "join")) (.cons (.con (.int 0)) .nil))) .nil)))))) (.cons (.asg (.nm 4) (.lst (.cons (.tup .nil) (.cons (.tup (.cons (.tup (.cons (.con (.int 1)) (.cons (.con (.int 1)) .nil))) .nil)) (.cons (.tup (.cons (.tup (.cons (.con (.int 1)) (.cons (.con (.int 1)) .nil))) .nil)) (.cons (.tup (.cons (.tup (.cons (.con (.int 1)) (.cons (.con (.int 1)) .nil))) (.cons (.tup (.cons (.con (.int 2)) (.cons (.con (.int 1)) .nil))) (.cons (.tup (.cons (.con (.int 3)) (.cons (.neg (.con (.int 1))) .nil))) .nil)))) .nil)))))) (.cons (.ife (.cmp .ne (.comp (.call 14 "pay" (.cons (.con (.int 2)) (.cons (.slc (.var 3) .none (.some (.var 7))) (.cons (.con (.int 0)) .nil)))) (.nm 7) [7] (.rng1 (.con (.int 4))) .yes) (.var 4)) (.cons (.ret (.con (.bl false))) .nil) .nil) (.cons (.ife (.cmp .ne (.lst (.cons (.call 14 "pay" (.cons (.con (.int 2)) (.cons (.var 3) (.cons (.con (.int 0)) .nil)))) (.cons (.call 14 "pay" (.cons (.con (.int 2)) (.cons (.var 3) (.cons (.con (.int 1)) .nil)))) .nil))) (.lst (.cons (.tup (.cons (.tup (.cons (.con (.int 1)) (.cons (.con (.int 1)) .nil))) .nil)) (.cons (.tup (.cons (.tup (.cons (.con (.int 1)) (.cons (.neg (.con (.int 1))) .nil))) (.cons (.tup (.cons (.con (.int 3)) (.cons (.con (.int 1)) .nil))) .nil))) .nil)))) (.cons (.ret (.con (.bl false))) .nil) .nil) (.cons (.ife (.cmp .ne (.lst (.cons (.call 15 "there" (.cons (.con (.int 2)) (.cons (.var 3) .nil))) (.cons (.call 15 "there" (.cons (.con (.int 2)) (.cons (.slc (.var 3) .none (.some (.con (.int 3)))) .nil))) (.cons (.call 15 "there" (.cons (.con (.int 4)) (.cons (.tup .nil) .nil))) .nil)))) (.lst (.cons (.tup (.cons (.con (.int 0)) (.cons (.con (.int 1)) .nil))) (.cons (.tup (.cons (.con (.int 1)) .nil)) (.cons (.tup .nil) .nil))))) (.cons (.ret (.con (.bl false))) .nil) .nil) (.cons (.asg (.nm 3) (.bin .mul (.tup (.cons (.tup (.cons (.con (.str "join")) (.cons (.con (.int 3)) .nil))) (.cons (.tup (.cons (.con (.str "leave")) (.cons (.con (.int 3)) .nil))) .nil))) (.con (.int 20)))) (.cons (.ret (.cmp .eq (.lst (.cons (.call 14 "pay" (.cons (.con (.int 4)) (.cons (.var 3) (.cons (.con (.int 3)) .nil)))) (.cons (.call 14 "pay" (.cons (.con (.int 4)) (.cons (.slc (.var 3) .none (.some (.con (.int 39)))) (.cons (.con (.int 3)) .nil)))) (.cons (.call 14 "pay" (.cons (.con (.int 4)) (.cons (.var 3) (.cons (.con (.int 0)) .nil)))) .nil)))) (.lst (.cons (.tup .nil) (.cons (.tup (.cons (.tup (.cons (.con (.int 8)) (.cons (.con (.int 1)) .nil))) .nil)) (.cons (.tup .nil) .nil)))))) .nil)))))))))⟩
def fnOf : Nat → Option Fn
  | 0 => some F0
  | 1 => some F1
  | 2 => some F2
  | 3 => some F3
  | 4 => some F4
  | 5 => some F5
  | 6 => some F6
  | 7 => some F7
  | 8 => some F8
  | 9 => some F9
  | 10 => some F10
  | 11 => some F11
  | 12 => some F12
  | 13 => some F13
  | 14 => some F14
  | 15 => some F15
  | 16 => some F16
  | 17 => some F17
  | 18 => some F18
  | 19 => some F19
  | 20 => some F20
  | 21 => some F21
  | 22 => some F22
  | 23 => some F23
  | 24 => some F24
  | 25 => some F25
  | 26 => some F26
  | _ => none

def TT : Tab := ⟨fnOf, fun _ _ _ _ => .bad⟩
theorem run_of {wf k f : Nat} {ds : List D} {st : Sto} {F : Fn} (h : fnOf f = some F) (hl : ds.length = F.np) : run TT wf (k+1) f ds st = done (exs (run TT wf k) wf F.body (st0 F ds) st) := by
  rw [run]
  simp only [show TT.fn = fnOf from rfl, h, hl, if_true]
end MP

set_option Elab.async false
set_option linter.all false
set_option maxRecDepth 100000
namespace MP
open PySem
/-! ### the draws -/
def Draw (r : Nat) (st : Sto) : Prop := ∃ (q : Nat) (m t : Int) (gs : List Int), st[r]? = some (.dct [("mixed", .int m), ("great", .ref q), ("turn", .int t)]) ∧ st[q]? = some (.lst (gs.map .int)) ∧ q ≠ r ∧ 0 ≤ m ∧ m < 2305843009213693951 ∧ 0 ≤ t
theorem Draw.append {r : Nat} {st : Sto} (h : Draw r st) (ext : Sto) : Draw r (st ++ ext) := by
  obtain ⟨q, m, t, gs, h1, h2, h3⟩ := h
  refine ⟨q, m, t, gs, ?_, ?_, h3⟩
  · rw [List.getElem?_append_left (List.getElem?_eq_some_iff.mp h1).1]; exact h1
  · rw [List.getElem?_append_left (List.getElem?_eq_some_iff.mp h2).1]; exact h2
theorem pow18 : binD .pow (.int 10) (.int 18) = some (.dat (.int 1000000000000000000)) := by simp [binD]
theorem filterMap_int (f : Int → Bool) : ∀ l : List Int, (l.filterMap fun c => if f c then some (D.int c) else none) = (l.filter f).map D.int
  | [] => rfl
  | c :: l => by
    have ih := filterMap_int f l
    cases e : f c <;> simp [e, ih]
theorem begun_ok (wf k : Nat) (ns : List Int) (st : Sto) (h : ns.length ≤ 100) : (run TT wf (k+1) 16 [.scr ns] st).Sat (fun w st' => ∃ r, w = .dat (.ref r) ∧ Draw r st') noX := by
  obtain ⟨Q, hQ⟩ : ∃ Q : W → Sto → Prop, Q = fun w st' => ∃ r, w = .dat (.ref r) ∧ Draw r st' := ⟨_, rfl⟩
  rw [← hQ, run_of (F := F16) rfl rfl]
  simp only [F16, st0]
  simp [mulOk_l (i := 41) (by decide)]
  obtain ⟨P, hP⟩ : ∃ P : List (Int × Nat) → Fr → Sto → Prop, P = fun ys env st' => st' = st ∧ ∃ m a b, 0 ≤ m ∧ m < 2305843009213693951 ∧ env = [.dat (.scr ns), .dat (.int m), a, b] ∧ (b = .un ∨ ∃ d, b = .dat d) := ⟨_, rfl⟩
  refine for_sat ns.zipIdx (enumF_map _ _) P ?_ ?_ ?_
  · rw [hP]; exact ⟨rfl, _, .un, .un, by omega, by omega, rfl, .inl rfl⟩
  · rintro ⟨c, j⟩ ys env st2 hp
    rw [hP] at hp
    obtain ⟨rfl, m, a, b, hm, _, rfl, _⟩ := hp
    simp [forB, mulOk_r (j := 998244353) (by decide), mulOk_l (i := 104723) (by decide)]
    rw [hP]
    exact ⟨rfl, _, _, _, Int.emod_nonneg _ (by decide), Int.emod_lt_of_pos _ (by decide), rfl, .inr ⟨_, rfl⟩⟩
  · rintro env st2 hp
    rw [hP] at hp
    obtain ⟨rfl, m, a, b, hm, hm2, rfl, hb⟩ := hp
    have hl : (ns.filterMap fun c => if decide (1000000000000000000 ≤ c) = true then some (D.int c) else none).length ≤ 100000 := Nat.le_trans (List.length_filterMap_le _ _) (by omega)
    have hc : compL (compB (run TT wf k) (.var 3) (.nm 3) [.dat (.scr ns), .dat (.int m), a, .un] (.one (.cmp .ge (.var 3) (.bin .pow (.con (.int 10)) (.con (.int 18)))))) (ns.map .int) st2 = .ok (ns.filterMap fun c => if decide (1000000000000000000 ≤ c) = true then some (D.int c) else none) st2 := by
      refine compL_map _ _ _ fun y hy => ?_
      by_cases e : 1000000000000000000 ≤ y <;> simp [compB, pow18, e]
    rw [filterMap_int] at hc hl
    rcases hb with rfl | ⟨d, rfl⟩ <;> simp at hl <;> simp [hc, hl] <;> rw [hQ]
    all_goals
      refine ⟨_, rfl, st2.length, m, 0, ns.filter (fun c => decide (1000000000000000000 ≤ c)), ?_, List.getElem?_append_right (Nat.le_refl _) |>.trans (by simp), by omega, hm, hm2, by omega⟩
      rw [List.getElem?_append_right (by omega), show st2.length + 1 - st2.length = 1 by omega]
      rfl
structure DS (r q : Nat) (m t : Int) (gs : List Int) (st : Sto) : Prop where
  h1 : st[r]? = some (.dct [("mixed", .int m), ("great", .ref q), ("turn", .int t)])
  h2 : st[q]? = some (.lst (gs.map .int))
  h3 : q ≠ r
section
variable {r q : Nat} {m t : Int} {gs : List Int} {st : Sto}
theorem DS.turn (h : DS r q m t gs st) : getF "turn" (.ref r) st = some (.int t) := by simp [getF, h.h1, valD]
theorem DS.mixed (h : DS r q m t gs st) : getF "mixed" (.ref r) st = some (.int m) := by simp [getF, h.h1, valD]
theorem DS.great (h : DS r q m t gs st) : getF "great" (.ref r) st = some (.ref q) := by simp [getF, h.h1, valD]
theorem DS.lst (h : DS r q m t gs st) : lstF (.ref q) st = some (gs.map .int) := by simp [lstF, h.h2]
theorem DS.putT (h : DS r q m t gs st) (v : Int) : ∃ st', putF "turn" (.ref r) (.int v) st = some st' ∧ DS r q m v gs st' := by
  have hr : r < st.length := (List.getElem?_eq_some_iff.mp h.h1).1
  refine ⟨st.set r (.dct [("mixed", .int m), ("great", .ref q), ("turn", .int v)]), ?_, ?_, ?_, h.h3⟩
  · unfold putF
    simp only [h.h1]
    simp [keysOk, putD]
  · rw [List.getElem?_set_self hr]
  · rw [List.getElem?_set_ne (fun e => h.h3 e.symm)]; exact h.h2
theorem DS.putM (h : DS r q m t gs st) (v : Int) : ∃ st', putF "mixed" (.ref r) (.int v) st = some st' ∧ DS r q v t gs st' := by
  have hr : r < st.length := (List.getElem?_eq_some_iff.mp h.h1).1
  refine ⟨st.set r (.dct [("mixed", .int v), ("great", .ref q), ("turn", .int t)]), ?_, ?_, ?_, h.h3⟩
  · unfold putF
    simp only [h.h1]
    simp [keysOk, putD]
  · rw [List.getElem?_set_self hr]
  · rw [List.getElem?_set_ne (fun e => h.h3 e.symm)]; exact h.h2
theorem DS.setG (h : DS r q m t gs st) {j : Nat} (hj : j < gs.length) (v : Int) : ∃ st', setF (.ref q) (j : Int) (.int v) st = some st' ∧ DS r q m t (gs.set j v) st' := by
  have hq : q < st.length := (List.getElem?_eq_some_iff.mp h.h2).1
  refine ⟨st.set q (.lst ((gs.map .int).set j (.int v))), ?_, ?_, ?_, h.h3⟩
  · unfold setF
    simp only [h.h2]
    simp [ixD_nat hj]
  · rw [List.getElem?_set_ne h.h3]; exact h.h1
  · rw [List.getElem?_set_self hq, List.map_set]
end
theorem okD_ints (n : Nat) (l : List Int) : okD (n + 1) (.lst (l.map .int)) = true := by
  simp only [okD, List.all_map, List.all_eq_true]
  intro x _
  cases n <;> rfl
theorem next_ok (wf k r : Nat) (b : Int) (st : Sto) (hb : 0 < b) (hb2 : b < 2 ^ 60) (h : Draw r st) : (run TT wf (k+1) 17 [.ref r, .int b] st).Sat (fun w st' => ∃ i : Int, w = .dat (.int i) ∧ 0 ≤ i ∧ i < b ∧ Draw r st') noX := by
  obtain ⟨Q, hQ⟩ : ∃ Q : W → Sto → Prop, Q = fun w st' => ∃ i : Int, w = .dat (.int i) ∧ 0 ≤ i ∧ i < b ∧ Draw r st' := ⟨_, rfl⟩
  obtain ⟨q, m, t, gs, h1, h2, h3, h4, h5, h6⟩ := h
  have S : DS r q m t gs st := ⟨h1, h2, h3⟩
  rw [← hQ, run_of (F := F17) rfl rfl]
  obtain ⟨s1, p1, S1⟩ := S.putT (t + 1)
  have hdb : divOk b = true := divOk_of hb (Int.lt_trans hb2 (by decide))
  have hd2 : divOk 32749 = true := divOk_of (by decide) (by decide)
  have fin : ∀ m' s', 0 ≤ m' → m' < 2305843009213693951 → DS r q m' (t + 1) gs s' → Draw r s' := fun m' s' a b S' => ⟨q, m', t + 1, gs, S'.h1, S'.h2, S'.h3, a, b, by omega⟩
  have hM : ∀ x : Int, 0 ≤ x % 2305843009213693951 ∧ x % 2305843009213693951 < 2305843009213693951 := fun x => ⟨Int.emod_nonneg _ (by decide), Int.emod_lt_of_pos _ (by decide)⟩
  simp only [F17, st0]
  simp [S.turn, S.great, p1, S1.turn, S1.lst]
  by_cases e0 : gs = []
  · subst e0
    obtain ⟨s2, p2, S2⟩ := S1.putM ((m * 6364136223846793 + 1442695040888963 * (t + 1) + 11) % 2305843009213693951)
    have hS := S1.lst
    simp at hS
    simp [hS, okD, S1.mixed, S1.turn, mulOk_r (j := 6364136223846793) (by decide), mulOk_l (i := 1442695040888963) (by decide), p2, S2.mixed, hd2, hb]
    rw [hQ]
    exact ⟨_, rfl, Int.emod_nonneg _ (by omega), Int.emod_lt_of_pos _ hb, fin _ _ (hM _).1 (hM _).2 S2⟩
  · have hl : 0 < gs.length := List.length_pos_iff.mpr e0
    have hmx : (if (1 : Int) < gs.length then (gs.length : Int) else 1) = gs.length := by split <;> omega
    have hp : (0 : Int) < gs.length := by omega
    have hne : (gs.map D.int).isEmpty = false := by cases gs <;> simp_all
    obtain ⟨j, hj⟩ : ∃ j : Nat, (t + 1) % (gs.length : Int) = j := ⟨((t + 1) % (gs.length : Int)).toNat, by have := Int.emod_nonneg (t + 1) (show (gs.length : Int) ≠ 0 by omega); omega⟩
    have hj2 : j < gs.length := by have := Int.emod_lt_of_pos (t + 1) hp; omega
    have hat : atD (gs.map .int) (j : Int) = some (.int (gAt gs j)) := by
      unfold atD
      rw [List.length_map, ixD_nat hj2]
      simp [gAt_ok hj2]
    simp [hmx, hp, hl, hj, okD_ints, hne, e0, S1.lst, hat]
    by_cases e1 : 0 < gAt gs j
    · obtain ⟨s2, p2, S2⟩ := S1.setG hj2 (gAt gs j / b)
      simp [e1, S1.lst, hat, hb, hdb, p2]
      rw [hQ]
      exact ⟨_, rfl, Int.emod_nonneg _ (by omega), Int.emod_lt_of_pos _ hb, q, m, t + 1, _, S2.h1, S2.h2, S2.h3, h4, h5, by omega⟩
    · obtain ⟨s2, p2, S2⟩ := S1.putM ((m * 6364136223846793 + 1442695040888963 * (t + 1) + 11) % 2305843009213693951)
      simp [e1, S1.mixed, S1.turn, mulOk_r (j := 6364136223846793) (by decide), mulOk_l (i := 1442695040888963) (by decide), p2, S2.mixed, hd2, hb]
      rw [hQ]
      exact ⟨_, rfl, Int.emod_nonneg _ (by omega), Int.emod_lt_of_pos _ hb, fin _ _ (hM _).1 (hM _).2 S2⟩
end MP

set_option Elab.async false
set_option linter.all false
set_option maxRecDepth 100000
namespace MP
open PySem
theorem is_whole_int (wf k : Nat) (i a b : Int) (st : Sto) : run TT wf (k+1) 0 [.int i, .int a, .int b] st = .ok (.dat (.bl (decide (a ≤ i) && decide (i ≤ b)))) st := by
  rw [run_of (F := F0) rfl rfl]
  by_cases h : a ≤ i <;> simp [F0, st0, isiD, h]
theorem need_many_ok (wf k : Nat) (i : Int) (st : Sto) (h : 2 ≤ i) (h' : i ≤ 4) : run TT wf (k+2) 1 [.int i] st = .ok (.dat (.int i)) st := by
  rw [run_of (F := F1) rfl rfl]
  simp [F1, st0, is_whole_int, h, h']
theorem need_partner_ok (wf k : Nat) (n i : Int) (st : Sto) (h : 0 ≤ i) (h' : i < n) : run TT wf (k+2) 2 [.int n, .int i] st = .ok (.dat (.int i)) st := by
  rw [run_of (F := F2) rfl rfl]
  simp [F2, st0, is_whole_int, h, show i ≤ n - 1 by omega]
/-- the group of one partner -/
def bit (i : Nat) : Int := (2 ^ i : Nat)
def isIn (i : Nat) (g : Int) : Bool := decide (g / bit i % 2 = 1)
theorem groups_ok (wf k : Nat) (n : Nat) (st : Sto) (h' : n ≤ 4) : run TT wf (k+1) 3 [.int n] st = .ok (.dat (.int (2 ^ n : Nat))) st := by
  rw [run_of (F := F3) rfl rfl]
  have : n = 0 ∨ n = 1 ∨ n = 2 ∨ n = 3 ∨ n = 4 := by omega
  rcases this with rfl | rfl | rfl | rfl | rfl <;> simp [F3, st0, atD, ixD]
theorem all_ok (wf k : Nat) (n : Nat) (st : Sto) (h' : n ≤ 4) : run TT wf (k+2) 4 [.int n] st = .ok (.dat (.int ((2 ^ n : Nat) - 1))) st := by
  rw [run_of (F := F4) rfl rfl]
  simp [F4, st0, groups_ok wf _ n _ h']
theorem bit_ok (wf k : Nat) (n : Nat) (st : Sto) (h' : n < 4) : run TT wf (k+1) 5 [.int n] st = .ok (.dat (.int (bit n))) st := by
  rw [run_of (F := F5) rfl rfl]
  have : n = 0 ∨ n = 1 ∨ n = 2 ∨ n = 3 := by omega
  rcases this with rfl | rfl | rfl | rfl <;> simp [F5, st0, atD, ixD, bit]
theorem bit_small {n : Nat} (h : n < 4) : 0 < bit n ∧ bit n ≤ 8 := by
  have : n = 0 ∨ n = 1 ∨ n = 2 ∨ n = 3 := by omega
  rcases this with rfl | rfl | rfl | rfl <;> simp [bit]
theorem is_in_ok (wf k : Nat) (n : Nat) (g : Int) (st : Sto) (h' : n < 4) : run TT wf (k+2) 6 [.int n, .int g] st = .ok (.dat (.bl (isIn n g))) st := by
  rw [run_of (F := F6) rfl rfl]
  have h := bit_small h'
  have h2 : divOk (bit n) = true := divOk_of h.1 (by omega)
  simp [F6, st0, bit_ok wf _ n _ h', h.1, h2, isIn]

/-! ### sums -/
def sumOf (l : List Int) : List D := l.zipIdx.filterMap fun p => if p.1 = 0 then none else some (.tup [.int ((p.2 : Int) + 1), .int p.1])
theorem filterMap_len {α β : Type} (f : α → Option β) (l : List α) : (l.filterMap f).length ≤ l.length := List.length_filterMap_le f l
theorem sum_of_ok (wf k : Nat) (l : List Int) (st : Sto) (h : l.length ≤ 100000) : run TT wf (k+1) 7 [.lst (l.map .int)] st = .ok (.dat (.tup (sumOf l))) st := by
  rw [run_of (F := F7) rfl rfl]
  have hl : (sumOf l).length ≤ 100000 := Nat.le_trans (filterMap_len _ _) (by simpa using h)
  unfold sumOf at hl
  simp only [F7, st0]
  simp
  rw [enumF_map, compL_map _ (fun p => if p.1 = 0 then none else some (.tup [.int ((p.2 : Int) + 1), .int p.1]))]
  · simp [sumOf, hl]
  · intro y hy
    by_cases e : y.1 = 0 <;> simp [compB, e]
theorem law_sum_of_ok (wf k : Nat) (l : List Int) (st : Sto) (h : l.length ≤ 100000) : run TT wf (k+1) 23 [.lst (l.map .int)] st = .ok (.dat (.tup (sumOf l))) st := by
  rw [run_of (F := F23) rfl rfl]
  have hl : (sumOf l).length ≤ 100000 := Nat.le_trans (filterMap_len _ _) (by simpa using h)
  unfold sumOf at hl
  simp only [F23, st0]
  simp
  rw [enumF_map, compL_map _ (fun p => if p.1 = 0 then none else some (.tup [.int ((p.2 : Int) + 1), .int p.1]))]
  · simp [sumOf, hl]
  · intro y hy
    by_cases e : y.1 = 0 <;> simp [compB, e]
/-! ### items of scripts -/
abbrev Item := Bool × Nat
def word (b : Bool) : Str := if b then "join" else "leave"
def itD (p : Item) : D := .tup [.str (word p.1), .int (p.2 : Nat)]
def stepG (g : Int) (p : Item) : Int := if p.1 then g + bit p.2 else g - bit p.2
def Valid (n : Nat) : Int → List Item → Prop
  | _, [] => True
  | g, p :: s => p.2 < n ∧ isIn p.2 g = !p.1 ∧ Valid n (stepG g p) s
theorem is_item_ok (wf k : Nat) (n : Nat) (p : Item) (st : Sto) (h : p.2 < n) : run TT wf (k+2) 8 [.int n, itD p] st = .ok (.dat (.bl true)) st := by
  rw [run_of (F := F8) rfl rfl]
  have h2 : (p.2 : Int) ≤ (n : Int) - 1 := by omega
  obtain ⟨b, i⟩ := p
  cases b <;> simp [F8, st0, itD, isiD, atD, ixD, word, is_whole_int, h2, inD, scalar] <;> exact h2
theorem behind_ok (wf k : Nat) (g : Int) (p : Item) (st : Sto) (h : p.2 < 4) : run TT wf (k+2) 10 [.int g, itD p] st = .ok (.dat (.int (stepG g p))) st := by
  rw [run_of (F := F10) rfl rfl]
  obtain ⟨b, i⟩ := p
  cases b <;> simp [F10, st0, itD, atD, ixD, word, stepG, bit_ok wf _ i _ h]

theorem isIn_mod {i : Nat} {g : Int} {b : Bool} (h : isIn i g = b) : (b = true → g / bit i % 2 = 1) ∧ (b = false → g / bit i % 2 = 0) := by
  unfold isIn at h
  subst h
  constructor
  · intro h; simpa using h
  · intro h
    have := of_decide_eq_false h
    omega
theorem bits (i : Nat) (h : i < 4) : (i = 0 ∧ bit i = 1) ∨ (i = 1 ∧ bit i = 2) ∨ (i = 2 ∧ bit i = 4) ∨ (i = 3 ∧ bit i = 8) := by
  have d : i = 0 ∨ i = 1 ∨ i = 2 ∨ i = 3 := by omega
  rcases d with rfl | rfl | rfl | rfl <;> decide
theorem step_lt {n : Nat} {g : Int} {p : Item} (hn : n ≤ 4) (hp : p.2 < n) (h0 : 0 ≤ g) (h1 : g < (2 ^ n : Nat)) (hi : isIn p.2 g = !p.1) : 0 ≤ stepG g p ∧ stepG g p < (2 ^ n : Nat) := by
  obtain ⟨b, i⟩ := p
  obtain ⟨q1, q2⟩ := isIn_mod hi
  simp only at hp q1 q2
  have c : (n = 0 ∧ (2 ^ n : Nat) = 1) ∨ (n = 1 ∧ (2 ^ n : Nat) = 2) ∨ (n = 2 ∧ (2 ^ n : Nat) = 4) ∨ (n = 3 ∧ (2 ^ n : Nat) = 8) ∨ (n = 4 ∧ (2 ^ n : Nat) = 16) := by
    have : n = 0 ∨ n = 1 ∨ n = 2 ∨ n = 3 ∨ n = 4 := by omega
    rcases this with rfl | rfl | rfl | rfl | rfl <;> decide
  generalize (2 ^ n : Nat) = m at *
  unfold stepG
  rcases bits i (by omega) with ⟨a1, a2⟩ | ⟨a1, a2⟩ | ⟨a1, a2⟩ | ⟨a1, a2⟩ <;> rw [a2] at q1 q2 <;> simp only [a2] <;> cases b <;> simp at q1 q2 <;> simp only [if_true, Bool.false_eq_true, if_false] <;> omega
theorem fault_ok (wf k : Nat) (n : Nat) (s : List Item) (st : Sto) (hn : n ≤ 4) (hs : s.length ≤ 40) (hv : Valid n 0 s) : run TT wf (k+4) 9 [.int n, .tup (s.map itD)] st = .ok (.own []) st := by
  refine eq_of_sat ?_
  rw [run_of (F := F9) rfl rfl]
  simp only [F9, st0]
  simp [isiD, show ¬ (40 : Int) < s.length by omega]
  refine for_sat s.zipIdx (enumF_map _ _) (fun ys env st' => st' = st ∧ ∃ g a b, Valid n g (ys.map (·.1)) ∧ env = [.dat (.int n), .dat (.tup (s.map itD)), .dat (.int g), a, b]) ⟨rfl, 0, _, _, by simpa using hv, rfl⟩ ?_ ?_
  · rintro ⟨p, j⟩ ys env st2 ⟨rfl, g, a, b, hv, rfl⟩
    obtain ⟨h1, h2, h3⟩ := hv
    simp only at h1 h2
    have h4 : p.2 < 4 := by omega
    obtain ⟨b, i⟩ := p
    simp only at h1 h2 h4
    have e1 := is_item_ok wf (k+1) n (b, i) st2 h1
    have e2 := is_in_ok wf (k+1) i g st2 h4
    have e3 := behind_ok wf (k+1) g (b, i) st2 h4
    simp only [forB]
    simp only [itD] at e1 e3 ⊢
    cases b <;> simp [word] at e1 e3 h2 h3 <;> simp [e1, e2, e3, atD, ixD, word, h2, h3]
  · rintro env _ ⟨rfl, g, a, b, _, rfl⟩
    simp

theorem is_script_ok (wf k : Nat) (n : Nat) (s : List Item) (st : Sto) (h2 : 2 ≤ n) (hn : n ≤ 4) (hs : s.length ≤ 40) (hv : Valid n 0 s) : run TT wf (k+5) 11 [.int n, .tup (s.map itD)] st = .ok (.dat (.bl true)) st := by
  rw [run_of (F := F11) rfl rfl]
  simp [F11, st0, fault_ok wf k n s _ hn hs hv, need_many_ok wf (k+2) n _ (by omega) (by omega)]
  simp [cmpD, okD, eqD, toPy, PyData.eqv, PyData.eqvAll]
theorem need_script_ok (wf k : Nat) (n : Nat) (s : List Item) (st : Sto) (hn : n ≤ 4) (hs : s.length ≤ 40) (hv : Valid n 0 s) : run TT wf (k+5) 12 [.int n, .tup (s.map itD)] st = .ok (.dat (.tup (s.map itD))) st := by
  rw [run_of (F := F12) rfl rfl]
  simp [F12, st0, fault_ok wf k n s _ hn hs hv, forL_nil]
/-! ### what partners get -/
def addAt (l : List Int) (g v : Int) : List Int := if 0 < g then l.set (g.toNat - 1) (gAt l (g.toNat - 1) + v) else l
@[simp] theorem addAt_len (l : List Int) (g v : Int) : (addAt l g v).length = l.length := by unfold addAt; split <;> simp
def payStep (p : Nat) (s : List Int × Int) (it : Item) : List Int × Int := (if it.2 = p then addAt (addAt s.1 (stepG s.2 it) 1) s.2 (-1) else s.1, stepG s.2 it)
def zeros (n : Nat) : List Int := List.replicate (2 ^ n - 1) 0
def payF (n : Nat) (s : List Item) (p : Nat) : List Int := (s.foldl (payStep p) (zeros n, 0)).1
def endG (s : List Item) : Int := s.foldl stepG 0
theorem pow_m1 (n : Nat) : ((2 ^ n : Nat) : Int) - 1 = ((2 ^ n - 1 : Nat) : Int) := by
  have : 0 < 2 ^ n := Nat.pow_pos (by decide)
  omega
theorem pow_le {n : Nat} (h : n ≤ 4) : 2 ^ n ≤ 16 := Nat.pow_le_pow_right (n := 2) (by decide) h
theorem set_ok {l : List Int} {g v : Int} (h0 : 0 < g) : (l.map D.int).set (g.toNat - 1) (.int (gAt l (g.toNat - 1) + v)) = (addAt l g v).map .int := by
  unfold addAt
  rw [if_pos h0, List.map_set]
theorem addAt_no {l : List Int} {g v : Int} (h0 : ¬ 0 < g) : addAt l g v = l := by
  unfold addAt
  rw [if_neg h0]
end MP

set_option Elab.async false
set_option linter.all false
set_option maxRecDepth 100000
namespace MP
open PySem
theorem pay_in_ok (wf k : Nat) (n : Nat) (s : List Item) (p : Nat) (st : Sto) (hn : n ≤ 4) (hv : Valid n 0 s) : run TT wf (k+4) 13 [.int n, .tup (s.map itD), .int p] st = .ok (.dat (.tup (sumOf (payF n s p)))) st := by
  refine eq_of_sat ?_
  rw [run_of (F := F13) rfl rfl]
  have h16 := pow_le hn
  have h1 : 0 < 2 ^ n := Nat.pow_pos (by decide)
  have hall := all_ok wf (k+1) n st hn
  have hz : zeros n = List.replicate (2 ^ n - 1) 0 := rfl
  have hp : payF n s p = (s.foldl (payStep p) (zeros n, 0)).1 := rfl
  have hstep : ∀ {g : Int} {it : Item}, it.2 < n → 0 ≤ g → g < (2 ^ n : Nat) → isIn it.2 g = !it.1 → 0 ≤ stepG g it ∧ stepG g it < (2 ^ n : Nat) := fun a b c d => step_lt hn a b c d
  rw [pow_m1] at hall
  generalize 2 ^ n = m at *
  simp only [F13, st0]
  simp [hall, bin_rep (show m - 1 ≤ 100000 by omega)]
  refine for_sat s rfl (fun ys env st' => st' = st ∧ ∃ f g a b c d, Valid n g ys ∧ 0 ≤ g ∧ g < m ∧ f.length = m - 1 ∧ (ys.foldl (payStep p) (f, g)).1 = payF n s p ∧
    env = [.dat (.int n), .dat (.tup (s.map itD)), .dat (.int p), a, .mut (f.map .int), .dat (.int g), b, c, d]) ⟨rfl, zeros n, 0, .un, .un, .un, .un, hv, by omega, by omega, by simp [hz], hp.symm, by simp [hz]⟩ ?_ ?_
  · rintro it ys env st2 ⟨rfl, f, g, a, b, c, d, hv, g0, g1, hf, hfo, rfl⟩
    obtain ⟨h1, h2, h3⟩ := hv
    obtain ⟨l0, l1⟩ := hstep h1 g0 g1 h2
    have e3 := behind_ok wf (k+1) g it st2 (by omega)
    obtain ⟨b', i⟩ := it
    simp only [List.foldl_cons] at hfo
    have hfo2 := hfo
    unfold payStep at hfo2
    generalize hL : stepG g (b', i) = L at *
    simp only [hL] at hfo2
    simp only [forB]
    simp only [itD] at e3 ⊢
    simp [e3]
    by_cases hi : (i : Int) = p
    · have hi' : i = p := by omega
      rw [if_pos hi'] at hfo2
      by_cases c1 : 0 < L <;> by_cases c2 : 0 < g
      · have q1 := ixD_ok (m := f.length) c1 (by omega)
        have q2 := gAt_ok (l := f) (i := L.toNat - 1) (by omega)
        have q3 := ixD_ok (m := f.length) c2 (by omega)
        have q4 := gAt_ok (l := addAt f L 1) (i := g.toNat - 1) (by simp; omega)
        simp [hi, forL_cons, forL_nil, forB, c1, c2, q1, q2, q3, q4, set_ok c1, set_ok c2, h3]
        exact ⟨_, L, h3, by omega, by omega, by simp [hf], hfo2, rfl, rfl⟩
      · have q1 := ixD_ok (m := f.length) c1 (by omega)
        have q2 := gAt_ok (l := f) (i := L.toNat - 1) (by omega)
        rw [addAt_no c2] at hfo2
        simp [hi, forL_cons, forL_nil, forB, c1, c2, q1, q2, set_ok c1, h3]
        exact ⟨_, L, h3, by omega, by omega, by simp [hf], hfo2, rfl, rfl⟩
      · have q3 := ixD_ok (m := f.length) c2 (by omega)
        have q4 := gAt_ok (l := f) (i := g.toNat - 1) (by omega)
        rw [addAt_no c1] at hfo2
        simp [hi, forL_cons, forL_nil, forB, c1, c2, q3, q4, set_ok c2, h3]
        exact ⟨_, L, h3, by omega, by omega, by simp [hf], hfo2, rfl, rfl⟩
      · rw [addAt_no c1, addAt_no c2] at hfo2
        simp [hi, forL_cons, forL_nil, forB, c1, c2, h3]
        exact ⟨_, L, h3, by omega, by omega, hf, hfo2, rfl, rfl⟩
    · rw [if_neg (by omega)] at hfo2
      simp [hi]
      exact ⟨_, L, h3, by omega, by omega, hf, hfo2, rfl, rfl⟩
  · rintro env _ ⟨rfl, f, g, a, b, c, d, hv, g0, g1, hf, hfo, rfl⟩
    simp only [List.foldl_nil] at hfo
    subst hfo
    simp [sum_of_ok wf (k+2) _ _ (show (payF n s p).length ≤ 100000 by omega)]
end MP

set_option Elab.async false
set_option linter.all false
set_option maxRecDepth 100000
namespace MP
open PySem
theorem pay_ok (wf k : Nat) (n : Nat) (s : List Item) (p : Nat) (st : Sto) (h2 : 2 ≤ n) (hn : n ≤ 4) (hp : p < n) (hs : s.length ≤ 40) (hv : Valid n 0 s) : run TT wf (k+6) 14 [.int n, .tup (s.map itD), .int p] st = .ok (.dat (.tup (sumOf (payF n s p)))) st := by
  rw [run_of (F := F14) rfl rfl]
  simp [F14, st0, need_many_ok wf (k+3) n _ (by omega) (by omega), need_script_ok wf k n s _ hn hs hv, need_partner_ok wf (k+3) n p _ (by omega) (by omega), pay_in_ok wf (k+1) n s p _ hn hv]
def whoIn (n : Nat) (g : Int) : List D := (List.range n).filterMap fun i => if isIn i g then some (.int (i : Nat)) else none
theorem rngOk_nat {n : Nat} (h : n ≤ 100000) : rngOk 0 (n : Int) = true := by
  unfold rngOk
  simp only [Bool.and_eq_true, decide_eq_true_eq]
  refine ⟨⟨⟨⟨by decide, by decide⟩, by omega⟩, by omega⟩, ?_⟩
  have : (2 : Nat) ^ 24 = 16777216 := by decide
  omega
theorem there_ok (wf k : Nat) (n : Nat) (s : List Item) (st : Sto) (h2 : 2 ≤ n) (hn : n ≤ 4) (hs : s.length ≤ 40) (hv : Valid n 0 s) : run TT wf (k+6) 15 [.int n, .tup (s.map itD)] st = .ok (.dat (.tup (whoIn n (endG s)))) st := by
  refine eq_of_sat ?_
  rw [run_of (F := F15) rfl rfl]
  simp only [F15, st0]
  simp [need_many_ok wf (k+3) n _ (by omega) (by omega), need_script_ok wf k n s _ hn hs hv]
  refine for_sat s rfl (fun ys env st' => st' = st ∧ ∃ g a, Valid n g ys ∧ ys.foldl stepG g = endG s ∧
    env = [.dat (.int n), .dat (.tup (s.map itD)), .dat (.int g), a, .un]) ⟨rfl, 0, .un, hv, rfl, rfl⟩ ?_ ?_
  · rintro it ys env st2 ⟨rfl, g, a, hv, hg, rfl⟩
    obtain ⟨h1, h2, h3⟩ := hv
    have e3 := behind_ok wf (k+3) g it st2 (by omega)
    simp [forB, e3]
    exact ⟨h3, hg⟩
  · rintro env _ ⟨rfl, g, a, hv, hg, rfl⟩
    simp only [List.foldl_nil] at hg
    subst hg
    have hl : (whoIn n (endG s)).length ≤ 100000 := Nat.le_trans (filterMap_len _ _) (by simp; omega)
    unfold whoIn at hl
    simp [rngOk_nat (show n ≤ 100000 by omega), rng_zero]
    rw [compL_map _ (fun i => if isIn i (endG s) then some (.int (i : Nat)) else none)]
    · simp [whoIn, hl]
    · intro y hy
      have hy2 : y < 4 := by have := List.mem_range.mp hy; omega
      cases e : isIn y (endG s) <;> simp [compB, is_in_ok wf (k+3) y _ _ hy2, e]
end MP

set_option Elab.async false
set_option linter.all false
set_option maxRecDepth 100000
namespace MP
open PySem
theorem law_size_ok (wf k : Nat) (n : Nat) (st : Sto) (h' : n ≤ 4) : run TT wf (k+1) 18 [.int n] st = .ok (.dat (.int (2 ^ n : Nat))) st := by
  rw [run_of (F := F18) rfl rfl]
  have : n = 0 ∨ n = 1 ∨ n = 2 ∨ n = 3 ∨ n = 4 := by omega
  rcases this with rfl | rfl | rfl | rfl | rfl <;> simp [F18, st0, atD, ixD]
theorem law_bit_ok (wf k : Nat) (n : Nat) (st : Sto) (h' : n < 4) : run TT wf (k+1) 19 [.int n] st = .ok (.dat (.int (bit n))) st := by
  rw [run_of (F := F19) rfl rfl]
  have : n = 0 ∨ n = 1 ∨ n = 2 ∨ n = 3 := by omega
  rcases this with rfl | rfl | rfl | rfl <;> simp [F19, st0, atD, ixD, bit]
theorem law_is_in_ok (wf k : Nat) (n : Nat) (g : Int) (st : Sto) (h' : n < 4) : run TT wf (k+2) 20 [.int n, .int g] st = .ok (.dat (.bl (isIn n g))) st := by
  rw [run_of (F := F20) rfl rfl]
  have h := bit_small h'
  have h2 : divOk (bit n) = true := divOk_of h.1 (by omega)
  simp [F20, st0, law_bit_ok wf _ n _ h', h.1, h2, isIn]
/-- the factors of a sum -/
theorem law_form_ok (wf k : Nat) (n : Nat) (ps : List (Int × Int)) (st : Sto) (hn : n ≤ 4) (hp : ∀ p ∈ ps, 0 < p.1 ∧ p.1 < (2 ^ n : Nat)) :
    run TT wf (k+2) 21 [.int n, .tup (ps.map fun p => .tup [.int p.1, .int p.2])] st = .ok (.dat (.lst ((ps.foldl (fun f p => addAt f p.1 p.2) (zeros n)).map .int))) st := by
  refine eq_of_sat ?_
  rw [run_of (F := F21) rfl rfl]
  have h16 := pow_le hn
  have h1 : 0 < 2 ^ n := Nat.pow_pos (by decide)
  have hall := law_size_ok wf k n st hn
  have hz : zeros n = List.replicate (2 ^ n - 1) 0 := rfl
  have hm := pow_m1 n
  generalize 2 ^ n = m at *
  simp only [F21, st0]
  simp [hall, hm, bin_rep (show m - 1 ≤ 100000 by omega)]
  obtain ⟨P, hP⟩ : ∃ P : List (Int × Int) → Fr → Sto → Prop, P = fun ys env st' => st' = st ∧ (∀ p ∈ ys, 0 < p.1 ∧ p.1 < (m : Int)) ∧ ∃ f a b, f.length = m - 1 ∧ ys.foldl (fun f p => addAt f p.1 p.2) f = ps.foldl (fun f p => addAt f p.1 p.2) (zeros n) ∧
    env = [.dat (.int n), .dat (.tup (ps.map fun p => .tup [.int p.1, .int p.2])), .mut (f.map .int), a, b] := ⟨_, rfl⟩
  refine for_sat ps rfl P ?_ ?_ ?_
  · rw [hP]; exact ⟨rfl, hp, zeros n, .un, .un, by simp [hz], rfl, by simp [hz]⟩
  · rintro ⟨g, v⟩ ys env st2 hq
    rw [hP] at hq
    obtain ⟨rfl, hys, f, a, b, hf, hfo, rfl⟩ := hq
    obtain ⟨c1, c2⟩ := hys (g, v) (by simp)
    simp only at c1 c2
    have q1 := ixD_ok (m := f.length) c1 (by omega)
    have q2 := gAt_ok (l := f) (i := g.toNat - 1) (by omega)
    simp [forB, q1, q2, atD, set_ok c1]
    rw [hP]
    exact ⟨rfl, fun p hp => hys p (by simp [hp]), _, _, _, by simp [hf], hfo, rfl⟩
  · intro env st2 hq
    rw [hP] at hq
    obtain ⟨rfl, hys, f, a, b, hf, hfo, rfl⟩ := hq
    simp only [List.foldl_nil] at hfo
    subst hfo
    simp

/-! ### the law's own pays -/
def fD (f : List Int) : D := .lst (f.map .int)
def fO (f : List Int) : Ob := .lst (f.map .int)
def refsOf (b n : Nat) : List D := (List.range n).map fun i => .ref (b + i)
theorem meltD_ok : ∀ (fs : List (List Int)) (pre : Sto), ∃ st', meltD ((List.range' pre.length fs.length).map D.ref) (pre ++ fs.map fO) = some (fs.map fD, pre ++ st')
  | [], pre => ⟨[], by simp [meltD]⟩
  | f :: fs, pre => by
    obtain ⟨st', e⟩ := meltD_ok fs (pre ++ [.gone])
    refine ⟨.gone :: st', ?_⟩
    have h1 : (pre ++ List.map fO (f :: fs))[pre.length]? = some (.lst (f.map .int)) := by
      rw [List.getElem?_append_right (Nat.le_refl _), Nat.sub_self]; rfl
    have h2 : (pre ++ List.map fO (f :: fs)).set pre.length .gone = (pre ++ [.gone]) ++ fs.map fO := by
      rw [List.set_append_right _ _ (Nat.le_refl _), Nat.sub_self]
      simp
    rw [List.length_cons, List.range'_succ, List.map_cons, meltD]
    simp only [h1, h2]
    rw [List.length_append, List.length_singleton] at e
    rw [e]
    simp [fD]
theorem getF_ob {pre : Sto} {fs : List (List Int)} {i : Nat} (h : i < fs.length) : lstF (.ref (pre.length + i)) (pre ++ fs.map fO) = some (fs[i].map .int) := by
  unfold lstF
  simp only
  rw [List.getElem?_append_right (by omega), Nat.add_sub_cancel_left, List.getElem?_map, List.getElem?_eq_getElem h]
  rfl
theorem setF_ob {pre : Sto} {fs : List (List Int)} {i : Nat} (h : i < fs.length) {g v : Int} (h0 : 0 < g) (h1 : g ≤ fs[i].length) :
    setF (.ref (pre.length + i)) (g - 1) (.int (gAt fs[i] (g.toNat - 1) + v)) (pre ++ fs.map fO) = some (pre ++ (fs.set i (addAt fs[i] g v)).map fO) := by
  unfold setF
  simp only
  rw [List.getElem?_append_right (by omega), Nat.add_sub_cancel_left, List.getElem?_map, List.getElem?_eq_getElem h]
  simp only [fO, Option.map_some, List.length_map]
  rw [ixD_ok h0 h1]
  simp only [Option.map_some]
  rw [set_ok h0, List.set_append_right _ _ (by omega), Nat.add_sub_cancel_left, List.map_set]
  rfl
theorem law_pays_ok (wf k : Nat) (n : Nat) (s : List Item) (st : Sto) (hn : n ≤ 4) (hv : Valid n 0 s) :
    (run TT wf (k+2) 22 [.int n, .tup (s.map itD)] st).Sat (fun w st' => w = .dat (.tup [.lst ((List.range n).map fun p => fD (payF n s p)), .int (endG s)]) ∧ ∃ ext : Sto, st' = st ++ ext) noX := by
  refine sat_abs fun Q hQ => ?_
  rw [run_of (F := F22) rfl rfl]
  have h16 := pow_le hn
  have h1 : 0 < 2 ^ n := Nat.pow_pos (by decide)
  have hall := fun st => law_size_ok wf k n st hn
  have hz : zeros n = List.replicate (2 ^ n - 1) 0 := rfl
  have hpf : ∀ p, payF n s p = (s.foldl (payStep p) (zeros n, 0)).1 := fun _ => rfl
  have hstep : ∀ {g : Int} {it : Item}, it.2 < n → 0 ≤ g → g < (2 ^ n : Nat) → isIn it.2 g = !it.1 → 0 ≤ stepG g it ∧ stepG g it < (2 ^ n : Nat) := fun a b c d => step_lt hn a b c d
  have hm := pow_m1 n
  generalize 2 ^ n = m at *
  simp only [F22, st0]
  simp [rngOk_nat (show n ≤ 100000 by omega), rng_zero]
  refine comp_inv (List.range n) rfl (fun zs ys st' => zs = (List.range' st.length (n - ys.length)).map D.ref ∧ st' = st ++ (List.replicate (n - ys.length) (zeros n)).map fO ∧ ys.length ≤ n) ⟨by simp, by simp, by simp⟩ ?_ ?_
  · rintro P hP zs y ys st2 ⟨rfl, rfl, hlen⟩
    simp at hlen
    simp [compB, hall, hm, bin_rep (show m - 1 ≤ 100000 by omega)]
    have e : n - ys.length = n - (ys.length + 1) + 1 := by omega
    refine hP _ _ _ ⟨?_, ?_, by omega⟩
    · rw [e, List.range'_concat, List.map_append]
      simp
    · rw [e, List.replicate_succ', List.map_append]
      simp [fO, hz]
  · rintro zs st2 ⟨rfl, rfl, _⟩
    simp [show n ≤ 100000 by omega]
    refine for_inv s rfl (fun ys env st' => ∃ (fs : List (List Int)) (g : Int) (a b c d e f : Slot), fs.length = n ∧ (∀ x ∈ fs, x.length = m - 1) ∧ Valid n g ys ∧ 0 ≤ g ∧ g < m ∧ ys.foldl stepG g = endG s ∧ (∀ (p : Nat) (hp : p < fs.length), (ys.foldl (payStep p) (fs[p], g)).1 = payF n s p) ∧ st' = st ++ fs.map fO ∧
      env = [.dat (.int n), .dat (.tup (s.map itD)), .dat (.lst ((List.range' st.length n).map D.ref)), .dat (.int g), a, b, c, d, e, f, .un])
      ⟨List.replicate n (zeros n), 0, .un, .un, .un, .un, .un, .un, by simp, by simp [hz], hv, by omega, by omega, rfl, by simp [hpf], by simp, rfl⟩ ?_ ?_
    · rintro P hP ⟨b, i⟩ ys env st2 ⟨fs, g, a, b0, c, d, e, f, hfl, hfs, hv, g0, g1, hg, hfo, rfl, rfl⟩
      obtain ⟨v1, v2, v3⟩ := hv
      simp only at v1 v2
      obtain ⟨l0, l1⟩ := hstep (it := (b, i)) v1 g0 g1 v2
      have hi4 : i < 4 := by omega
      have hbit := fun st => law_bit_ok wf k i st hi4
      have hat : atD ((List.range' st.length n).map D.ref) (i : Int) = some (.ref (st.length + i)) := by
        unfold atD
        rw [List.length_map, List.length_range', ixD_nat v1]
        simp [List.getElem?_range', v1]
      have hif : i < fs.length := by omega
      have hL : (if b then g + bit i else g - bit i) = stepG g (b, i) := rfl
      simp only [List.foldl_cons] at hfo hg
      have hps : ∀ p f, payStep p (f, g) (b, i) = (if i = p then addAt (addAt f (stepG g (b, i)) 1) g (-1) else f, stepG g (b, i)) := fun p f => rfl
      simp only [hps] at hfo
      generalize stepG g (b, i) = L at *
      have hw : ∀ (st' : Sto) (E' : Fr) , True := fun _ _ => trivial
      have lem : ∀ (fs' : List (List Int)), (∀ x ∈ fs', x.length = m - 1) → fs'.length = n → (∀ (p : Nat) (hp : p < fs'.length), (ys.foldl (payStep p) (fs'[p], L)).1 = payF n s p) → ∀ a b c d e f, P ys [.dat (.int n), .dat (.tup (s.map itD)), .dat (.lst ((List.range' st.length n).map D.ref)), .dat (.int L), a, b, c, d, e, f, .un] (st ++ fs'.map fO) :=
        fun fs' q1 q2 q3 a b c d e f => hP _ _ _ ⟨fs', L, a, b, c, d, e, f, q2, q1, v3, by omega, by omega, hg, q3, rfl, rfl⟩
      have hlen := hfs _ (List.getElem_mem hif)
      have key : ∀ f', f' = addAt (addAt fs[i] L 1) g (-1) → (∀ x ∈ fs.set i f', x.length = m - 1) ∧ (fs.set i f').length = n ∧ (∀ (p : Nat) (hp : p < (fs.set i f').length), (ys.foldl (payStep p) ((fs.set i f')[p], L)).1 = payF n s p) := by
        rintro f' rfl
        refine ⟨fun x hx => ?_, by simp [hfl], fun p hp => ?_⟩
        · rcases List.mem_or_eq_of_mem_set hx with h | h
          · exact hfs x h
          · rw [h]; simp [hlen]
        · simp at hp
          have := hfo p hp
          rw [List.getElem_set]
          split
          · rename_i e; subst e; simpa using this
          · rename_i e; rw [if_neg e] at this; exact this
      have ev1 : ∀ st', (run TT wf (k+1) 19 [.int i] st') = .ok (.dat (.int (bit i))) st' := hbit
      have hif' : ∀ f', i < (fs.set i f').length := fun f' => by simpa using hif
      simp only [forB, itD]
      have hcase : (if b then (R.ok (W.dat (D.int (g + bit i))) (st ++ fs.map fO)) else .ok (.dat (.int (g - bit i))) (st ++ fs.map fO)) = .ok (.dat (.int L)) (st ++ fs.map fO) := by rw [← hL]; cases b <;> rfl
      cases b
      all_goals
        simp at hL
        simp [word, ev1, hL, hat]
        by_cases c1 : 0 < L <;> by_cases c2 : 0 < g
        · have q1 := ixD_ok (m := fs[i].length) c1 (by omega)
          have q2 := gAt_ok (l := fs[i]) (i := L.toNat - 1) (by omega)
          have q3 := ixD_ok (m := fs[i].length) c2 (by omega)
          have q4 := gAt_ok (l := addAt fs[i] L 1) (i := g.toNat - 1) (by simp; omega)
          have g1' := getF_ob (pre := st) hif
          have g2' := getF_ob (pre := st) (hif' (addAt fs[i] L 1))
          have s1' := setF_ob (pre := st) hif (v := 1) c1 (by omega)
          have s2' := setF_ob (pre := st) (hif' (addAt fs[i] L 1)) (v := -1) c2 (by simp; omega)
          obtain ⟨k1, k2, k3⟩ := key _ rfl
          simp at g2' s2' k1 k2 k3
          simp [forL_cons, forL_nil, forB, c1, c2, atD, q1, q2, q3, q4, g1', g2', s1', s2']
          rw [← List.map_set]
          exact lem _ (by simpa using k1) (by simpa using k2) (by simpa using k3) _ _ _ _ _ _
        · have q1 := ixD_ok (m := fs[i].length) c1 (by omega)
          have q2 := gAt_ok (l := fs[i]) (i := L.toNat - 1) (by omega)
          have g1' := getF_ob (pre := st) hif
          have s1' := setF_ob (pre := st) hif (v := 1) c1 (by omega)
          obtain ⟨k1, k2, k3⟩ := key _ rfl
          rw [addAt_no c2] at k1 k2 k3
          simp at s1'
          simp [forL_cons, forL_nil, forB, c1, c2, atD, q1, q2, g1', s1']
          rw [← List.map_set]
          exact lem _ k1 k2 k3 _ _ _ _ _ _
        · have q3 := ixD_ok (m := fs[i].length) c2 (by omega)
          have q4 := gAt_ok (l := fs[i]) (i := g.toNat - 1) (by omega)
          have g1' := getF_ob (pre := st) hif
          have s2' := setF_ob (pre := st) hif (v := -1) c2 (by omega)
          obtain ⟨k1, k2, k3⟩ := key _ rfl
          rw [addAt_no c1] at k1 k2 k3
          simp at s2'
          simp [forL_cons, forL_nil, forB, c1, c2, atD, q3, q4, g1', s2']
          rw [← List.map_set]
          exact lem _ k1 k2 k3 _ _ _ _ _ _
        · obtain ⟨k1, k2, k3⟩ := key _ rfl
          rw [addAt_no c1, addAt_no c2] at k1 k2 k3
          simp [forL_cons, forL_nil, forB, c1, c2]
          refine lem fs hfs hfl (fun p hp => ?_) _ _ _ _ _ _
          have := hfo p hp
          rw [addAt_no c1, addAt_no c2] at this
          simpa using this
    · rintro env st2 ⟨fs, g, a, b, c, d, e, f, hfl, hfs, hv, g0, g1, hg, hfo, rfl, rfl⟩
      simp only [List.foldl_nil] at hg hfo
      obtain ⟨st', hmelt⟩ := meltD_ok fs st
      rw [hfl] at hmelt
      simp [hmelt]
      refine hQ _ _ ⟨?_, st', rfl⟩
      have : fs.map fD = (List.range n).map fun p => fD (payF n s p) := by
        apply List.ext_getElem
        · simp [hfl]
        · intro i h1 h2
          simp at h1
          simp [hfo i h1]
      rw [this, hg]
end MP

set_option Elab.async false
set_option linter.all false
set_option maxRecDepth 100000
namespace MP
open PySem
theorem Valid.snoc {n : Nat} {p : Item} : ∀ {s : List Item} {g : Int}, Valid n g s → p.2 < n → isIn p.2 (s.foldl stepG g) = !p.1 → Valid n g (s ++ [p])
  | [], g, _, h1, h2 => ⟨h1, h2, trivial⟩
  | q :: s, g, h, h1, h2 => ⟨h.1, h.2.1, Valid.snoc h.2.2 h1 h2⟩
theorem row_ok (wf k r n most : Nat) (st : Sto) (h2 : 2 ≤ n) (hn : n ≤ 4) (hm : most ≤ 1000) (hd : Draw r st) :
    (run TT wf (k+3) 24 [.ref r, .int n, .int most] st).Sat (fun w st' => ∃ s : List Item, w = .dat (.tup (s.map itD)) ∧ s.length ≤ most ∧ Valid n 0 s ∧ Draw r st') noX := by
  refine sat_abs fun Q hQ => ?_
  rw [run_of (F := F24) rfl rfl]
  simp only [F24, st0]
  simp
  refine (next_ok wf (k+1) r _ st (by omega) (by omega) hd).use ?_
  rintro w s1 ⟨i, rfl, i0, i1, d1⟩
  obtain ⟨j, rfl⟩ : ∃ j : Nat, i = j := ⟨i.toNat, by omega⟩
  simp [rngOk_nat (show j ≤ 100000 by omega), rng_zero]
  refine for_inv (List.range j) rfl (fun ys env st' => Draw r st' ∧ ∃ (s : List Item) (a b c : Slot), s.length + ys.length ≤ j ∧ Valid n 0 s ∧ env = [.dat (.ref r), .dat (.int n), .dat (.int most), a, .dat (.int (endG s)), .dat (.tup (s.map itD)), b, c])
    ⟨d1, [], .un, .un, .un, by simp, trivial, rfl⟩ ?_ ?_
  · rintro P hP y ys env s2 ⟨d2, s, a, b, c, hl, hv, rfl⟩
    simp [forB]
    refine (next_ok wf (k+1) r n s2 (by omega) (by omega) d2).use ?_
    rintro w s3 ⟨i, rfl, i0, i1, d3⟩
    obtain ⟨p, rfl⟩ : ∃ p : Nat, i = p := ⟨i.toNat, by omega⟩
    have hp4 : p < 4 := by omega
    simp at hl
    have hle : s.length + 1 ≤ 100000 := by omega
    simp [law_is_in_ok wf k p _ _ hp4, law_bit_ok wf (k+1) p _ hp4]
    have e1 : ∀ b : Bool, isIn p (endG s) = !b → P ys [.dat (.ref r), .dat (.int n), .dat (.int most), .dat (.int (y : Nat)), .dat (.int (stepG (endG s) (b, p))), .dat (.tup (s.map itD ++ [.tup [.str (word b), .int (p : Nat)]])), .dat (.int (p : Nat)), .dat (.bl (!b))] s3 := by
      intro b hb
      have e : endG (s ++ [(b, p)]) = stepG (endG s) (b, p) := by unfold endG; rw [List.foldl_append]; rfl
      refine hP _ _ _ ⟨d3, s ++ [(b, p)], .dat (.int (y : Nat)), .dat (.int (p : Nat)), .dat (.bl (!b)), by simp; omega, hv.snoc (by simp; omega) hb, ?_⟩
      rw [e, List.map_append]; rfl
    cases e : isIn p (endG s)
    · have := e1 true (by simp [e])
      simp [stepG, word] at this
      simp [e, hle, law_bit_ok wf (k+1) p _ hp4]
      exact this
    · have := e1 false (by simp [e])
      simp [stepG, word] at this
      simp [e, hle, law_bit_ok wf (k+1) p _ hp4]
      exact this
  · rintro env s2 ⟨d2, s, a, b, c, hl, hv, rfl⟩
    simp
    simp at hl
    exact hQ _ _ ⟨s, rfl, by omega, hv, d2⟩
end MP

set_option Elab.async false
set_option linter.all false
set_option maxRecDepth 100000
namespace MP
open PySem
/-! ### what all get together -/
def dl (g : Int) (j : Nat) : Int := if g = (j : Int) + 1 then 1 else 0
theorem gAt_set (l : List Int) (i j : Nat) (v : Int) (h : j < l.length) : gAt (l.set i v) j = if i = j then v else gAt l j := by
  unfold gAt
  rw [List.getD, List.getD, List.getElem?_set]
  by_cases e : i = j
  · subst e; simp [h]
  · simp [e]
theorem gAt_add {l : List Int} {g v : Int} {j : Nat} (h : j < l.length) : gAt (addAt l g v) j = gAt l j + v * dl g j := by
  unfold addAt dl
  by_cases c : 0 < g
  · rw [if_pos c, gAt_set _ _ _ _ h]
    by_cases e : g.toNat - 1 = j
    · rw [if_pos e, if_pos (by omega), e]; omega
    · rw [if_neg e, if_neg (by omega)]; omega
  · rw [if_neg c, if_neg (by omega)]; omega
theorem list_ext {l l' : List Int} (h : l.length = l'.length) (e : ∀ j, j < l.length → gAt l j = gAt l' j) : l = l' := by
  apply List.ext_getElem h
  intro i h1 h2
  have := e i h1
  rw [gAt, gAt, List.getD, List.getD, List.getElem?_eq_getElem h1, List.getElem?_eq_getElem h2] at this
  exact this
theorem payS_len (p : Nat) : ∀ (s : List Item) (f : List Int) (g : Int), (s.foldl (payStep p) (f, g)).1.length = f.length
  | [], _, _ => rfl
  | it :: s, f, g => by
    rw [List.foldl_cons, payStep, payS_len p s]
    simp only
    split <;> simp
theorem payF_len (n : Nat) (s : List Item) (p : Nat) : (payF n s p).length = 2 ^ n - 1 := by
  unfold payF
  rw [payS_len]; simp [zeros]
def sm : Nat → (Nat → Int) → Int
  | 0, _ => 0
  | n + 1, f => sm n f + f n
theorem sm_congr {f g : Nat → Int} : ∀ n, (∀ p, p < n → f p = g p) → sm n f = sm n g
  | 0, _ => rfl
  | n + 1, h => by rw [sm, sm, sm_congr n fun p hp => h p (by omega), h n (by omega)]
theorem sm_one {f : Nat → Int} {i : Nat} {v : Int} : ∀ n, (i < n → sm n (fun p => f p + (if i = p then v else 0)) = sm n f + v) ∧ (n ≤ i → sm n (fun p => f p + (if i = p then v else 0)) = sm n f)
  | 0 => ⟨fun h => by omega, fun _ => rfl⟩
  | n + 1 => by
    obtain ⟨h1, h2⟩ := sm_one (f := f) (i := i) (v := v) n
    simp only [sm]
    refine ⟨fun h => ?_, fun h => ?_⟩
    · by_cases e : i = n
      · rw [h2 (by omega), if_pos e]; omega
      · rw [h1 (by omega), if_neg e]; omega
    · rw [h2 (by omega), if_neg (by omega)]; omega
theorem pay_sum {n m : Nat} {j : Nat} (hj : j < m) : ∀ (s : List Item) (F : Nat → List Int) (g : Int), Valid n g s → (∀ p, (F p).length = m) → sm n (fun p => gAt (F p) j) = dl g j → sm n (fun p => gAt (s.foldl (payStep p) (F p, g)).1 j) = dl (s.foldl stepG g) j
  | [], F, g, _, _, h => h
  | it :: s, F, g, hv, hl, h => by
    obtain ⟨h1, h2, h3⟩ := hv
    have := pay_sum hj s (fun p => if it.2 = p then addAt (addAt (F p) (stepG g it) 1) g (-1) else F p) (stepG g it) h3 (fun p => by split <;> simp [hl]) (by
      have e : ∀ p, p < n → gAt (if it.2 = p then addAt (addAt (F p) (stepG g it) 1) g (-1) else F p) j = gAt (F p) j + (if it.2 = p then dl (stepG g it) j - dl g j else 0) := by
        intro p _
        split
        · rw [gAt_add (by simp [hl]; exact hj), gAt_add (by rw [hl]; exact hj)]; omega
        · omega
      rw [sm_congr n e, (sm_one n).1 h1, h]; omega)
    exact this
theorem pay_bound {m : Nat} {j : Nat} (hj : j < m) (p : Nat) : ∀ (s : List Item) (f : List Int) (g : Int) (B : Nat), f.length = m → (gAt f j).natAbs ≤ B → (gAt (s.foldl (payStep p) (f, g)).1 j).natAbs ≤ B + 2 * s.length
  | [], f, g, B, _, h => by simpa using h
  | it :: s, f, g, B, hl, h => by
    rw [List.foldl_cons, payStep]
    have := pay_bound hj p s (if it.2 = p then addAt (addAt f (stepG g it) 1) g (-1) else f) (stepG g it) (B + 2) (by split <;> simp [hl]) (by
      split
      · rw [gAt_add (by simp [hl]; exact hj), gAt_add (by rw [hl]; exact hj)]
        have a1 : dl (stepG g it) j = 0 ∨ dl (stepG g it) j = 1 := by unfold dl; split <;> simp
        have a2 : dl g j = 0 ∨ dl g j = 1 := by unfold dl; split <;> simp
        omega
      · omega)
    simp only [List.length_cons]
    omega
theorem gAt_zeros (n j : Nat) : gAt (zeros n) j = 0 := by
  unfold gAt zeros
  rw [List.getD, List.getElem?_replicate]
  split <;> rfl
theorem payF_bound (n : Nat) (s : List Item) (p : Nat) : ∀ v ∈ payF n s p, v.natAbs ≤ 2 * s.length := by
  intro v hv
  obtain ⟨j, hj, rfl⟩ := List.getElem_of_mem hv
  have hj' := hj
  rw [payF_len] at hj'
  have := pay_bound hj' p s (zeros n) 0 0 (by simp [zeros]) (by rw [gAt_zeros]; decide)
  have e : gAt (payF n s p) j = (payF n s p)[j] := by rw [gAt, List.getD, List.getElem?_eq_getElem hj]; rfl
  rw [← e]
  unfold payF
  omega
def vadd (a b : List Int) : List Int := (a.zip b).map fun p => p.1 + p.2
theorem vadd_len {a b : List Int} (h : a.length = b.length) : (vadd a b).length = a.length := by simp [vadd, h]
theorem gAt_vadd {a b : List Int} {j : Nat} (h : a.length = b.length) (hj : j < a.length) : gAt (vadd a b) j = gAt a j + gAt b j := by
  unfold gAt vadd
  have h2 : j < b.length := by omega
  have h3 : j < (a.zip b).length := by simp; omega
  simp [List.getD, hj, h2, List.getElem?_eq_getElem h3]
theorem vsum {m : Nat} (z : List Int) (F : Nat → List Int) (hz : z.length = m) (hF : ∀ p, (F p).length = m) : ∀ n, ((List.range n).foldl (fun b p => vadd b (F p)) z).length = m ∧ ∀ j, j < m → gAt ((List.range n).foldl (fun b p => vadd b (F p)) z) j = gAt z j + sm n fun p => gAt (F p) j
  | 0 => ⟨hz, fun j _ => by simp [sm]⟩
  | n + 1 => by
    obtain ⟨h1, h2⟩ := vsum z F hz hF n
    rw [List.range_succ, List.foldl_append]
    simp only [List.foldl_cons, List.foldl_nil]
    refine ⟨by rw [vadd_len (by rw [h1, hF]), h1], fun j hj => ?_⟩
    rw [gAt_vadd (by rw [h1, hF]) (by omega), h2 j hj, sm]; omega
theorem all_get (n : Nat) (s : List Item) (hv : Valid n 0 s) : (List.range n).foldl (fun b p => vadd b (payF n s p)) (zeros n) = addAt (zeros n) (endG s) 1 := by
  obtain ⟨h1, h2⟩ := vsum (m := 2 ^ n - 1) (zeros n) (payF n s) (by simp [zeros]) (payF_len n s) n
  apply list_ext
  · rw [h1]; simp [zeros]
  · intro j hj
    rw [h1] at hj
    rw [h2 j hj, gAt_zeros, gAt_add (by simpa [zeros] using hj), gAt_zeros]
    have := pay_sum (n := n) hj s (fun _ => zeros n) 0 hv (by simp [zeros]) (by
      have : ∀ n', sm n' (fun p => gAt (zeros n) j) = 0 := by
        intro n'
        induction n' with
        | zero => rfl
        | succ n' ih => rw [sm, ih, gAt_zeros]; rfl
      rw [this, dl, if_neg (by omega)])
    show 0 + sm n (fun p => gAt (payF n s p) j) = 0 + 1 * dl (endG s) j
    unfold payF endG
    rw [this]; omega
theorem endG_lt {n : Nat} (hn : n ≤ 4) : ∀ (s : List Item) (g : Int), Valid n g s → 0 ≤ g → g < (2 ^ n : Nat) → 0 ≤ s.foldl stepG g ∧ s.foldl stepG g < (2 ^ n : Nat)
  | [], g, _, h0, h1 => ⟨h0, h1⟩
  | it :: s, g, hv, h0, h1 => by
    obtain ⟨a, b, c⟩ := hv
    obtain ⟨d, e⟩ := step_lt hn a h0 h1 b
    exact endG_lt hn s _ c d e
/-! ### sums as pairs -/
def sumP (l : List Int) (j : Nat) : List (Int × Int) := (l.zipIdx j).filterMap fun p => if p.1 = 0 then none else some ((p.2 : Int) + 1, p.1)
def prD (p : Int × Int) : D := .tup [.int p.1, .int p.2]
theorem sumOf_eq (l : List Int) : sumOf l = (sumP l 0).map prD := by
  unfold sumOf sumP
  rw [List.map_filterMap]
  congr 1
  funext p
  split <;> rfl
theorem sumP_mem {l : List Int} {p : Int × Int} : ∀ {j : Nat}, p ∈ sumP l j → p.2 ∈ l ∧ (j : Int) < p.1 ∧ p.1 ≤ j + l.length := by
  induction l with
  | nil => intro j h; simp [sumP] at h
  | cons v l ih =>
    intro j h
    unfold sumP at h
    rw [List.zipIdx_cons, List.filterMap_cons] at h
    have key : p ∈ sumP l (j + 1) → p.2 ∈ v :: l ∧ (j : Int) < p.1 ∧ p.1 ≤ j + (v :: l).length := by
      intro h
      obtain ⟨h1, h2, h3⟩ := ih h
      simp only [List.length_cons]
      exact ⟨List.mem_cons_of_mem _ h1, by omega, by omega⟩
    by_cases e : v = 0
    · simp only [e, if_true] at h
      exact key (by unfold sumP; exact h)
    · simp only [e, if_false] at h
      rcases List.mem_cons.mp h with h | h
      · subst h
        simp only [List.length_cons, List.mem_cons, true_or, true_and]
        exact ⟨by omega, by omega⟩
      · exact key (by unfold sumP; exact h)
theorem form_sum : ∀ (l pre : List Int), (sumP l pre.length).foldl (fun f p => addAt f p.1 p.2) (pre ++ List.replicate l.length 0) = pre ++ l
  | [], pre => by simp [sumP]
  | v :: l, pre => by
    have ih := form_sum l (pre ++ [v])
    simp only [List.length_append, List.length_singleton, List.append_assoc, List.singleton_append] at ih
    unfold sumP at *
    rw [List.zipIdx_cons, List.filterMap_cons]
    by_cases e : v = 0
    · subst e
      simp only [if_true]
      rw [List.length_cons, List.replicate_succ]
      exact ih
    · simp only [e, if_false, List.foldl_cons]
      have : addAt (pre ++ List.replicate (v :: l).length 0) ((pre.length : Int) + 1) v = pre ++ v :: List.replicate l.length 0 := by
        unfold addAt
        rw [if_pos (by omega)]
        have e1 : ((pre.length : Int) + 1).toNat - 1 = pre.length := by omega
        rw [e1, List.length_cons, List.replicate_succ, List.set_append_right _ _ (Nat.le_refl _), Nat.sub_self]
        simp [gAt, List.getD]
      rw [this]
      exact ih
theorem sum_unit : ∀ n, n < 5 → ∀ g : Nat, g < 16 → g < 2 ^ n → sumP (addAt (zeros n) (g : Int) 1) 0 = if 0 < g then [((g : Int), 1)] else [] := by decide
end MP

set_option Elab.async false
set_option linter.all false
set_option maxRecDepth 100000
namespace MP
open PySem
theorem law_form_sum (wf k n : Nat) (f : List Int) (st : Sto) (hn : n ≤ 4) (hf : f.length = 2 ^ n - 1) : run TT wf (k+2) 21 [.int n, .tup (sumOf f)] st = .ok (.dat (.lst (f.map .int))) st := by
  have e := form_sum f []
  simp only [List.length_nil, List.nil_append, hf] at e
  have := law_form_ok wf k n (sumP f 0) st hn (fun p hp => by
    obtain ⟨_, h1, h2⟩ := sumP_mem hp
    rw [hf] at h2
    have : 0 < 2 ^ n := Nat.pow_pos (by decide)
    omega)
  rw [show zeros n = List.replicate (2 ^ n - 1) 0 from rfl, e] at this
  rw [sumOf_eq]
  exact this
theorem Sm_sum {n : Nat} {l : List Int} {m : Nat} (hl : l.length ≤ m) (hm : m ≤ 1000) (hb : ∀ v ∈ l, v.natAbs < 10 ^ 18) : Sm (n + 2) (3 + m * 49) (.tup (sumOf l)) := by
  refine Sm.tup (B := 47) (fun x hx => ?_) (Nat.le_trans (filterMap_len _ _) (by simpa using hl))
  rw [sumOf_eq] at hx
  obtain ⟨p, hp, rfl⟩ := List.mem_map.mp hx
  obtain ⟨h1, h2, h3⟩ := sumP_mem hp
  refine Sm.tup (B := 20) (m := 2) (fun y hy => ?_) (by simp)
  simp at hy
  rcases hy with rfl | rfl
  · exact .int (by omega)
  · exact .int (hb _ h1)
def gotD (n : Nat) (s : List Item) : List D := (List.range n).map fun p => .tup (sumOf (payF n s p))
theorem Sm_got (n : Nat) (s : List Item) (hn : n ≤ 4) (hs : s.length ≤ 40) : Sm 60 10000 (.lst (gotD n s)) := by
  have h16 := pow_le hn
  refine (Sm.lst (n := 59) (B := 3 + 15 * 49) (m := 4) (fun x hx => ?_) (by simp [gotD]; omega)).mono (by decide)
  obtain ⟨p, hp, rfl⟩ := List.mem_map.mp hx
  exact Sm_sum (n := 57) (by rw [payF_len]; omega) (by decide) fun v hv => by
    have := payF_bound n s p v hv
    omega
theorem Sm_who (n : Nat) (g : Int) (hn : n ≤ 4) : Sm 59 100 (.tup (whoIn n g)) := by
  refine (Sm.tup (n := 58) (B := 20) (m := 4) (fun x hx => ?_) (Nat.le_trans (filterMap_len _ _) (by simpa using hn))).mono (by decide)
  obtain ⟨i, hi, e⟩ := List.mem_filterMap.mp hx
  have hi' := List.mem_range.mp hi
  split at e
  · cases e; exact .int (by omega)
  · cases e
theorem right_ok (wf k n : Nat) (s : List Item) (st : Sto) (h2 : 2 ≤ n) (hn : n ≤ 4) (hs : s.length ≤ 40) (hv : Valid n 0 s) :
    (run TT wf (k+7) 25 [.int n, .tup (s.map itD)] st).Sat (fun w st' => w = .dat (.bl true) ∧ ∃ ext : Sto, st' = st ++ ext) noX := by
  refine sat_abs fun Q hQ => ?_
  rw [run_of (F := F25) rfl rfl]
  have h16 := pow_le hn
  have h1 : 0 < 2 ^ n := Nat.pow_pos (by decide)
  simp only [F25, st0]
  simp
  refine (law_pays_ok wf (k+4) n s st hn hv).use ?_
  rintro w s1 ⟨rfl, ext, hs1⟩
  have hpay : ∀ (p : Nat) (st : Sto), p < n → run TT wf (k+6) 14 [.int n, .tup (s.map itD), .int p] st = .ok (.dat (.tup (sumOf (payF n s p)))) st := fun p st hp => pay_ok wf k n s p st h2 hn hp hs hv
  have hlen : ∀ p, (payF n s p).length ≤ 100000 := fun p => by rw [payF_len]; omega
  have hgl : (gotD n s).length = n := by simp [gotD]
  have hrep := repr_ok (Sm_got n s hn hs) (by decide) rfl
  have hsz : ∀ st : Sto, run TT wf (k+6) 18 [.int n] st = .ok (.dat (.int (2 ^ n : Nat))) st := fun st => law_size_ok wf _ n st hn
  have hm := pow_m1 n
  obtain ⟨g0, g1⟩ := endG_lt hn s 0 hv (by decide) (by omega)
  change 0 ≤ endG s at g0
  change endG s < _ at g1
  have hsu := sum_unit n (by omega) (endG s).toNat (by omega) (by omega)
  rw [show ((endG s).toNat : Int) = endG s by omega] at hsu
  have hall := all_get n s hv
  have hff : ∀ (p : Nat) (st : Sto), run TT wf (k+6) 21 [.int n, .tup (sumOf (payF n s p))] st = .ok (.dat (.lst ((payF n s p).map .int))) st := fun p st => law_form_sum wf (k+4) n _ st hn (payF_len n s p)
  have hzl : (zeros n).length = 2 ^ n - 1 := by simp [zeros]
  have hzm : (zeros n).map D.int = List.replicate (2 ^ n - 1) (.int 0) := by simp [zeros]
  have hpl := payF_len n s
  simp [rngOk_nat (show n ≤ 100000 by omega), rng_zero]
  refine sat_eq (compL_mapT _ (fun p => .tup (sumOf (payF n s p))) (List.range n) fun p hp => ?_) ?_
  · simp [compB, hpay p _ (List.mem_range.mp hp)]
  rw [← gotD]
  simp [hgl, show n ≤ 100000 by omega, hrep]
  refine sat_eq (compL_mapT _ (fun p => .tup (sumOf (payF n s p))) (List.range n) fun p hp => ?_) ?_
  · simp [compB, fD, law_sum_of_ok wf (k+5) _ _ (hlen p)]
  rw [← gotD]
  simp [hgl, show n ≤ 100000 by omega, hrep, rngOk_nat (show n ≤ 100000 by omega), rng_zero]
  refine sat_eq (compL_mapT _ (fun p => .tup (sumOf (payF n s p))) (List.range n) fun p hp => ?_) ?_
  · simp [compB, hpay p _ (List.mem_range.mp hp)]
  rw [← gotD]
  generalize hM : 2 ^ n = m at *
  simp [hgl, show n ≤ 100000 by omega, hrep, hsz, hm, bin_rep (show m - 1 ≤ 100000 by omega)]
  refine for_inv (List.range n) rfl (fun ys env st' => st' = s1 ∧ ∃ (b : List Int) (a : Slot), b.length = m - 1 ∧ ys.foldl (fun b p => vadd b (payF n s p)) b = addAt (zeros n) (endG s) 1 ∧
    env = [.dat (.int n), .dat (.tup (s.map itD)), .dat (.lst (gotD n s)), .dat (.lst (b.map .int)), a, .un, .dat (.lst ((List.range n).map fun p => fD (payF n s p))), .dat (.int (endG s)), .un, .un, .un, .un])
    ⟨rfl, zeros n, .un, hzl, hall, by rw [hzm]⟩ ?_ ?_
  · rintro P hP p ys env s2 ⟨rfl, b, a, hb, hfo, rfl⟩
    simp [forB, hff]
    refine sat_eq ((congrArg (fun x => compL _ x s2) (zipF_map D.int D.int b (payF n s p))).trans (compL_mapT _ (fun q => .int (q.1 + q.2)) _ fun q hq => ?_)) ?_
    · simp [compB]
    have hvl : (vadd b (payF n s p)).length = m - 1 := by rw [vadd_len (by rw [hb, hpl]), hb]
    have hve : ((b.zip (payF n s p)).map fun q => D.int (q.1 + q.2)) = (vadd b (payF n s p)).map .int := by simp [vadd]
    rw [hve]
    simp [hvl, show m - 1 ≤ 100000 by omega]
    exact hP _ _ _ ⟨rfl, _, _, hvl, hfo, rfl⟩
  · rintro env s2 ⟨rfl, b, a, hb, hfo, rfl⟩
    simp only [List.foldl_nil] at hfo
    subst hfo
    have hso := law_sum_of_ok wf (k+5) (addAt (zeros n) (endG s) 1) s2 (by rw [hb]; omega)
    rw [sumOf_eq, hsu] at hso
    simp [hso]
    have hmul : binD .mul (.tup [.tup [.int (endG s), .int 1]]) (.int (if 0 < endG s then 1 else 0)) = some (.dat (.tup ((if 0 < (endG s).toNat then [(endG s, 1)] else []).map prD))) := by
      by_cases e : 0 < endG s
      · rw [if_pos e, if_pos (by omega)]
        exact bin_repT (m := 1) (by decide) (by simp)
      · rw [if_neg e, if_neg (by omega)]
        exact bin_repT (m := 0) (by decide) (by simp)
    have hok : okD 60 (.tup ((if 0 < (endG s).toNat then [(endG s, (1 : Int))] else []).map prD)) = true := by
      by_cases e : 0 < (endG s).toNat <;> simp [e, prD, okD]
    have hne := c_ne_refl hok rfl
    simp only [Int.lt_toNat, Int.natCast_zero] at hmul hne ⊢
    simp [hmul, hne, rngOk_nat (show n ≤ 100000 by omega), rng_zero]
    have hw : (whoIn n (endG s)).length ≤ 100000 := Nat.le_trans (filterMap_len _ _) (by simp; omega)
    refine sat_eq (compL_map _ (fun i => if isIn i (endG s) then some (.int (i : Nat)) else none) (List.range n) fun y hy => ?_) ?_
    · have hy2 : y < 4 := by have := List.mem_range.mp hy; omega
      cases e : isIn y (endG s) <;> simp [compB, law_is_in_ok wf (k+4) y _ _ hy2, e]
    rw [← whoIn]
    have hth : ∀ st : Sto, run TT wf (k+6) 15 [.int n, .tup (s.map itD)] st = .ok (.dat (.tup (whoIn n (endG s)))) st := fun st => there_ok wf k n s st h2 hn hs hv
    have hr2 := repr_ok (d := .lst [.tup (whoIn n (endG s)), .tup (whoIn n (endG s))]) (Sm.lst (n := 59) (B := 100) (m := 2) (fun x hx => by simp at hx; subst hx; exact Sm_who n _ hn) (by simp)) (by decide) rfl
    simp [hw, hth, hr2, is_script_ok wf (k+1) n s _ h2 hn hs hv]
    exact hQ _ _ ⟨rfl, ext, hs1⟩
end MP

set_option Elab.async false
set_option linter.all false
set_option maxRecDepth 100000
namespace MP
open PySem
theorem Sm_row (s : List Item) (hs : s.length ≤ 40) (hi : ∀ p ∈ s, p.2 < 100) : Sm 60 10000 (.tup (s.map itD)) := by
  refine (Sm.tup (n := 59) (B := 111) (m := 40) (fun x hx => ?_) (by simpa using hs)).mono (by decide)
  obtain ⟨p, hp, rfl⟩ := List.mem_map.mp hx
  refine Sm.tup (n := 58) (B := 52) (m := 2) (fun y hy => ?_) (by simp)
  simp at hy
  rcases hy with rfl | rfl
  · have : (word p.1).length ≤ 5 := by cases p.1 <;> decide
    refine Sm.mono (.str ?_) (show 10 * (word p.1).length + 2 ≤ 52 by omega)
    cases p.1 <;> simp [word]
  · exact (Sm.int (by have := hi p hp; omega)).mono (by decide)
theorem Valid.lt {n : Nat} : ∀ {s : List Item} {g : Int}, Valid n g s → ∀ p ∈ s, p.2 < n
  | [], _, _, p, h => by simp at h
  | q :: s, g, hv, p, h => by
    rcases List.mem_cons.mp h with rfl | h
    · exact hv.1
    · exact Valid.lt hv.2.2 p h
def validB (n : Nat) : Int → List Item → Bool
  | _, [] => true
  | g, p :: s => decide (p.2 < n) && (isIn p.2 g == !p.1) && validB n (stepG g p) s
theorem validB_ok {n : Nat} : ∀ {s : List Item} {g : Int}, validB n g s = true → Valid n g s
  | [], _, _ => trivial
  | p :: s, g, h => by
    simp only [validB, Bool.and_eq_true, decide_eq_true_eq, beq_iff_eq] at h
    exact ⟨h.1.1, h.1.2, validB_ok h.2⟩
def s0 : List Item := [(true, 0), (true, 1), (false, 0), (true, 0)]
def s20 : List Item := (List.replicate 20 [(true, 3), (false, 3)]).flatten
theorem cut_take {xs : List D} (k : Nat) : cutD xs none (some (k : Int)) = xs.take k := by
  unfold cutD sIxD
  simp only
  rw [if_pos (by omega), Int.toNat_natCast, List.drop_zero, Nat.sub_zero]
  by_cases h : k ≤ xs.length
  · rw [Nat.min_eq_left h]
  · rw [Nat.min_eq_right (by omega), List.take_length, List.take_of_length_le (by omega)]
theorem rowD0 : D.tup [.tup [.str "join", .int 0], .tup [.str "join", .int 1], .tup [.str "leave", .int 0], .tup [.str "join", .int 0]] = .tup (s0.map itD) := rfl
theorem rowD20 : (List.replicate 20 [.tup [.str "join", .int 3], .tup [.str "leave", .int 3]]).flatten = s20.map itD := rfl
theorem v0 : ∀ k, k < 5 → validB 2 0 (s0.take k) = true := by decide
theorem v20 : validB 4 0 s20 = true := by decide
theorem v39 : validB 4 0 (s20.take 39) = true := by decide
theorem law_ok (wf k : Nat) (ns : List Int) (st : Sto) (h : ns.length ≤ 63) : (run TT wf (k+9) 26 [.scr ns] st).Sat (fun w st' => w = .dat (.bl true)) noX := by
  refine sat_abs fun Q hQ => ?_
  rw [run_of (F := F26) rfl rfl]
  simp only [F26, st0]
  simp
  refine (begun_ok wf (k+7) ns st (by omega)).use ?_
  rintro w s1 ⟨r, rfl, d1⟩
  obtain ⟨j, hj, hj2⟩ : ∃ j : Nat, (3 : Int) + (if (ns.length : Int) < 60 then (ns.length : Int) else 60) / 4 = j ∧ j ≤ 100 := by
    refine ⟨((3 : Int) + (if (ns.length : Int) < 60 then (ns.length : Int) else 60) / 4).toNat, ?_, ?_⟩ <;> split <;> omega
  simp [divOk_of (j := 4) (by decide) (by decide), hj, rngOk_nat (show j ≤ 100000 by omega), rng_zero]
  refine for_inv (List.range j) rfl (fun ys env st' => Draw r st' ∧ ∃ (a b c d : Slot), env = [.dat (.scr ns), .dat (.ref r), a, b, .un, c, d, .un]) ⟨d1, .un, .un, .un, .un, rfl⟩ ?_ ?_
  · rintro P hP y ys env s2 ⟨d2, a, b, c, d, rfl⟩
    simp [forB]
    refine (next_ok wf (k+7) r 3 s2 (by decide) (by decide) d2).use ?_
    rintro w s3 ⟨i, rfl, i0, i1, d3⟩
    obtain ⟨n, hn⟩ : ∃ n : Nat, (2 : Int) + i = n := ⟨(2 + i).toNat, by omega⟩
    simp [hn]
    refine (next_ok wf (k+7) r 3 s3 (by decide) (by decide) d3).use ?_
    rintro w s4 ⟨i2, rfl, j0, j1, d4⟩
    obtain ⟨most, hm, hm2⟩ : ∃ most : Nat, atD [.int 6, .int 12, .int 40] i2 = some (.int most) ∧ most ≤ 40 := by
      have : i2 = 0 ∨ i2 = 1 ∨ i2 = 2 := by omega
      rcases this with rfl | rfl | rfl
      · exact ⟨6, by simp, by omega⟩
      · exact ⟨12, by simp, by omega⟩
      · exact ⟨40, by simp, by omega⟩
    simp [hm]
    refine (row_ok wf (k+5) r n most s4 (by omega) (by omega) (by omega) d4).use ?_
    rintro w s5 ⟨s, rfl, hs, hv, d5⟩
    have hr := repr_ok (Sm_row s (by omega) fun p hp => by have := hv.lt p hp; omega) (by decide) rfl
    simp [hr]
    refine (right_ok wf (k+1) n s s5 (by omega) (by omega) (by omega) hv).use ?_
    rintro w s6 ⟨rfl, ext, rfl⟩
    simp [hr]
    exact hP _ _ _ ⟨d5.append ext, _, _, _, _, rfl⟩
  · rintro env s2 ⟨d2, a, b, c, d, rfl⟩
    have p0 : ∀ (i p : Nat) (st : Sto), i < 5 → p < 2 → run TT wf (k+8) 14 [.int 2, .tup ((s0.take i).map itD), .int p] st = .ok (.dat (.tup (sumOf (payF 2 (s0.take i) p)))) st := fun i p st hi hp => pay_ok wf (k+2) 2 (s0.take i) p st (by decide) (by decide) hp (by simp [s0]; omega) (validB_ok (v0 i hi))
    have t0 : ∀ (i : Nat) (st : Sto), i < 5 → run TT wf (k+8) 15 [.int 2, .tup ((s0.take i).map itD)] st = .ok (.dat (.tup (whoIn 2 (endG (s0.take i))))) st := fun i st hi => there_ok wf (k+2) 2 (s0.take i) st (by decide) (by decide) (by simp [s0]; omega) (validB_ok (v0 i hi))
    have t4 : ∀ st : Sto, run TT wf (k+8) 15 [.int 4, .tup []] st = .ok (.dat (.tup [])) st := fun st => there_ok wf (k+2) 4 [] st (by decide) (by decide) (by decide) trivial
    have e4 : (4 : Int) = ((4 : Nat) : Int) := rfl
    simp
    rw [rowD0, e4, rng_zero]
    simp [rngOk]
    refine sat_eq (compL_mapT _ (fun i => .tup (sumOf (payF 2 (s0.take i) 0))) (List.range 4) fun i hi => ?_) ?_
    · have hi' := List.mem_range.mp hi
      have := p0 i 0 s2 (by omega) (by decide)
      rw [List.map_take] at this
      simp at this
      simp [compB, cut_take, this]
    have c1 : (List.range 4).map (fun i => D.tup (sumOf (payF 2 (s0.take i) 0))) = [.tup [], .tup [.tup [.int 1, .int 1]], .tup [.tup [.int 1, .int 1]], .tup [.tup [.int 1, .int 1], .tup [.int 2, .int 1], .tup [.int 3, .int (-1)]]] := rfl
    rw [c1]
    have n1 := c_ne_refl (d := .lst [.tup [], .tup [.tup [.int 1, .int 1]], .tup [.tup [.int 1, .int 1]], .tup [.tup [.int 1, .int 1], .tup [.int 2, .int 1], .tup [.int 3, .int (-1)]]]) rfl rfl
    have q0 : ∀ st : Sto, run TT wf (k+8) 14 [.int 2, .tup (s0.map itD), .int 0] st = .ok (.dat (.tup [.tup [.int 1, .int 1]])) st := fun st => p0 4 0 st (by decide) (by decide)
    have q1 : ∀ st : Sto, run TT wf (k+8) 14 [.int 2, .tup (s0.map itD), .int 1] st = .ok (.dat (.tup [.tup [.int 1, .int (-1)], .tup [.int 3, .int 1]])) st := fun st => p0 4 1 st (by decide) (by decide)
    have n2 := c_ne_refl (d := .lst [.tup [.tup [.int 1, .int 1]], .tup [.tup [.int 1, .int (-1)], .tup [.int 3, .int 1]]]) rfl rfl
    have u0 : ∀ st : Sto, run TT wf (k+8) 15 [.int 2, .tup (s0.map itD)] st = .ok (.dat (.tup [.int 0, .int 1])) st := fun st => t0 4 st (by decide)
    have u3 : ∀ st : Sto, run TT wf (k+8) 15 [.int 2, .tup ((s0.map itD).take 3)] st = .ok (.dat (.tup [.int 1])) st := fun st => t0 3 st (by decide)
    have n3 := c_ne_refl (d := .lst [.tup [.int 0, .int 1], .tup [.int 1], .tup []]) rfl rfl
    have cu3 : cutD (s0.map itD) none (some 3) = (s0.map itD).take 3 := cut_take 3
    have m20 : binD .mul (.tup [.tup [.str "join", .int 3], .tup [.str "leave", .int 3]]) (.int 20) = some (.dat (.tup (s20.map itD))) := bin_repT (m := 20) (by decide) (by decide)
    have cu39 : cutD (s20.map itD) none (some 39) = (s20.map itD).take 39 := cut_take 39
    have w3 : ∀ st : Sto, run TT wf (k+8) 14 [.int 4, .tup (s20.map itD), .int 3] st = .ok (.dat (.tup [])) st := fun st => pay_ok wf (k+2) 4 s20 3 st (by decide) (by decide) (by decide) (by decide) (validB_ok v20)
    have w0 : ∀ st : Sto, run TT wf (k+8) 14 [.int 4, .tup (s20.map itD), .int 0] st = .ok (.dat (.tup [])) st := fun st => pay_ok wf (k+2) 4 s20 0 st (by decide) (by decide) (by decide) (by decide) (validB_ok v20)
    have w39 : ∀ st : Sto, run TT wf (k+8) 14 [.int 4, .tup ((s20.map itD).take 39), .int 3] st = .ok (.dat (.tup [.tup [.int 8, .int 1]])) st := fun st => pay_ok wf (k+2) 4 (s20.take 39) 3 st (by decide) (by decide) (by decide) (by decide) (validB_ok v39)
    have n4 := c_eq_refl (d := .lst [.tup [], .tup [.tup [.int 8, .int 1]], .tup []]) rfl rfl
    simp [n1, q0, q1, n2, u0, cu3, u3, t4, n3, m20, w3, cu39, w39, w0, n4]
    exact hQ _ _ rfl
end MP

set_option Elab.async false
set_option linter.all false
set_option maxRecDepth 100000
set_option maxHeartbeats 0
namespace MP
open PySem PySem.Spec PyProof.Rows L2
def topS (i : Nat) : Stmt := PySem.Challenge.pw_allstay_k35_whole_scripts_pay.main.body.getD i (.Pass ⟨0, 0, 0, 0⟩)
def row0 : Row := ⟨"is_whole", 0, topS 8, ["thing", "least", "most"], ["thing", "least", "most"], F0⟩
theorem bind_row0 : BindOk row0 := fun _ _ _ _ _ _ us hl => match us, hl with | [_, _, _], _ => rfl
def row1 : Row := ⟨"need_many", 1, topS 9, ["many"], ["many"], F1⟩
theorem bind_row1 : BindOk row1 := fun _ _ _ _ _ _ us hl => match us, hl with | [_], _ => rfl
def row2 : Row := ⟨"need_partner", 2, topS 10, ["many", "partner"], ["many", "partner"], F2⟩
theorem bind_row2 : BindOk row2 := fun _ _ _ _ _ _ us hl => match us, hl with | [_, _], _ => rfl
def row3 : Row := ⟨"groups_of", 3, topS 11, ["many"], ["many"], F3⟩
theorem bind_row3 : BindOk row3 := fun _ _ _ _ _ _ us hl => match us, hl with | [_], _ => rfl
def row4 : Row := ⟨"all_of", 4, topS 12, ["many"], ["many"], F4⟩
theorem bind_row4 : BindOk row4 := fun _ _ _ _ _ _ us hl => match us, hl with | [_], _ => rfl
def row5 : Row := ⟨"bit_of", 5, topS 13, ["partner"], ["partner"], F5⟩
theorem bind_row5 : BindOk row5 := fun _ _ _ _ _ _ us hl => match us, hl with | [_], _ => rfl
def row6 : Row := ⟨"is_in", 6, topS 14, ["partner", "group"], ["partner", "group"], F6⟩
theorem bind_row6 : BindOk row6 := fun _ _ _ _ _ _ us hl => match us, hl with | [_, _], _ => rfl
def row7 : Row := ⟨"sum_of", 7, topS 15, ["form", "place", "factor"], ["form"], F7⟩
theorem bind_row7 : BindOk row7 := fun _ _ _ _ _ _ us hl => match us, hl with | [_], _ => rfl
def row8 : Row := ⟨"is_item", 8, topS 20, ["many", "thing"], ["many", "thing"], F8⟩
theorem bind_row8 : BindOk row8 := fun _ _ _ _ _ _ us hl => match us, hl with | [_, _], _ => rfl
def row9 : Row := ⟨"fault_of", 9, topS 21, ["many", "thing", "group", "place", "item"], ["many", "thing"], F9⟩
theorem bind_row9 : BindOk row9 := fun _ _ _ _ _ _ us hl => match us, hl with | [_, _], _ => rfl
def row10 : Row := ⟨"behind", 10, topS 22, ["group", "item"], ["group", "item"], F10⟩
theorem bind_row10 : BindOk row10 := fun _ _ _ _ _ _ us hl => match us, hl with | [_, _], _ => rfl
def row11 : Row := ⟨"is_script", 11, topS 23, ["many", "thing"], ["many", "thing"], F11⟩
theorem bind_row11 : BindOk row11 := fun _ _ _ _ _ _ us hl => match us, hl with | [_, _], _ => rfl
def row12 : Row := ⟨"need_script", 12, topS 24, ["many", "thing", "place"], ["many", "thing"], F12⟩
theorem bind_row12 : BindOk row12 := fun _ _ _ _ _ _ us hl => match us, hl with | [_, _], _ => rfl
def row13 : Row := ⟨"pay_in", 13, topS 25, ["many", "script", "partner", "item", "form", "group", "later", "part", "more"], ["many", "script", "partner"], F13⟩
theorem bind_row13 : BindOk row13 := fun _ _ _ _ _ _ us hl => match us, hl with | [_, _, _], _ => rfl
def row14 : Row := ⟨"pay", 14, topS 26, ["many", "script", "partner"], ["many", "script", "partner"], F14⟩
theorem bind_row14 : BindOk row14 := fun _ _ _ _ _ _ us hl => match us, hl with | [_, _, _], _ => rfl
def row15 : Row := ⟨"there", 15, topS 27, ["many", "script", "group", "item", "partner"], ["many", "script"], F15⟩
theorem bind_row15 : BindOk row15 := fun _ _ _ _ _ _ us hl => match us, hl with | [_, _], _ => rfl
def row16 : Row := ⟨"_law_begun", 16, topS 29, ["_law_script", "_law_mixed", "_law_k", "_law_cell"], ["_law_script"], F16⟩
theorem bind_row16 : BindOk row16 := fun _ _ _ _ _ _ us hl => match us, hl with | [_], _ => rfl
def row17 : Row := ⟨"_law_next", 17, topS 30, ["_law_draw", "_law_below", "_law_at", "_law_mixed", "_law_great", "_law_found"], ["_law_draw", "_law_below"], F17⟩
theorem bind_row17 : BindOk row17 := fun _ _ _ _ _ _ us hl => match us, hl with | [_, _], _ => rfl
def row18 : Row := ⟨"_law_size", 18, topS 31, ["_law_many"], ["_law_many"], F18⟩
theorem bind_row18 : BindOk row18 := fun _ _ _ _ _ _ us hl => match us, hl with | [_], _ => rfl
def row19 : Row := ⟨"_law_bit", 19, topS 32, ["_law_partner"], ["_law_partner"], F19⟩
theorem bind_row19 : BindOk row19 := fun _ _ _ _ _ _ us hl => match us, hl with | [_], _ => rfl
def row20 : Row := ⟨"_law_is_in", 20, topS 33, ["_law_partner", "_law_group"], ["_law_partner", "_law_group"], F20⟩
theorem bind_row20 : BindOk row20 := fun _ _ _ _ _ _ us hl => match us, hl with | [_, _], _ => rfl
def row21 : Row := ⟨"_law_form", 21, topS 34, ["_law_many", "_law_some", "_law_found", "_law_group", "_law_factor"], ["_law_many", "_law_some"], F21⟩
theorem bind_row21 : BindOk row21 := fun _ _ _ _ _ _ us hl => match us, hl with | [_, _], _ => rfl
def row22 : Row := ⟨"_law_pays", 22, topS 35, ["_law_many", "_law_row_here", "_law_forms", "_law_group", "_law_word", "_law_one", "_law_later", "_law_mine", "_law_part", "_law_by", "_law_partner"], ["_law_many", "_law_row_here"], F22⟩
theorem bind_row22 : BindOk row22 := fun _ _ _ _ _ _ us hl => match us, hl with | [_, _], _ => rfl
def row23 : Row := ⟨"_law_sum_of", 23, topS 36, ["_law_form_here", "_law_k", "_law_one"], ["_law_form_here"], F23⟩
theorem bind_row23 : BindOk row23 := fun _ _ _ _ _ _ us hl => match us, hl with | [_], _ => rfl
def row24 : Row := ⟨"_law_row", 24, topS 37, ["_law_draw", "_law_many", "_law_most", "_law_turn", "_law_group", "_law_found", "_law_one", "_law_is_in_it"], ["_law_draw", "_law_many", "_law_most"], F24⟩
theorem bind_row24 : BindOk row24 := fun _ _ _ _ _ _ us hl => match us, hl with | [_, _, _], _ => rfl
def row25 : Row := ⟨"_law_right", 25, topS 38, ["_law_many", "_law_row_here", "_law_got", "_law_both", "_law_some", "_law_due", "_law_forms", "_law_group", "_law_partner", "_law_form_here", "_law_one", "_law_more"], ["_law_many", "_law_row_here"], F25⟩
theorem bind_row25 : BindOk row25 := fun _ _ _ _ _ _ us hl => match us, hl with | [_, _], _ => rfl
def row26 : Row := ⟨"law", 26, topS 39, ["_law_script", "_law_draw", "_law_turn", "_law_row_here", "_law_due", "_law_many", "_law_kept", "_law_k"], ["_law_script"], F26⟩
theorem bind_row26 : BindOk row26 := fun _ _ _ _ _ _ us hl => match us, hl with | [_], _ => rfl
def rowsL : List Row := [row0, row1, row2, row3, row4, row5, row6, row7, row8, row9, row10, row11, row12, row13, row14, row15, row16, row17, row18, row19, row20, row21, row22, row23, row24, row25, row26]
def cstL : List Cst := [.int "FEWEST" 2, .int "MOST" 4, .int "MOST_ITEMS" 40, .str "JOIN" "join", .str "LEAVE" "leave"]
theorem hidL : (rowsL.all fun r => decide (nmOf rowsL r.id = r.name)) = true := by decide +kernel
theorem ok_row0 : rowB (fxOf rowsL) (csOf cstL) row0 = true := by decide +kernel
theorem ok_row1 : rowB (fxOf rowsL) (csOf cstL) row1 = true := by decide +kernel
theorem ok_row2 : rowB (fxOf rowsL) (csOf cstL) row2 = true := by decide +kernel
theorem ok_row3 : rowB (fxOf rowsL) (csOf cstL) row3 = true := by decide +kernel
theorem ok_row4 : rowB (fxOf rowsL) (csOf cstL) row4 = true := by decide +kernel
theorem ok_row5 : rowB (fxOf rowsL) (csOf cstL) row5 = true := by decide +kernel
theorem ok_row6 : rowB (fxOf rowsL) (csOf cstL) row6 = true := by decide +kernel
theorem ok_row7 : rowB (fxOf rowsL) (csOf cstL) row7 = true := by decide +kernel
theorem ok_row8 : rowB (fxOf rowsL) (csOf cstL) row8 = true := by decide +kernel
theorem ok_row9 : rowB (fxOf rowsL) (csOf cstL) row9 = true := by decide +kernel
theorem ok_row10 : rowB (fxOf rowsL) (csOf cstL) row10 = true := by decide +kernel
theorem ok_row11 : rowB (fxOf rowsL) (csOf cstL) row11 = true := by decide +kernel
theorem ok_row12 : rowB (fxOf rowsL) (csOf cstL) row12 = true := by decide +kernel
theorem ok_row13 : rowB (fxOf rowsL) (csOf cstL) row13 = true := by decide +kernel
theorem ok_row14 : rowB (fxOf rowsL) (csOf cstL) row14 = true := by decide +kernel
theorem ok_row15 : rowB (fxOf rowsL) (csOf cstL) row15 = true := by decide +kernel
theorem ok_row16 : rowB (fxOf rowsL) (csOf cstL) row16 = true := by decide +kernel
theorem ok_row17 : rowB (fxOf rowsL) (csOf cstL) row17 = true := by decide +kernel
theorem ok_row18 : rowB (fxOf rowsL) (csOf cstL) row18 = true := by decide +kernel
theorem ok_row19 : rowB (fxOf rowsL) (csOf cstL) row19 = true := by decide +kernel
theorem ok_row20 : rowB (fxOf rowsL) (csOf cstL) row20 = true := by decide +kernel
theorem ok_row21 : rowB (fxOf rowsL) (csOf cstL) row21 = true := by decide +kernel
theorem ok_row22 : rowB (fxOf rowsL) (csOf cstL) row22 = true := by decide +kernel
theorem ok_row23 : rowB (fxOf rowsL) (csOf cstL) row23 = true := by decide +kernel
theorem ok_row24 : rowB (fxOf rowsL) (csOf cstL) row24 = true := by decide +kernel
theorem ok_row25 : rowB (fxOf rowsL) (csOf cstL) row25 = true := by decide +kernel
theorem ok_row26 : rowB (fxOf rowsL) (csOf cstL) row26 = true := by decide +kernel
theorem hrL : (rowsL.all (rowB (fxOf rowsL) (csOf cstL))) = true := List.all_eq_true.mpr fun r hr => by
  simp only [rowsL, List.mem_cons, List.not_mem_nil, or_false] at hr
  rcases hr with rfl | rfl | rfl | rfl | rfl | rfl | rfl | rfl | rfl | rfl | rfl | rfl | rfl | rfl | rfl | rfl | rfl | rfl | rfl | rfl | rfl | rfl | rfl | rfl | rfl | rfl | rfl
  · exact ok_row0
  · exact ok_row1
  · exact ok_row2
  · exact ok_row3
  · exact ok_row4
  · exact ok_row5
  · exact ok_row6
  · exact ok_row7
  · exact ok_row8
  · exact ok_row9
  · exact ok_row10
  · exact ok_row11
  · exact ok_row12
  · exact ok_row13
  · exact ok_row14
  · exact ok_row15
  · exact ok_row16
  · exact ok_row17
  · exact ok_row18
  · exact ok_row19
  · exact ok_row20
  · exact ok_row21
  · exact ok_row22
  · exact ok_row23
  · exact ok_row24
  · exact ok_row25
  · exact ok_row26
theorem hFL : ∀ r ∈ rowsL, TT.fn r.id = some r.F := fun r hr => by
  simp only [rowsL, List.mem_cons, List.not_mem_nil, or_false] at hr
  rcases hr with rfl | rfl | rfl | rfl | rfl | rfl | rfl | rfl | rfl | rfl | rfl | rfl | rfl | rfl | rfl | rfl | rfl | rfl | rfl | rfl | rfl | rfl | rfl | rfl | rfl | rfl | rfl <;> rfl
theorem hbL : ∀ r ∈ rowsL, BindOk r := fun r hr => by
  simp only [rowsL, List.mem_cons, List.not_mem_nil, or_false] at hr
  rcases hr with rfl | rfl | rfl | rfl | rfl | rfl | rfl | rfl | rfl | rfl | rfl | rfl | rfl | rfl | rfl | rfl | rfl | rfl | rfl | rfl | rfl | rfl | rfl | rfl | rfl | rfl | rfl
  · exact bind_row0
  · exact bind_row1
  · exact bind_row2
  · exact bind_row3
  · exact bind_row4
  · exact bind_row5
  · exact bind_row6
  · exact bind_row7
  · exact bind_row8
  · exact bind_row9
  · exact bind_row10
  · exact bind_row11
  · exact bind_row12
  · exact bind_row13
  · exact bind_row14
  · exact bind_row15
  · exact bind_row16
  · exact bind_row17
  · exact bind_row18
  · exact bind_row19
  · exact bind_row20
  · exact bind_row21
  · exact bind_row22
  · exact bind_row23
  · exact bind_row24
  · exact bind_row25
  · exact bind_row26
abbrev RL : PySem.W.OpenRow := PySem.W.OpenLaw.row PySem.Challenge.rw_allstay_k35_whole_scripts_pay
abbrev hkL : PySem.W.Hook := He.hookD 4 (faOf rowsL cstL) (fnsOf rowsL)
def obL (s : PySem.W.SharedT) : He.AlD := He.obsDG 4 (faOf rowsL cstL) (fnsOf rowsL) (HandSHeadRun.getT s)
theorem ob_eqL (s : PySem.W.SharedT) : obL s = hkL.obs s.abs := He.obsDG_eq (HandSHeadRun.getT_eq s)
def loose0 : List PySem.Str := ["StayError", "BadNumber", "BadScript", "Missing", "FEWEST", "MOST", "is_whole", "need_many", "need_partner", "groups_of", "all_of", "bit_of", "is_in", "sum_of", "MOST_ITEMS", "JOIN", "LEAVE", "is_item", "fault_of", "behind", "is_script", "need_script", "pay_in", "pay", "there", "_law_begun", "_law_next", "_law_size", "_law_bit", "_law_is_in"]
def loose1 : List PySem.Str := ["_law_form", "_law_pays", "_law_sum_of", "_law_row", "_law_right"]
def looseL : List PySem.Str := loose0 ++ loose1
theorem runL (w : World) : HandSHeadRun.RunEq RL (PySem.W.view RL.prog [39]) hkL obL 8000 looseL w := by
  intro os
  kernel_rfl
theorem law_run (wf : Nat) (ns : List Int) (h : ns.length ≤ 63) : ∃ st', run TT wf 9 row26.id [.scr ns] [] = .ok (.dat (.bl true)) st' := by
  have q := law_ok wf 0 ns [] h
  generalize e : run TT wf _ _ _ _ = r at q
  cases r with
  | ok a st => rw [sat_ok] at q; subst q; exact ⟨st, e⟩
  | exc c p st => rw [sat_exc] at q; exact q.elim
  | bad => rw [sat_bad] at q; exact q.elim
end MP
open PySem PySem.W PySem.Calls PyProof.Rows
theorem PySem.Challenge.cw_allstay_k35_whole_scripts_pay_holds : PySem.Challenge.rw_allstay_k35_whole_scripts_pay.Holds := by
  w_on; o_law
  refine HandSHeadRun.head_any (r := OpenLaw.row PySem.Challenge.rw_allstay_k35_whole_scripts_pay) (q := view (OpenLaw.row PySem.Challenge.rw_allstay_k35_whole_scripts_pay).prog [39]) (H := MP.hkL) (ob := MP.obL) (M := 8000) (loose := MP.looseL) (d := HandSHeadRun.topDef (OpenLaw.row PySem.Challenge.rw_allstay_k35_whole_scripts_pay).prog 39) (kwd := []) MP.ob_eqL
    (by kernel_rfl) (fun s => by kernel_rfl) MP.runL (by kernel_rfl) (by kernel_rfl) (by kernel_rfl) (by rfl) (by first | assumption | decide +kernel) (by decide +kernel) ⟨rfl, rfl, rfl, rfl, rfl, by decide +kernel⟩ ?hw ?hc
  case hw => w_witness2
  case hc =>
    refine MP.walkG (l := PySem.Challenge.rw_allstay_k35_whole_scripts_pay) (n := 63) (k := 9) (x := "_law_script") rfl (by decide) (by kernel_rfl) ⟨rfl, by decide, by decide⟩ ?F
    intro w mg fa h Y G hmg0
    have hmg : mg MP.row26.name = some (.ref fa) := by
      have e : (HandSHeadRun.topDef (OpenLaw.row PySem.Challenge.rw_allstay_k35_whole_scripts_pay).prog 39).name = MP.row26.name := by kernel_rfl
      rw [← e]
      exact hmg0
    exact MP.lawFn (T := MP.TT) (wf := 2 ^ 3000) (k := 8) (P := (PySem.Challenge.rw_allstay_k35_whole_scripts_pay).prog) (L := MP.row26) Y G MP.hidL MP.hrL MP.hFL MP.hbL (by simp [MP.rowsL]) (by decide +kernel) rfl hmg (MP.law_run _)
