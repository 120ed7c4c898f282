import PyProof.Rows.All
import Wide.All
import OpenK.AllK
import Wide.FinOn
import HandS.ForMost
import HandS.ForExc
import HandS.TryMany
import HandS.IsInst
import HandS.Zip
import HandS.Style
import HandS.TupAny
import HandS.TupMul
import HandS.SortInts
import HandS.Flow
import HandS.Small
import KE.KeyNested
import HandS.RaiseMore
import KE.DataMinMax
import KE.DataCmp
import HandS.HeadHook1
import HandS.Dict
import HandS.Deep
import KE.GoesNew
import KE.GoesMore
import KE.GoesEnum
import HandS.Walk
import HandS.TupSets
import HandS.Strs
import HandS.SetFor
import HandS.Conv
import HandS.OwnEq
import HandS.ExcOwn
import OpenK.KOps
import PyProof.InstNe
import HandS.List
import HandS.WordsExc
import HandS.Ends
import PySem.Challenge.RW_kerbsigns_k01_streets_recognized
set_option Elab.async false
set_option linter.all false
set_option maxRecDepth 100000
namespace PL
open L2 PySem PyProof.Rows PySem.Spec

/-! ## values of the pure layer -/
inductive D where
  | non | bl (b : Bool) | int (i : Int) | str (x : Str) | tup (xs : List D) | lst (xs : List D)
  | cell (a : Addr) | scr (ns : List Int)
  deriving Inhabited

inductive Cell where
  | lst (xs : List D) | aux | ins (fs : List (Str × D)) | dct (ks : List (Str × Int × Int))
abbrev Mem := Addr → Option Cell
def Mem.put (M : Mem) (a : Addr) (c : Cell) : Mem := fun b => if b = a then some c else M b

def Mem.del (M : Mem) (a : Addr) : Mem := fun b => if b = a then none else M b

mutual
def toPy : D → PyData
  | .non => .none | .bl b => .bool b | .int i => .int i | .str x => .str x
  | .tup xs => .tuple (toPys xs) | .lst xs => .list (toPys xs)
  | .cell _ => .none | .scr _ => .none
def toPys : List D → List PyData
  | [] => [] | d :: ds => toPy d :: toPys ds
end
def pyEq (d e : D) : Bool := PyData.eqv (toPy d) (toPy e)
def flatD : D → Bool
  | .non => true | .bl _ => true | .int _ => true | .str _ => true | _ => false
/-- plain data of depth at most n -/
def shN : Nat → D → Prop
  | _, .non => True | _, .bl _ => True | _, .int _ => True | _, .str x => PyData.strOk x = true
  | n + 1, .tup xs => ∀ x ∈ xs, shN n x
  | n + 1, .lst xs => ∀ x ∈ xs, shN n x
  | _, _ => False
def eqOk (d e : D) : Prop := (flatD d = true ∧ flatD e = true) ∨ (shN 64 d ∧ shN 64 e)

/-! ## specifications -/
abbrev EK := Nat → Mem → Prop
structure FS where
  ar : Nat
  pre : List D → Mem → Prop
  post : List D → Mem → D → Mem → Prop
  exc : List D → Mem → Nat → Mem → Prop := fun _ _ _ _ => False

/-! ## the monad -/
structure PM (α : Type) where
  run : Mem → (α → Mem → Prop) → EK → Prop
  mono : ∀ {M : Mem} {Q Q' : α → Mem → Prop} {E E' : EK}, (∀ a M, Q a M → Q' a M) → (∀ k M, E k M → E' k M) → run M Q E → run M Q' E'
namespace PM
variable {α β : Type}
def pure (a : α) : PM α := ⟨fun M Q _ => Q a M, fun h _ => h _ _⟩
def bind (x : PM α) (f : α → PM β) : PM β := ⟨fun M Q E => x.run M (fun a M' => (f a).run M' Q E) E, fun h h' => x.mono (fun a _ => (f a).mono h h') h'⟩
def fail : PM α := ⟨fun _ _ _ => False, fun _ _ h => h⟩
def need (p : Prop) : PM Unit := ⟨fun M Q _ => p ∧ Q () M, fun h _ q => ⟨q.1, h _ _ q.2⟩⟩
def opt : Option α → PM α | some a => pure a | none => fail
def get : PM Mem := ⟨fun M Q _ => Q M M, fun h _ => h _ _⟩
def raise (k : Nat) : PM α := ⟨fun M _ E => E k M, fun _ h => h _ _⟩
def call (F : FS) (ds : List D) : PM D := ⟨fun M Q E => ds.length = F.ar ∧ F.pre ds M ∧ (∀ d M', F.post ds M d M' → Q d M') ∧ ∀ k M', F.exc ds M k M' → E k M',
  fun h h' q => ⟨q.1, q.2.1, fun d M' z => h _ _ (q.2.2.1 d M' z), fun k M' z => h' _ _ (q.2.2.2 k M' z)⟩⟩
def lend (xs : List D) (f : Addr → PM D) : PM D := ⟨fun M Q _ => xs.all flatD = true ∧ ∀ a, M a = none → (f a).run (M.put a (.lst xs)) (fun d M2 => M2 a = some (.lst xs) ∧ flatD d = true ∧ Q d (M2.del a)) fun _ _ => False,
  fun h _ q => ⟨q.1, fun a n => (f a).mono (fun d M2 z => ⟨z.1, z.2.1, h _ _ z.2.2⟩) (fun _ _ z => z) (q.2 a n)⟩⟩
def putm (a : Addr) (c : Cell) : PM Unit := ⟨fun M Q _ => Q () (M.put a c), fun h _ => h _ _⟩
def newl (xs : List D) : PM D := ⟨fun M Q _ => ∀ a, M a = none → Q (.cell a) (M.put a (.lst xs)), fun h _ q a n => h _ _ (q a n)⟩
def newd (ks : List (Str × Int × Int)) : PM D := ⟨fun M Q _ => ∀ a, M a = none → Q (.cell a) (M.put a (.dct ks)), fun h _ q a n => h _ _ (q a n)⟩
def make (F : FS) (ds : List D) : PM D := ⟨fun M Q E => ∀ a, M a = none → (PM.call F (.cell a :: ds)).run (M.put a (.ins [])) (fun d M' => d = .non ∧ Q (.cell a) M') E,
  fun h h' q a n => (PM.call F _).mono (fun _ _ z => ⟨z.1, h _ _ z.2⟩) h' (q a n)⟩
def noex (x : PM α) : PM α := ⟨fun M Q _ => x.run M Q fun _ _ => False, fun h _ => x.mono h fun _ _ z => z⟩
end PM
section
variable {α β : Type} {M : Mem} {E : EK}
@[simp] theorem run_pure {a : α} {Q} : (PM.pure a).run M Q E = Q a M := rfl
@[simp] theorem run_bind {x : PM α} {f : α → PM β} {Q} : (PM.bind x f).run M Q E = x.run M (fun a M' => (f a).run M' Q E) E := rfl
@[simp] theorem run_fail {Q : α → Mem → Prop} : (PM.fail).run M Q E = False := rfl
@[simp] theorem run_need {p : Prop} {Q} : (PM.need p).run M Q E = (p ∧ Q () M) := rfl
@[simp] theorem run_some {a : α} {Q} : (PM.opt (some a)).run M Q E = Q a M := rfl
@[simp] theorem run_none {Q : α → Mem → Prop} : (PM.opt none).run M Q E = False := rfl
@[simp] theorem run_get {Q} : (PM.get).run M Q E = Q M M := rfl
@[simp] theorem run_raise {k : Nat} {Q : α → Mem → Prop} : (PM.raise k).run M Q E = E k M := rfl
theorem run_call {F : FS} {ds : List D} {Q} : (PM.call F ds).run M Q E = (ds.length = F.ar ∧ F.pre ds M ∧ (∀ d M', F.post ds M d M' → Q d M') ∧ ∀ k M', F.exc ds M k M' → E k M') := rfl
@[simp] theorem run_noex {x : PM α} {Q} : (x.noex).run M Q E = x.run M Q fun _ _ => False := rfl
end

/-! ## slots -/
inductive Sl where
  | unk | val (d : D) | own (xs : List D)
abbrev Slots := List Sl

/-! ## truth, items -/
def truF (M : Mem) : D → Option Bool
  | .non => some false | .bl b => some b | .int i => some (i != 0) | .str x => some ((x.length : Int) != 0)
  | .tup xs => some (!xs.isEmpty) | .lst xs => some (!xs.isEmpty) | .scr ns => some (!ns.isEmpty)
  | .cell a => match M a with | some (.lst xs) => some (!xs.isEmpty) | _ => none
def strFits : D → Prop | .str x => x.length ≤ sizeLine | _ => True
def truP (d : D) : PM Bool := .bind .get fun M => .bind (.need (strFits d)) fun _ => .opt (truF M d)
def signs (x : Str) : List D := x.cps.toList.map fun c => .str ⟨#[c]⟩
/-- what is walked -/
def itemsF (M : Mem) : D → Option (List D)
  | .tup xs => some xs | .lst xs => some xs | .scr ns => some (ns.map .int) | .str x => some (signs x)
  | _ => none

/-! ## operators -/
inductive Bo | add | sub | mul | fdiv | mod
inductive Co | eq | ne | lt | le | gt | ge | isin | notin
inductive Ty | int | bool | str | tuple | list
inductive B1 | len | abs | max | min | all | any | sum | sorted | list | tuple | str | int | lenset | sortset
inductive B2 | max | min

def boP : Bo → D → D → PM D
  | .add, .int i, .int j => .pure (.int (i + j))
  | .add, .bl b, .int j => .pure (.int ((if b = true then 1 else 0) + j))
  | .sub, .bl b, .int j => .pure (.int ((if b = true then 1 else 0) - j))
  | .add, .str x, .str y => .bind (.need (x.length + y.length ≤ sizeLine)) fun _ => .pure (.str (x ++ y))
  | .add, .tup xs, .tup ys => .bind (.need (xs.length + ys.length ≤ sizeLine)) fun _ => .pure (.tup (xs ++ ys))
  | .add, .lst xs, .lst ys => .bind (.need (xs.length + ys.length ≤ sizeLine)) fun _ => .pure (.lst (xs ++ ys))
  | .sub, .int i, .int j => .pure (.int (i - j))
  | .mul, .int i, .int j => .bind (.need (CMul i j)) fun _ => .pure (.int (i * j))
  | .mul, .lst xs, .int k => .bind (.need (0 ≤ k ∧ k < 2 ^ 63 ∧ xs.length * k.toNat ≤ sizeLine)) fun _ => .pure (.lst (List.replicate k.toNat xs).flatten)
  | .mul, .tup xs, .int k => .bind (.need (2 ≤ k ∧ k ≤ 1000 ∧ xs.length ≤ 1000)) fun _ => .pure (.tup (List.replicate k.toNat xs).flatten)
  | .fdiv, .int i, .int j => .bind (.need (CDiv i j)) fun _ => .pure (.int (i / j))
  | .mod, .int i, .int j => .bind (.need (0 < j)) fun _ => .pure (.int (i % j))
  | _, _, _ => .fail

def strLt (x y : Str) : Bool := decide (x.cps.toList < y.cps.toList)
def strLe (x y : Str) : Bool := !strLt y x
def inD (x : D) (xs : List D) : Bool := xs.any fun y => pyEq y x
def inOk (x : D) (xs : List D) : Prop := (flatD x = true ∧ ∀ y ∈ xs, flatD y = true) ∨ (shN 60 x ∧ ∀ y ∈ xs, shN 60 y)
/-- the two may stand beside < -/
def ltOk (d e : D) : Prop := shN 60 d ∧ shN 60 e ∧ PySem.W.alike (toPy d) (toPy e) = true
def coP : Co → D → D → PM D
  | .eq, d, e => .bind (.need (eqOk d e)) fun _ => .pure (.bl (pyEq d e))
  | .ne, d, e => .bind (.need (eqOk d e)) fun _ => .pure (.bl (!pyEq d e))
  | .lt, .int i, .int j => .pure (.bl (decide (i < j)))
  | .le, .int i, .int j => .pure (.bl (decide (i ≤ j)))
  | .gt, .int i, .int j => .pure (.bl (decide (j < i)))
  | .ge, .int i, .int j => .pure (.bl (decide (j ≤ i)))
  | .le, .str x, .str y => .pure (.bl (strLe x y))
  | .lt, .tup xs, .tup ys => .bind (.need (ltOk (.tup xs) (.tup ys))) fun _ => .pure (.bl (PySem.W.dataLt (toPy (.tup xs)) (toPy (.tup ys))))
  | .gt, .tup xs, .tup ys => .bind (.need (ltOk (.tup xs) (.tup ys))) fun _ => .pure (.bl (PySem.W.dataLt (toPy (.tup ys)) (toPy (.tup xs))))
  | .isin, d, .tup xs => .bind (.need (inOk d xs)) fun _ => .pure (.bl (inD d xs))
  | .isin, d, .lst xs => .bind (.need (inOk d xs)) fun _ => .pure (.bl (inD d xs))
  | .notin, d, .tup xs => .bind (.need (inOk d xs)) fun _ => .pure (.bl (!inD d xs))
  | .notin, d, .lst xs => .bind (.need (inOk d xs)) fun _ => .pure (.bl (!inD d xs))
  | _, _, _ => .fail

def isiF : Ty → D → Option Bool
  | _, .cell _ => none | _, .scr _ => none
  | .int, .int _ => some true | .int, .bl _ => some true
  | .bool, .bl _ => some true
  | .str, .str _ => some true
  | .tuple, .tup _ => some true
  | .list, .lst _ => some true
  | _, _ => some false

def intsF : List D → Option (List Int)
  | [] => some []
  | .int i :: r => (intsF r).map (i :: ·)
  | _ :: _ => none
def blsF : List D → Option (List Bool)
  | [] => some []
  | .bl i :: r => (blsF r).map (i :: ·)
  | _ :: _ => none
def maxI : Int → List Int → Int | a, [] => a | a, b :: r => maxI (if b > a then b else a) r
def minI : Int → List Int → Int | a, [] => a | a, b :: r => minI (if b < a then b else a) r
def insI (x : Int) : List Int → List Int | [] => [x] | y :: r => if x ≤ y then x :: y :: r else y :: insI x r
def sortI : List Int → List Int | [] => [] | x :: r => insI x (sortI r)
/-- without repeats, by ==; the first ones stay -/
def dedup : List D → List D
  | [] => []
  | x :: r => x :: (dedup r).filter fun y => !pyEq y x
def listItems : D → Option (List D) | .lst xs => some xs | _ => none
def seqItems : D → Option (List D) | .lst xs => some xs | .tup xs => some xs | _ => none

def b1P : B1 → D → PM D
  | .len, .lst xs => .pure (.int xs.length)
  | .len, .tup xs => .pure (.int xs.length)
  | .len, .scr xs => .pure (.int xs.length)
  | .len, .str x => .bind (.need (x.length ≤ sizeLine)) fun _ => .pure (.int x.length)
  | .len, .cell a => .bind .get fun M => match M a with | some (.lst xs) => .pure (.int xs.length) | _ => .fail
  | .abs, .int i => .pure (.int (if i < 0 then -i else i))
  | .max, .lst xs => .bind (.opt (intsF xs)) fun | [] => .fail | a :: r => .pure (.int (maxI a r))
  | .min, .lst xs => .bind (.opt (intsF xs)) fun | [] => .fail | a :: r => .pure (.int (minI a r))
  | .all, .lst xs => .bind (.opt (blsF xs)) fun bs => .pure (.bl (bs.all id))
  | .any, .lst xs => .bind (.opt (blsF xs)) fun bs => .pure (.bl (bs.any id))
  | .sum, .lst xs => .bind (.opt (intsF xs)) fun ns => .pure (.int ns.sum)
  | .sorted, .lst xs => .bind (.opt (intsF xs)) fun ns => .pure (.lst ((sortI ns).map .int))
  | .list, .lst xs => .pure (.lst xs)
  | .list, .tup xs => .pure (.lst xs)
  | .list, .cell a => .bind .get fun M => match M a with | some (.lst xs) => .pure (.lst xs) | _ => .fail
  | .tuple, .lst xs => .pure (.tup xs)
  | .tuple, .tup xs => .pure (.tup xs)
  | .str, .int i => .bind (.need (i.natAbs.log2 < 1920)) fun _ => .pure (.str (toString i))
  | .str, .bl b => .pure (.str (if b = true then "True" else "False"))
  | .int, .bl b => .pure (.int (if b then 1 else 0))
  | .int, .int i => .pure (.int i)
  | _, _ => .fail
def b2P : B2 → D → D → PM D
  | .max, .int i, .int j => .pure (.int (if j > i then j else i))
  | .min, .int i, .int j => .pure (.int (if j < i then j else i))
  | _, _, _ => .fail

def ixP : D → D → PM D
  | .lst xs, .int i => .opt (atI xs i)
  | .tup xs, .int i => .opt (atI xs i)
  | .scr ns, .int i => .opt (atI (ns.map D.int) i)
  | .cell a, .int i => .bind .get fun M => match M a with | some (.lst xs) => .opt (atI xs i) | _ => .fail
  | .str x, .int i => .bind (.need (x.length ≤ sizeLine)) fun _ => .opt (atI (signs x) i)
  | _, _ => .fail
def cutD (xs : List D) (lo hi : Option Int) : List D := (xs.drop (HT.sIx xs.length 0 lo)).take (HT.sIx xs.length xs.length hi - HT.sIx xs.length 0 lo)
def cutP (lo hi : Option Int) : D → PM D
  | .lst xs => .pure (.lst (cutD xs lo hi))
  | .tup xs => .pure (.tup (cutD xs lo hi))
  | .cell a => .bind .get fun M => match M a with | some (.lst xs) => .pure (.lst (cutD xs lo hi)) | _ => .fail
  | _ => .fail
def intO : D → PM (Option Int) | .int i => .pure (some i) | _ => .fail
/-- an end of a slice, where it is there -/
def optP : Bool → PM D → PM (Option Int) | true, x => .bind x intO | false, _ => .pure none
def negP : D → PM D | .int i => .pure (.int (-i)) | _ => .fail

/-! ## expressions -/
inductive Tg | one (i : Nat) | many (is : List Nat)
inductive It1 | seq | range | enum
inductive It2 | range | zip
/-! the rarer words -/
inductive Sp1 | lens | sortset | sortint | lrange | minT | rev | split | pop
inductive Sp2 | index | join | splitOn | gtT | get
inductive Sp3 | replace | get
mutual
/-- what counts of a datum in a set -/
def keyD : D → Option NestedKey
  | .non => some .none | .bl b => some (.num (if b = true then 1 else 0)) | .int i => some (.num i) | .str x => some (.text x)
  | .tup ds => (keysD ds).map .tup
  | .lst _ => none | .cell _ => none | .scr _ => none
def keysD : List D → Option (List NestedKey)
  | [] => some []
  | d :: ds => (keyD d).bind fun k => (keysD ds).map (k :: ·)
end
def tupKeys : List D → Option (List NestedKey)
  | [] => some []
  | .tup ds :: r => (keysD ds).bind fun k => (tupKeys r).bind fun ks => if (NestedKey.tup k).depth ≤ 8 then some (.tup k :: ks) else none
  | _ :: _ => none
/-- how many there are, each once -/
def distN : List NestedKey → Nat
  | [] => 0
  | k :: r => if k ∈ r then distN r else distN r + 1
def setKeys : D → Option (List NestedKey)
  | .lst xs => (tupKeys xs).bind fun ks => if distN ks < 63 then some ks else none
  | .tup xs => (tupKeys xs).bind fun ks => if distN ks < 63 then some ks else none
  | _ => none
/-! pairs in their order, each once -/
abbrev IP := Int × Int
def pairsF : List D → Option (List IP)
  | [] => some []
  | .tup [.int a, .int b] :: r => (pairsF r).map ((a, b) :: ·)
  | _ :: _ => none
def pairD (p : IP) : D := .tup [.int p.1, .int p.2]
def ltP (p q : IP) : Bool := decide (p.1 < q.1) || (decide (p.1 = q.1) && decide (p.2 < q.2))
def insP (p : IP) : List IP → List IP
  | [] => [p]
  | q :: r => if p = q then q :: r else if ltP p q = true then p :: q :: r else q :: insP p r
def sortP : List IP → List IP
  | [] => []
  | p :: r => insP p (sortP r)
/-- the least, as one of the list -/
def leastP (x : D) (xs : List D) : PM D := ⟨fun M Q _ => ((∀ y ∈ x :: xs, shN 60 y) ∧ PySem.W.AlikeAll (toPys (x :: xs))) ∧ ∀ d, d ∈ x :: xs → toPy d = PySem.W.minD (toPy x) (toPys xs) → Q d M,
  fun h _ q => ⟨q.1, fun d m e => h _ _ (q.2 d m e)⟩⟩
def sortsetP (xs : List D) : PM D := .bind (.opt (pairsF xs)) fun ps => .bind (.need ((∀ p ∈ ps, 0 ≤ p.1 ∧ p.1 < 64 ∧ 0 ≤ p.2 ∧ p.2 < 64) ∧ (sortP ps).length < 63)) fun _ => .pure (.lst ((sortP ps).map pairD))
/-- sorted, each once -/
def sortintP (ns : List Int) : PM D := ⟨fun M Q _ => ns.length ≤ 60 ∧ ∀ ms : List Int, ms.Pairwise (· < ·) → (∀ k : Int, k ∈ ms ↔ k ∈ ns) → Q (.lst (ms.map .int)) M, fun h _ q => ⟨q.1, fun ms a b => h _ _ (q.2 ms a b)⟩⟩
def listAt (M : Mem) (a : Addr) : Option (List D) := match M a with | some (.lst xs) => some xs | _ => none
def rangeD (lo : Int) (n : Nat) : List D := (List.range n).map fun (k : Nat) => D.int (lo + (k : Int))
def sp1P : Sp1 → D → PM D
  | .pop, .cell a => .bind .get fun M => .bind (.opt (listAt M a)) fun xs => .bind (.opt xs.getLast?) fun d => .bind (.putm a (.lst xs.dropLast)) fun _ => .pure d
  | .sortset, .lst xs => sortsetP xs
  | .sortint, .tup xs => .bind (.opt (intsF xs)) sortintP
  | .lrange, .int j => .bind (.need (0 ≤ j ∧ j ≤ 16777216)) fun _ => .pure (.lst (rangeD 0 j.toNat))
  | .minT, .lst (x :: xs) => leastP x xs
  | .lens, d => .bind (.opt (setKeys d)) fun ks => .pure (.int (distN ks : Nat))
  | .rev, .lst xs => .pure (.lst xs.reverse)
  | .rev, .tup xs => .pure (.tup xs.reverse)
  | _, _ => .fail
/-- the first place of a value -/
def idxD (d : D) : List D → Option Nat
  | [] => none
  | x :: r => if pyEq x d = true then some 0 else (idxD d r).map (· + 1)
/-- what the first part must be before the second is asked -/
def sp2G : Sp2 → D → PM Unit
  | .index, .lst _ => .pure ()
  | .join, .str _ => .pure ()
  | .splitOn, .str _ => .pure ()
  | .gtT, _ => .pure ()
  | _, _ => .fail
def strsF : List D → Option (List Str)
  | [] => some []
  | .str x :: r => (strsF r).map (x :: ·)
  | _ :: _ => none
def joinP (a : Str) (xs : List D) : PM D := .bind (.opt (strsF xs)) fun ys => .bind (.need ((ys.map (·.length)).sum + ys.length * a.length ≤ 16777216)) fun _ => .pure (.str (Str.join a ys))
def sp2P : Sp2 → D → D → PM D
  | .join, .str a, .lst xs => joinP a xs
  | .join, .str a, .tup xs => joinP a xs
  | .splitOn, .str a, .str b => .bind (.need ((b.length == 0) = false ∧ a.length + 2 ≤ sizeLine)) fun _ => .pure (.lst ((Txt.split a b).map .str))
  | .index, .lst xs, d => .bind (.need (flatD d = true ∧ xs.all flatD = true)) fun _ => .bind (.opt (idxD d xs)) fun (j : Nat) => .pure (.int j)
  | _, _, _ => .fail
def sp3P : Sp3 → D → D → D → PM D
  | _, _, _, _ => .fail
/-! words about an own object -/
inductive Ob
  | attr (f : Str) | meth (m : Str) (F : FS) | make (c : Str) (F : FS) | newl | lenO (F : FS) | eqO (neg : Bool) (F : FS) | isk (c : Str)
  /-- a written dict of texts, d[k], k not in d -/
  | dlit (ks : List (Str × Int × Int)) | dget | dnin
def insAt (M : Mem) : D → Option (List (Str × D))
  | .cell a => (match M a with | some (.ins fs) => some fs | _ => none)
  | _ => none
def dctAt (M : Mem) : D → Option (List (Str × Int × Int))
  | .cell a => (match M a with | some (.dct ks) => some ks | _ => none)
  | _ => none
def putD (f : Str) (d : D) : List (Str × D) → List (Str × D)
  | [] => [(f, d)]
  | (g, x) :: r => if g = f then (g, d) :: r else (g, x) :: putD f d r
/-- what the object must be before the arguments are asked -/
def obG : Ob → D → PM Unit
  | .meth m _, d => .bind .get fun M => .bind (.opt (insAt M d)) fun fs => .need (fs.lookup m = none)
  | _, _ => .pure ()
def obP : Ob → D → List D → PM D
  | .attr f, d, [] => .bind .get fun M => .bind (.opt (insAt M d)) fun fs => .opt (fs.lookup f)
  | .meth _ F, d, ds => .call F (d :: ds)
  | .make _ F, _, ds => .make F ds
  | .newl, .lst xs, [] => .newl xs
  | .lenO F, d, [] => .bind .get fun M => .bind (.opt (insAt M d)) fun _ => .bind (.noex (.call F [d])) fun | .int n => .bind (.need (0 ≤ n ∧ n < 2 ^ 63)) fun _ => .pure (.int n) | _ => .fail
  | .eqO neg F, d, [e] => .bind .get fun M => .bind (.opt (insAt M d)) fun _ => .bind (.need ((insAt M e).isSome = true ∨ ∃ xs, e = .tup xs)) fun _ => .bind (.noex (.call F [d, e])) fun | .bl b => .pure (.bl (b != neg)) | _ => .fail
  | .dlit ks, _, [] => .newd ks
  | .dget, d, [.str x] => .bind .get fun M => .bind (.opt (dctAt M d)) fun ks => .bind (.opt (ks.lookup x)) fun uv => .pure (.tup [.int uv.1, .int uv.2])
  | .dnin, .str x, [d] => .bind .get fun M => .bind (.opt (dctAt M d)) fun ks => .pure (.bl (ks.lookup x).isNone)
  | .isk _, .tup _, [] => .pure (.bl false)
  | .isk _, .cell a, [] => .bind .get fun M => .bind (.opt (insAt M (.cell a))) fun _ => .pure (.bl true)
  | _, _, _ => .fail
inductive E where
  | var (i : Nat) | brw (i : Nat)
  | int (i : Int) | bl (b : Bool) | non | str (x : Str)
  | nil | cons (e es : E)
  | tup (es : E) | lst (es : E)
  | neg (a : E) | bin (o : Bo) (a b : E) | cmp (o : Co) (a b : E) | chain (o o' : Co) (a b c : E)
  | isN (a : E) | notN (a : E)
  | and (a b : E) | or (a b : E) | not (a : E) | ite (c a b : E)
  | call (f : Str) (F : FS) (es : E)
  | isi (a : E) (t : Ty)
  | b1 (o : B1) (a : E) | b2 (o : B2) (a b : E)
  | ix (a i : E) | cut (l h : Bool) (a lo hi : E)
  | it1 (k : It1) (a : E) | it2 (k : It2) (a b : E) | it3 (a b c : E)
  | comp (elt : E) (tg : Tg) (it : E) (tst : E) (own : List Nat)
  | sp1 (o : Sp1) (a : E) | sp2 (o : Sp2) (a b : E) | sp3 (o : Sp3) (a b c : E)
  /-- an own list that is a cell while a is asked -/
  | lend (i : Nat) (a : E)
  | ob (o : Ob) (a b : E)

def setAll : Slots → List Nat → List D → Slots
  | ρ, i :: is, d :: ds => setAll (ρ.set i (.val d)) is ds
  | ρ, _, _ => ρ
def wipeS (ρ : Slots) : List Nat → Slots
  | [] => ρ
  | v :: vs => (wipeS ρ vs).set v .unk
def tgP : Tg → D → Slots → PM Slots
  | .one i, d, ρ => .pure (ρ.set i (.val d))
  | .many is, .tup ds, ρ => .bind (.need (ds.length = is.length)) fun _ => .pure (setAll ρ is ds)
  | .many is, .lst ds, ρ => .bind (.need (ds.length = is.length)) fun _ => .pure (setAll ρ is ds)
  | _, _, _ => .fail
def compGo (f : D → PM (Option D)) : List D → List D → PM (List D)
  | [], acc => .pure acc
  | x :: xs, acc => .bind (f x) fun | some y => compGo f xs (acc ++ [y]) | none => compGo f xs acc
def enumD : Nat → List D → List D
  | _, [] => []
  | k, x :: r => .tup [.int k, x] :: enumD (k + 1) r
def zipD : List D → List D → List D
  | x :: r, y :: s => .tup [x, y] :: zipD r s
  | _, _ => []
def it1P : It1 → D → PM D
  | .seq, d => .bind .get fun M => .bind (.opt (itemsF M d)) fun xs => .pure (.tup xs)
  | .range, .int j => .bind (.need (-16777216 ≤ j ∧ j ≤ 16777216)) fun _ => .pure (.tup (rangeD 0 j.toNat))
  | .enum, .lst xs => .pure (.tup (enumD 0 xs))
  | .enum, .tup xs => .pure (.tup (enumD 0 xs))
  | _, _ => .fail
def it2P : It2 → D → D → PM D
  | .range, .int i, .int j => .bind (.need (-16777216 ≤ i ∧ i ≤ 16777216 ∧ -16777216 ≤ j ∧ j - i ≤ 16777216)) fun _ => .pure (.tup (rangeD i (j - i).toNat))
  | .zip, .lst xs, .lst ys => .pure (.tup (zipD xs ys))
  | .zip, .tup xs, .tup ys => .pure (.tup (zipD xs ys))
  | .zip, .tup xs, .lst ys => .pure (.tup (zipD xs ys))
  | .zip, .lst xs, .tup ys => .pure (.tup (zipD xs ys))
  | _, _, _ => .fail
def downD (i : Int) (n : Nat) : List D := (List.range n).map fun (k : Nat) => D.int (i - (k : Int))
/-- range(i, j, -1) -/
def it3P : D → D → D → PM D
  | .int i, .int j, .int (-1) => .bind (.need (-16777216 ≤ i ∧ i ≤ 16777216 ∧ -16777216 ≤ j ∧ j ≤ 16777216)) fun _ => .pure (.tup (downD i (i - j).toNat))
  | _, _, _ => .fail

def tupP : D → PM (List D) | .tup xs => .pure xs | _ => .fail
/-- what stands behind the object: arguments, or the other side -/
def obL : Ob → D → PM (List D) | .eqO .., d => .pure [d] | .dget, d => .pure [d] | .dnin, d => .pure [d] | _, d => tupP d
def wp : E → Slots → PM D
  | .var i, ρ => match ρ[i]? with | some (.val d) => .pure d | _ => .fail
  | .brw i, ρ => match ρ[i]? with | some (.val d) => .pure d | some (.own xs) => .pure (.lst xs) | _ => .fail
  | .int i, _ => .pure (.int i)
  | .bl b, _ => .pure (.bl b)
  | .non, _ => .pure .non
  | .str x, _ => .pure (.str x)
  | .nil, _ => .pure (.tup [])
  | .cons e es, ρ => .bind (wp e ρ) fun d => .bind (wp es ρ) fun t => .bind (tupP t) fun ds => .pure (.tup (d :: ds))
  | .tup es, ρ => .bind (wp es ρ) fun t => .bind (tupP t) fun ds => .bind (.need (ds.length ≤ sizeLine)) fun _ => .pure (.tup ds)
  | .lst es, ρ => .bind (wp es ρ) fun t => .bind (tupP t) fun ds => .bind (.need (ds.length ≤ sizeLine)) fun _ => .pure (.lst ds)
  | .neg a, ρ => .bind (wp a ρ) negP
  | .bin o a b, ρ => .bind (wp a ρ) fun d => .bind (wp b ρ) fun e => boP o d e
  | .cmp o a b, ρ => .bind (wp a ρ) fun d => .bind (wp b ρ) fun e => coP o d e
  | .chain o o' a b c, ρ => .bind (wp a ρ) fun d => .bind (wp b ρ) fun e => .bind (coP o d e) fun
      | .bl true => .bind (wp c ρ) fun g => coP o' e g
      | .bl false => .pure (.bl false)
      | _ => .fail
  | .isN a, ρ => .bind (wp a ρ) fun | .non => .pure (.bl true) | _ => .pure (.bl false)
  | .notN a, ρ => .bind (wp a ρ) fun | .non => .pure (.bl false) | _ => .pure (.bl true)
  | .and a b, ρ => .bind (wp a ρ) fun d => .bind (truP d) fun t => if t then wp b ρ else .pure d
  | .or a b, ρ => .bind (wp a ρ) fun d => .bind (truP d) fun t => if t then .pure d else wp b ρ
  | .not a, ρ => .bind (wp a ρ) fun d => .bind (truP d) fun t => .pure (.bl (!t))
  | .ite c a b, ρ => .bind (wp c ρ) fun d => .bind (truP d) fun t => if t then wp a ρ else wp b ρ
  | .call _ F es, ρ => .bind (wp es ρ) fun t => .bind (tupP t) fun ds => .call F ds
  | .isi a t, ρ => .bind (wp a ρ) fun d => .bind (.opt (isiF t d)) fun b => .pure (.bl b)
  | .b1 o a, ρ => .bind (wp a ρ) fun d => b1P o d
  | .b2 o a b, ρ => .bind (wp a ρ) fun d => .bind (wp b ρ) fun e => b2P o d e
  | .ix a i, ρ => .bind (wp a ρ) fun d => .bind (wp i ρ) fun e => ixP d e
  | .cut l h a lo hi, ρ => .bind (wp a ρ) fun d =>
      .bind (optP l (wp lo ρ)) fun u => .bind (optP h (wp hi ρ)) fun v => cutP u v d
  | .it1 k a, ρ => .bind (wp a ρ) fun d => it1P k d
  | .it2 k a b, ρ => .bind (wp a ρ) fun d => .bind (wp b ρ) fun e => it2P k d e
  | .it3 a b c, ρ => .bind (wp a ρ) fun d => .bind (wp b ρ) fun e => .bind (wp c ρ) fun g => it3P d e g
  | .comp elt tg it tst own, ρ => .bind (wp it ρ) fun t => .bind (tupP t) fun xs => .bind (.need (xs.length ≤ sizeLine)) fun _ =>
      .bind (compGo (fun x => PM.noex (.bind (tgP tg x (wipeS ρ own)) fun ρ1 => .bind (wp tst ρ1) fun d => .bind (truP d) fun t =>
        if t then .bind (wp elt ρ1) fun y => .pure (some y) else .pure none)) xs []) fun ys => .pure (.lst ys)
  | .sp1 o a, ρ => .bind (wp a ρ) fun d => sp1P o d
  | .sp2 o a b, ρ => .bind (wp a ρ) fun d => .bind (sp2G o d) fun _ => .bind (wp b ρ) fun e => sp2P o d e
  | .sp3 o a b c, ρ => .bind (wp a ρ) fun d => .bind (wp b ρ) fun e => .bind (wp c ρ) fun g => sp3P o d e g
  | .ob o a b, ρ => .bind (wp a ρ) fun d => .bind (obG o d) fun _ => .bind (wp b ρ) fun t => .bind (obL o t) fun ds => obP o d ds
  | .lend i a, ρ => match ρ[i]? with | some (.own xs) => .lend xs fun p => wp a (ρ.set i (.val (.cell p))) | _ => .fail

/-! ## statements -/
structure Post where
  nx : Slots → Mem → Prop
  rt : D → Mem → Prop
  ex : EK
structure SM where
  run : Slots → Mem → Post → Prop
  mono : ∀ {ρ : Slots} {M : Mem} {Q Q' : Post}, (∀ ρ M, Q.nx ρ M → Q'.nx ρ M) → (∀ d M, Q.rt d M → Q'.rt d M) → (∀ k M, Q.ex k M → Q'.ex k M) → run ρ M Q → run ρ M Q'
/-- a loop over what stands in a list -/
def forGo (g : D → Slots → PM Slots) (b : SM) : List D → Slots → Mem → Post → Prop
  | [], ρ, M, Q => Q.nx ρ M
  | x :: xs, ρ, M, Q => (g x ρ).run M (fun ρ1 M1 => b.run ρ1 M1 { Q with nx := fun ρ2 M2 => forGo g b xs ρ2 M2 Q }) Q.ex
theorem forGo_mono {g : D → Slots → PM Slots} {b : SM} : ∀ {xs : List D} {ρ : Slots} {M : Mem} {Q Q' : Post}, (∀ ρ M, Q.nx ρ M → Q'.nx ρ M) → (∀ d M, Q.rt d M → Q'.rt d M) → (∀ k M, Q.ex k M → Q'.ex k M) → forGo g b xs ρ M Q → forGo g b xs ρ M Q'
  | [], _, _, _, _, h1, _, _, h => h1 _ _ h
  | x :: xs, ρ, M, Q, Q', h1, h2, h3, h => (g x ρ).mono (Q := fun ρ1 M1 => b.run ρ1 M1 { Q with nx := fun ρ2 M2 => forGo g b xs ρ2 M2 Q }) (fun ρ1 M1 q => b.mono (Q := { Q with nx := fun ρ2 M2 => forGo g b xs ρ2 M2 Q }) (fun ρ2 M2 z => forGo_mono (xs := xs) h1 h2 h3 z) h2 h3 q) h3 h
/-- while, by a word and a measure -/
def whileGo (c : Slots → PM Bool) (b : SM) (ρ : Slots) (M : Mem) (Q : Post) : Prop :=
  ∃ W : Nat → Slots → Mem → Prop, (∃ m, W m ρ M) ∧ ∀ m ρ M, W m ρ M → (c ρ).run M (fun t M1 => if t then b.run ρ M1 { Q with nx := fun ρ2 M2 => ∃ m', m' < m ∧ W m' ρ2 M2 } else Q.nx ρ M1) Q.ex
theorem whileGo_mono {c : Slots → PM Bool} {b : SM} {ρ : Slots} {M : Mem} {Q Q' : Post} (h1 : ∀ ρ M, Q.nx ρ M → Q'.nx ρ M) (h2 : ∀ d M, Q.rt d M → Q'.rt d M) (h3 : ∀ k M, Q.ex k M → Q'.ex k M) : whileGo c b ρ M Q → whileGo c b ρ M Q' := by
  rintro ⟨W, h0, hs⟩
  refine ⟨W, h0, fun m ρ M w => (c ρ).mono (fun t M1 q => ?_) h3 (hs m ρ M w)⟩
  cases t with
  | true => exact b.mono (Q := { nx := fun ρ2 M2 => ∃ m', m' < m ∧ W m' ρ2 M2, rt := Q.rt, ex := Q.ex }) (fun _ _ z => z) h2 h3 q
  | false => exact h1 _ _ q
def testP (e : E) (ρ : Slots) : PM Bool := .bind (wp e ρ) truP
def setM (ρ : Slots) : List (Nat × Bool) → List D → Slots
  | (i, m) :: r, d :: ds => setM (ρ.set i (match m, d with | true, .lst xs => .own xs | _, _ => .val d)) r ds
  | _, _ => ρ
inductive S where
  | nop | seq (s t : S)
  | set (i : Nat) (e : E) | new (i : Nat) (e : E) | newcell (i : Nat) | frz (i : Nat)
  | unp (is : List Nat) (e : E) | par (is : List (Nat × Bool)) (es : E)
  | put (i : Nat) (k e : E) | putc (i : Nat) (k e : E) | aug (i : Nat) (e : E)
  | app (i : Nat) (e : E) | ext (i : Nat) (e : E) | appc (i : Nat) (e : E)
  | ex (e : E) | ret (e : E) | iff (c : E) (a b : S)
  | forr (tg : Tg) (it : E) (b : S) | whl (c : E) (b : S)
  | fset (i : Nat) (f : Str) (e : E) | appe (a e : E)
  | never | tryn (s : S) | rse (k : Nat) | tryret (e : E) (hs : List (Nat × Str))

def ownAt (ρ : Slots) (i : Nat) : Option (List D) := match ρ[i]? with | some (.own xs) => some xs | _ => none
def cellAt (ρ : Slots) (M : Mem) (i : Nat) : Option (Addr × List D) := match ρ[i]? with
  | some (.val (.cell a)) => (match M a with | some (.lst xs) => some (a, xs) | _ => none)
  | _ => none
namespace SM
def nop : SM := ⟨fun ρ M Q => Q.nx ρ M, fun h _ _ => h _ _⟩
def seq (s t : SM) : SM := ⟨fun ρ M Q => s.run ρ M { Q with nx := fun ρ' M' => t.run ρ' M' Q }, fun h1 h2 h3 => s.mono (fun _ _ => t.mono h1 h2 h3) h2 h3⟩
def set (i : Nat) (e : E) : SM := ⟨fun ρ M Q => (wp e ρ).run M (fun d M' => Q.nx (ρ.set i (.val d)) M') Q.ex, fun h1 _ h3 => (wp e _).mono (fun _ _ => h1 _ _) h3⟩
def new (i : Nat) (e : E) : SM := ⟨fun ρ M Q => (wp e ρ).run M (fun d M' => ∃ xs, d = .lst xs ∧ Q.nx (ρ.set i (.own xs)) M') Q.ex, fun h1 _ h3 => (wp e _).mono (fun _ _ ⟨xs, a, b⟩ => ⟨xs, a, h1 _ _ b⟩) h3⟩
def newcell (i : Nat) : SM := ⟨fun ρ M Q => ∀ a, M a = none → Q.nx (ρ.set i (.val (.cell a))) (M.put a (.lst [])), fun h1 _ _ h a n => h1 _ _ (h a n)⟩
def frz (i : Nat) : SM := ⟨fun ρ M Q => ∃ xs, ownAt ρ i = some xs ∧ Q.nx (ρ.set i (.val (.lst xs))) M, fun h1 _ _ ⟨xs, a, b⟩ => ⟨xs, a, h1 _ _ b⟩⟩
def unp (is : List Nat) (e : E) : SM := ⟨fun ρ M Q => (wp e ρ).run M (fun d M' => (tgP (.many is) d ρ).run M' Q.nx Q.ex) Q.ex, fun h1 _ h3 => (wp e _).mono (fun _ _ => (tgP _ _ _).mono h1 h3) h3⟩
def par (is : List (Nat × Bool)) (es : E) : SM := ⟨fun ρ M Q => (wp es ρ).run M (fun t M' => ∃ ds, t = .tup ds ∧ ds.length = is.length ∧ Q.nx (setM ρ is ds) M') Q.ex, fun h1 _ h3 => (wp es _).mono (fun _ _ ⟨ds, a, l, b⟩ => ⟨ds, a, l, h1 _ _ b⟩) h3⟩
def put (i : Nat) (k e : E) : SM := ⟨fun ρ M Q => ∃ xs, ownAt ρ i = some xs ∧ (wp e ρ).run M (fun d M' => (wp k ρ).run M' (fun j M2 => ∃ z n, j = .int z ∧ ixN xs.length z = some n ∧ Q.nx (ρ.set i (.own (xs.set n d))) M2) Q.ex) Q.ex,
  fun h1 _ h3 ⟨xs, a, q⟩ => ⟨xs, a, (wp e _).mono (fun _ _ => (wp k _).mono (fun _ _ ⟨z, n, b, c, q⟩ => ⟨z, n, b, c, h1 _ _ q⟩) h3) h3 q⟩⟩
def putc (i : Nat) (k e : E) : SM := ⟨fun ρ M Q => ∃ a, ρ[i]? = some (.val (.cell a)) ∧ (wp e ρ).run M (fun d M' => (wp k ρ).run M' (fun j M2 => ∃ xs z n, M2 a = some (.lst xs) ∧ j = .int z ∧ ixN xs.length z = some n ∧ Q.nx ρ (M2.put a (.lst (xs.set n d)))) Q.ex) Q.ex,
  fun h1 _ h3 ⟨a, b, q⟩ => ⟨a, b, (wp e _).mono (fun _ _ => (wp k _).mono (fun _ _ ⟨xs, z, n, b, c, d, q⟩ => ⟨xs, z, n, b, c, d, h1 _ _ q⟩) h3) h3 q⟩⟩
def aug (i : Nat) (e : E) : SM := ⟨fun ρ M Q => ∃ x, ρ[i]? = some (.val (.int x)) ∧ (wp e ρ).run M (fun d M' => ∃ y, d = .int y ∧ Q.nx (ρ.set i (.val (.int (x + y)))) M') Q.ex,
  fun h1 _ h3 ⟨x, a, b⟩ => ⟨x, a, (wp e _).mono (fun _ _ ⟨y, c, q⟩ => ⟨y, c, h1 _ _ q⟩) h3 b⟩⟩
def app (i : Nat) (e : E) : SM := ⟨fun ρ M Q => ∃ xs, ownAt ρ i = some xs ∧ (wp e ρ).run M (fun d M' => xs.length < sizeLine ∧ Q.nx (ρ.set i (.own (xs ++ [d]))) M') Q.ex, fun h1 _ h3 ⟨xs, a, q⟩ => ⟨xs, a, (wp e _).mono (fun _ _ ⟨l, q⟩ => ⟨l, h1 _ _ q⟩) h3 q⟩⟩
def ext (i : Nat) (e : E) : SM := ⟨fun ρ M Q => ∃ xs, ownAt ρ i = some xs ∧ (wp e ρ).run M (fun d M' => ∃ ys, d = .lst ys ∧ xs.length + ys.length ≤ sizeLine ∧ Q.nx (ρ.set i (.own (xs ++ ys))) M') Q.ex, fun h1 _ h3 ⟨xs, a, q⟩ => ⟨xs, a, (wp e _).mono (fun _ _ ⟨ys, b, l, q⟩ => ⟨ys, b, l, h1 _ _ q⟩) h3 q⟩⟩
def appc (i : Nat) (e : E) : SM := ⟨fun ρ M Q => ∃ a zs, cellAt ρ M i = some (a, zs) ∧ (wp e ρ).run M (fun d M' => ∃ xs, M' a = some (.lst xs) ∧ xs.length < sizeLine ∧ Q.nx ρ (M'.put a (.lst (xs ++ [d])))) Q.ex, fun h1 _ h3 ⟨a, zs, b, q⟩ => ⟨a, zs, b, (wp e _).mono (fun _ _ ⟨xs, b, l, q⟩ => ⟨xs, b, l, h1 _ _ q⟩) h3 q⟩⟩
def fset (i : Nat) (f : Str) (e : E) : SM := ⟨fun ρ M Q => (wp e ρ).run M (fun d M' => ∃ a fs, ρ[i]? = some (.val (.cell a)) ∧ M' a = some (.ins fs) ∧ fs.length < 1000 ∧ Q.nx ρ (M'.put a (.ins (putD f d fs)))) Q.ex,
  fun h1 _ h3 => (wp e _).mono (fun _ _ ⟨a, fs, b, c, l, q⟩ => ⟨a, fs, b, c, l, h1 _ _ q⟩) h3⟩
def appe (a e : E) : SM := ⟨fun ρ M Q => (wp a ρ).run M (fun d M1 => ∃ p zs, d = .cell p ∧ M1 p = some (.lst zs) ∧ (wp e ρ).run M1 (fun d2 M2 => ∃ xs, M2 p = some (.lst xs) ∧ xs.length < sizeLine ∧ Q.nx ρ (M2.put p (.lst (xs ++ [d2])))) Q.ex) Q.ex,
  fun h1 _ h3 => (wp a _).mono (fun _ _ ⟨p, zs, b, c, q⟩ => ⟨p, zs, b, c, (wp e _).mono (fun _ _ ⟨xs, u, l, q⟩ => ⟨xs, u, l, h1 _ _ q⟩) h3 q⟩) h3⟩
def ex (e : E) : SM := ⟨fun ρ M Q => (wp e ρ).run M (fun _ M' => Q.nx ρ M') Q.ex, fun h1 _ h3 => (wp e _).mono (fun _ _ => h1 _ _) h3⟩
def ret (e : E) : SM := ⟨fun ρ M Q => (wp e ρ).run M Q.rt Q.ex, fun _ h2 h3 => (wp e _).mono h2 h3⟩
def iff (c : E) (a b : SM) : SM := ⟨fun ρ M Q => (testP c ρ).run M (fun t M' => if t then a.run ρ M' Q else b.run ρ M' Q) Q.ex,
  fun h1 h2 h3 => (testP c _).mono (fun t M' q => by
    cases t with
    | true => exact a.mono h1 h2 h3 q
    | false => exact b.mono h1 h2 h3 q) h3⟩
def forr (tg : Tg) (it : E) (b : SM) : SM := ⟨fun ρ M Q => (wp it ρ).run M (fun t M' => ∃ xs, t = .tup xs ∧ forGo (tgP tg) b xs ρ M' Q) Q.ex, fun h1 h2 h3 => (wp it _).mono (fun _ _ ⟨xs, a, q⟩ => ⟨xs, a, forGo_mono h1 h2 h3 q⟩) h3⟩
def whl (c : E) (b : SM) : SM := ⟨fun ρ M Q => whileGo (testP c) b ρ M Q, fun h1 h2 h3 => whileGo_mono h1 h2 h3⟩
def tryn (s : SM) : SM := ⟨fun ρ M Q => s.run ρ M { Q with ex := fun _ _ => False }, fun h1 h2 _ => s.mono h1 h2 fun _ _ z => z⟩
def never : SM := ⟨fun _ _ _ => False, fun _ _ _ h => h⟩
def rse (k : Nat) : SM := ⟨fun _ M Q => Q.ex k M, fun _ _ h3 => h3 _ _⟩
def exTo (hs : List (Nat × Str)) (Q : Post) (k : Nat) (M : Mem) : Prop := match hs.lookup k with | some x => Q.rt (.str x) M | none => False
def tryret (e : E) (hs : List (Nat × Str)) : SM := ⟨fun ρ M Q => (wp e ρ).run M Q.rt (exTo hs Q), fun _ h2 h3 => (wp e _).mono h2 (fun k M' q => by
  unfold exTo at q ⊢
  cases h : hs.lookup k with
  | some x => rw [h] at q; exact h2 _ _ q
  | none => rw [h] at q; exact q)⟩
end SM
def wpS : S → SM
  | .nop => .nop
  | .seq s t => .seq (wpS s) (wpS t)
  | .set i e => .set i e
  | .new i e => .new i e
  | .newcell i => .newcell i
  | .frz i => .frz i
  | .unp is e => .unp is e
  | .par is es => .par is es
  | .put i k e => .put i k e
  | .putc i k e => .putc i k e
  | .aug i e => .aug i e
  | .app i e => .app i e
  | .ext i e => .ext i e
  | .appc i e => .appc i e
  | .fset i f e => .fset i f e
  | .appe a e => .appe a e
  | .ex e => .ex e
  | .ret e => .ret e
  | .iff c a b => .iff c (wpS a) (wpS b)
  | .forr tg it b => .forr tg it (wpS b)
  | .whl c b => .whl c (wpS b)
  | .never => .never
  | .tryn s => .tryn (wpS s)
  | .rse k => .rse k
  | .tryret e hs => .tryret e hs
end PL
set_option Elab.async false
set_option linter.all false
set_option maxRecDepth 100000
namespace PL
open L2 PySem PyProof.Rows PySem.Spec

mutual
/-- the value v stands for d, in what never changes any more (G) -/
inductive Rep (K : PySem.W.Frag) (G : Hp) : V → D → Prop
  | non : Rep K G .non .non
  | bl (b : Bool) : Rep K G (.bl b) (.bl b)
  | int (i : Int) : Rep K G (.int i) (.int i)
  | str (x : Str) : Rep K G (.str x) (.str x)
  | tup {a : Addr} {vs : List V} {ds : List D} : G a = some (.tup vs) → Reps K G vs ds → Rep K G (.ref a) (.tup ds)
  | lst {a : Addr} {vs : List V} {ds : List D} : G a = some (.lst vs) → Reps K G vs ds → Rep K G (.ref a) (.lst ds)
  | cell (a : Addr) : Rep K G (.ref a) (.cell a)
  | scr {a : Addr} {ns : List Int} : SqL K G a (ns.map V.int) → Rep K G (.ref a) (.scr ns)
inductive Reps (K : PySem.W.Frag) (G : Hp) : List V → List D → Prop
  | nil : Reps K G [] []
  | cons {v : V} {vs : List V} {d : D} {ds : List D} : Rep K G v d → Reps K G vs ds → Reps K G (v :: vs) (d :: ds)
end
section
variable {K : PySem.W.Frag} {G G' : Hp}
mutual
theorem Rep.mono (g : Same G G') : ∀ {d : D} {v : V}, Rep K G v d → Rep K G' v d
  | .non, _, h => by cases h; exact .non
  | .bl b, _, h => by cases h; exact .bl b
  | .int i, _, h => by cases h; exact .int i
  | .str x, _, h => by cases h; exact .str x
  | .tup ds, _, h => by cases h with | tup e r => exact .tup (g _ _ e) (Reps.mono g r)
  | .lst ds, _, h => by cases h with | lst e r => exact .lst (g _ _ e) (Reps.mono g r)
  | .cell a, _, h => by cases h; exact .cell a
  | .scr ns, _, h => by cases h with | scr e => exact .scr (g.seq e)
theorem Reps.mono (g : Same G G') : ∀ {ds : List D} {vs : List V}, Reps K G vs ds → Reps K G' vs ds
  | [], _, h => by cases h; exact .nil
  | d :: ds, _, h => by cases h with | cons e r => exact .cons (Rep.mono g e) (Reps.mono g r)
end
theorem Reps.length : ∀ {ds : List D} {vs : List V}, Reps K G vs ds → vs.length = ds.length
  | _, _, .nil => rfl
  | _, _, .cons _ r => congrArg (· + 1) r.length
theorem Reps.append : ∀ {ds es : List D} {vs us : List V}, Reps K G vs ds → Reps K G us es → Reps K G (vs ++ us) (ds ++ es)
  | _, _, _, _, .nil, s => s
  | _, _, _, _, .cons a r, s => .cons a (r.append s)
theorem Reps.get : ∀ {ds : List D} {vs : List V} {i : Nat} {v : V}, Reps K G vs ds → vs[i]? = some v → ∃ d, ds[i]? = some d ∧ Rep K G v d
  | _, _, _, _, .nil, e => by simp at e
  | _, _, 0, _, .cons a _, e => by simp at e; subst e; exact ⟨_, rfl, a⟩
  | _, _, i + 1, _, .cons _ r, e => by simpa using r.get (by simpa using e)
theorem Reps.get' : ∀ {ds : List D} {vs : List V} {i : Nat} {d : D}, Reps K G vs ds → ds[i]? = some d → ∃ v, vs[i]? = some v ∧ Rep K G v d
  | _, _, _, _, .nil, e => by simp at e
  | _, _, 0, _, .cons a _, e => by simp at e; subst e; exact ⟨_, rfl, a⟩
  | _, _, i + 1, _, .cons _ r, e => by simpa using r.get' (by simpa using e)
theorem Reps.set {d : D} {v : V} (h : Rep K G v d) : ∀ {ds : List D} {vs : List V} (i : Nat), Reps K G vs ds → Reps K G (vs.set i v) (ds.set i d)
  | _, _, _, .nil => .nil
  | _, _, 0, .cons _ r => .cons h r
  | _, _, i + 1, .cons a r => .cons a (Reps.set h i r)
theorem Reps.take : ∀ {ds : List D} {vs : List V} (n : Nat), Reps K G vs ds → Reps K G (vs.take n) (ds.take n)
  | _, _, 0, _ => .nil
  | _, _, _ + 1, .nil => .nil
  | _, _, n + 1, .cons a r => .cons a (r.take n)
theorem Reps.drop : ∀ {ds : List D} {vs : List V} (n : Nat), Reps K G vs ds → Reps K G (vs.drop n) (ds.drop n)
  | _, _, 0, r => r
  | _, _, _ + 1, .nil => .nil
  | _, _, n + 1, .cons _ r => r.drop n
theorem Reps.rep {ds : List D} {vs : List V} (h : Reps K G vs ds) : ∀ k : Nat, Reps K G (List.replicate k vs).flatten (List.replicate k ds).flatten
  | 0 => .nil
  | k + 1 => by rw [List.replicate_succ, List.replicate_succ, List.flatten_cons, List.flatten_cons]; exact h.append (h.rep k)
theorem Reps.one {v : V} {d : D} (h : Rep K G v d) : Reps K G [v] [d] := .cons h .nil
theorem Reps.ints : ∀ (ns : List Int), Reps K G (ns.map V.int) (ns.map D.int)
  | [] => .nil
  | n :: r => .cons (.int n) (Reps.ints r)
theorem Reps.ofInts : ∀ {ds : List D} {vs : List V} {ns : List Int}, Reps K G vs ds → intsF ds = some ns → vs = ns.map V.int ∧ ds = ns.map D.int
  | [], _, ns, h, e => by cases h; cases e; exact ⟨rfl, rfl⟩
  | .int i :: r, _, ns, h, e => by
    cases h with
    | cons a h =>
      cases a
      cases e' : intsF r with
      | none => rw [intsF, e'] at e; cases e
      | some ms =>
        rw [intsF, e'] at e
        cases e
        obtain ⟨e1, e2⟩ := h.ofInts e'
        rw [e1, e2]
        exact ⟨rfl, rfl⟩
  | .non :: r, _, ns, h, e => by cases e
  | .bl _ :: r, _, ns, h, e => by cases e
  | .str _ :: r, _, ns, h, e => by cases e
  | .tup _ :: r, _, ns, h, e => by cases e
  | .lst _ :: r, _, ns, h, e => by cases e
  | .cell _ :: r, _, ns, h, e => by cases e
  | .scr _ :: r, _, ns, h, e => by cases e
theorem Reps.ofBls : ∀ {ds : List D} {vs : List V} {ns : List Bool}, Reps K G vs ds → blsF ds = some ns → vs = ns.map V.bl
  | [], _, ns, h, e => by cases h; cases e; rfl
  | .bl i :: r, _, ns, h, e => by
    cases h with
    | cons a h =>
      cases a
      cases e' : blsF r with
      | none => rw [blsF, e'] at e; cases e
      | some ms =>
        rw [blsF, e'] at e
        cases e
        rw [h.ofBls e']
        rfl
  | .non :: r, _, ns, h, e => by cases e
  | .int _ :: r, _, ns, h, e => by cases e
  | .str _ :: r, _, ns, h, e => by cases e
  | .tup _ :: r, _, ns, h, e => by cases e
  | .lst _ :: r, _, ns, h, e => by cases e
  | .cell _ :: r, _, ns, h, e => by cases e
  | .scr _ :: r, _, ns, h, e => by cases e
end

/-! ## an own object's fields -/
abbrev kC (K : PySem.W.Frag) : Addr := He.ga K "Kerb"
inductive FsOk (K : PySem.W.Frag) (G : Hp) : List (Str × V) → List (Str × D) → Prop
  | nil : FsOk K G [] []
  | cons {f : Str} {v : V} {d : D} {vs : List (Str × V)} {ds : List (Str × D)} : Rep K G v d → FsOk K G vs ds → FsOk K G ((f, v) :: vs) ((f, d) :: ds)
section
variable {K : PySem.W.Frag} {G G' : Hp} {vs : List (Str × V)} {fs : List (Str × D)} {f : Str} {v : V} {d : D}
theorem FsOk.mono (g : Same G G') (h : FsOk K G vs fs) : FsOk K G' vs fs := by
  induction h with
  | nil => exact .nil
  | cons r _ ih => exact .cons (r.mono g) ih
theorem FsOk.length (h : FsOk K G vs fs) : vs.length = fs.length := by
  induction h with
  | nil => rfl
  | cons r _ ih => exact congrArg (· + 1) ih
theorem FsOk.get (h : FsOk K G vs fs) (e : fs.lookup f = some d) : ∃ v, vs.lookup f = some v ∧ Rep K G v d := by
  induction h with
  | nil => cases e
  | @cons g v d' vs ds r _ ih =>
    rw [List.lookup_cons] at e ⊢
    cases q : f == g with
    | true => rw [q] at e; cases e; exact ⟨v, rfl, r⟩
    | false => rw [q] at e; exact ih e
theorem FsOk.no (h : FsOk K G vs fs) (e : fs.lookup f = none) : vs.lookup f = none := by
  induction h with
  | nil => rfl
  | @cons g v d' vs ds r _ ih =>
    rw [List.lookup_cons] at e ⊢
    cases q : f == g with
    | true => rw [q] at e; cases e
    | false => rw [q] at e; exact ih e
theorem FsOk.put (h : FsOk K G vs fs) (r : Rep K G v d) : FsOk K G (putF f v vs) (putD f d fs) := by
  induction h with
  | nil => exact .cons r .nil
  | @cons g v' d' vs ds r' h' ih =>
    unfold putF putD
    by_cases q : g = f
    · rw [if_pos q, if_pos q]; exact .cons r h'
    · rw [if_neg q, if_neg q]; exact .cons r' ih
end

/-! ## memory, steps -/
/-- what stands under a text -/
def DkAt (K : PySem.W.Frag) (G : Hp) : Option V → Option (Int × Int) → Prop
  | none, none => True
  | some v, some (u, w) => Rep K G v (.tup [.int u, .int w])
  | _, _ => False
def DkOk (K : PySem.W.Frag) (G : Hp) (kv : List (Key × V)) (ks : List (Str × Int × Int)) : Prop := ∀ x : Str, DkAt K G (valV kv (.inr x)) (ks.lookup x)
theorem DkOk.mono {K : PySem.W.Frag} {G G' : Hp} {kv : List (Key × V)} {ks : List (Str × Int × Int)} (h : DkOk K G kv ks) (g : Same G G') : DkOk K G' kv ks := fun x => by
  have q := h x
  cases e1 : valV kv (.inr x) with
  | none => rw [e1] at q; cases e2 : ks.lookup x with
    | none => trivial
    | some u => rw [e2] at q; exact False.elim q
  | some v => rw [e1] at q; cases e2 : ks.lookup x with
    | none => rw [e2] at q; exact False.elim q
    | some u => rw [e2] at q; exact (show Rep K G v (.tup [.int u.1, .int u.2]) from q).mono g
def CellOk (K : PySem.W.Frag) (M : Mem) (G H : Hp) (a : Addr) : Cell → Prop
  | .lst xs => ∃ vs, H a = some (.lst vs) ∧ Reps K G vs xs
  | .aux => True
  | .ins fs => ∃ dx vs, H a = some (.ins (kC K) dx vs) ∧ FsOk K G vs fs
  | .dct ks => ∃ kv, H a = some (.dK kv) ∧ DkOk K G kv ks
structure Bas (K : PySem.W.Frag) (M : Mem) (G H : Hp) : Prop where
  sub : Same G H
  cells : ∀ a c, M a = some c → G a = none ∧ H a ≠ none ∧ CellOk K M G H a c
structure Stp (K : PySem.W.Frag) (M : Mem) (G H : Hp) (M' : Mem) (G' H' : Hp) : Prop where
  gg : Same G G'
  keep : ∀ a o, H a = some o → M a = none → H' a = some o
  ng : ∀ a, G' a ≠ none → G a ≠ none ∨ H a = none
  nm : ∀ a, M' a ≠ none → M a ≠ none ∨ H a = none
  mm : ∀ a, M a ≠ none → M' a ≠ none
  bas : Bas K M' G' H'
section
variable {K : PySem.W.Frag} {M M' M2 : Mem} {G G' G2 H H' H2 : Hp} {a : Addr} {o : HO}
theorem Stp.refl (b : Bas K M G H) : Stp K M G H M G H := ⟨Same.refl _, fun _ _ e _ => e, fun _ h => .inl h, fun _ h => .inl h, fun _ h => h, b⟩
theorem Stp.there (s : Stp K M G H M' G' H') : ∀ a, H a ≠ none → H' a ≠ none := fun a h => by
  cases e : M a with
  | none =>
    cases q : H a with
    | none => exact absurd q h
    | some o => rw [s.keep a o q e]; simp
  | some c =>
    have m := s.mm a (by rw [e]; simp)
    cases q : M' a with
    | none => exact absurd q m
    | some c' => exact (s.bas.cells a c' q).2.1
theorem Stp.trans (s : Stp K M G H M' G' H') (t : Stp K M' G' H' M2 G2 H2) : Stp K M G H M2 G2 H2 where
  gg := s.gg.trans t.gg
  keep := fun a o e n => t.keep a o (s.keep a o e n) (by
    cases q : M' a with
    | none => rfl
    | some c =>
      rcases s.nm a (by rw [q]; simp) with z | z
      · exact absurd n z
      · rw [e] at z; cases z)
  ng := fun a h => by
    rcases t.ng a h with z | z
    · exact s.ng a z
    · refine .inr ?_
      cases q : H a with
      | none => rfl
      | some o => exact absurd z (s.there a (by rw [q]; simp))
  nm := fun a h => by
    rcases t.nm a h with z | z
    · exact s.nm a z
    · refine .inr ?_
      cases q : H a with
      | none => rfl
      | some o => exact absurd z (s.there a (by rw [q]; simp))
  mm := fun a h => t.mm a (s.mm a h)
  bas := t.bas
theorem CellOk.grow {c : Cell} (h : CellOk K M G H a c) (g : Same G G') (hh : ∀ b o, H b = some o → (b = a ∨ M b = some .aux) → H' b = some o) (hm : ∀ b, M b = some .aux → M' b = some .aux) : CellOk K M' G' H' a c := by
  cases c with
  | lst xs => obtain ⟨vs, e, r⟩ := h; exact ⟨vs, hh _ _ e (.inl rfl), r.mono g⟩
  | aux => trivial
  | ins fs => obtain ⟨dx, vs, e, r⟩ := h; exact ⟨dx, vs, hh _ _ e (.inl rfl), r.mono g⟩
  | dct ks => obtain ⟨kv, e, r⟩ := h; exact ⟨kv, hh _ _ e (.inl rfl), r.mono g⟩
/-- a new object, not yet said to stay -/
theorem Bas.new (b : Bas K M G H) (n : H a = none) : Bas K M G (upd H a o) where
  sub := fun c u e => by rw [upd_ne (ne_of_none (b.sub c u e) n)]; exact b.sub c u e
  cells := fun c x e => by
    obtain ⟨h1, h2, h3⟩ := b.cells c x e
    refine ⟨h1, ?_, h3.grow (Same.refl _) (fun d u q _ => by rw [upd_ne (ne_of_none q n)]; exact q) fun _ z => z⟩
    cases q : H c with
    | none => exact absurd q h2
    | some u => rw [upd_ne (ne_of_none q n), q]; simp
theorem Stp.new (b : Bas K M G H) (n : H a = none) : Stp K M G H M G (upd H a o) :=
  ⟨Same.refl _, fun c u e _ => by rw [upd_ne (ne_of_none e n)]; exact e, fun _ h => .inl h, fun _ h => .inl h, fun _ h => h, b.new n⟩
theorem Bas.free (b : Bas K M G H) (n : H a = none) : G a = none ∧ M a = none := by
  refine ⟨b.sub.free n, ?_⟩
  cases q : M a with
  | none => rfl
  | some c => exact absurd n (b.cells a c q).2.1
/-- an object is said to stay -/
theorem Bas.frz (b : Bas K M G H) (e : H a = some o) (m : M a = none) (g : G a = none) : Bas K M (upd G a o) H where
  sub := fun c u q => by
    by_cases z : c = a
    · rw [z, upd_same] at q; cases q; rw [z]; exact e
    · rw [upd_ne z] at q; exact b.sub c u q
  cells := fun c x q => by
    obtain ⟨h1, h2, h3⟩ := b.cells c x q
    have z : c ≠ a := fun z => by rw [z, m] at q; cases q
    exact ⟨by rw [upd_ne z]; exact h1, h2, h3.grow (fun d u r => by rw [upd_ne (ne_of_none r g)]; exact r) (fun _ _ r _ => r) fun _ r => r⟩
theorem Same.upd {o : HO} (g : G a = none) : Same G (upd G a o) := fun d u r => by rw [upd_ne (ne_of_none r g)]; exact r
theorem Stp.frz (s : Stp K M G H M' G' H') (e : H' a = some o) (m : M' a = none) (g : G' a = none) (n : H a = none) : Stp K M G H M' (upd G' a o) H' :=
  ⟨s.gg.trans (Same.upd g), s.keep, fun c h => by
    by_cases z : c = a
    · rw [z]; exact .inr n
    · rw [upd_ne z] at h; exact s.ng c h, s.nm, s.mm, s.bas.frz e m g⟩
/-- a new object that stays -/
theorem Stp.newF (b : Bas K M G H) (n : H a = none) : Stp K M G H M (upd G a o) (upd H a o) :=
  (Stp.new b n).frz upd_same (b.free n).2 (b.free n).1 n
end

/-! ### what stands in the memory is written -/
section
variable {K : PySem.W.Frag} {M M0 : Mem} {G G0 H H0 : Hp} {a : Addr} {o : HO} {c : Cell}
theorem Bas.wr (b : Bas K M G H) (m : M a ≠ none) (m' : M a ≠ some .aux) (hc : CellOk K (M.put a c) G (upd H a o) a c) : Bas K (M.put a c) G (upd H a o) where
  sub := fun d u q => by
    have ne : d ≠ a := fun z => by
      cases e : M a with
      | none => exact m e
      | some c' => rw [z, (b.cells a _ e).1] at q; cases q
    rw [upd_ne ne]; exact b.sub d u q
  cells := fun d x q => by
    by_cases z : d = a
    · subst z
      have : (M.put d c) d = some c := by simp [Mem.put]
      rw [this] at q
      cases q
      cases e : M d with
      | none => exact absurd e m
      | some c' => exact ⟨(b.cells d _ e).1, by rw [upd_same]; simp, hc⟩
    · have q' : M d = some x := by
        have : (M.put a c) d = M d := by simp [Mem.put, z]
        rw [this] at q; exact q
      obtain ⟨h1, h2, h3⟩ := b.cells d x q'
      refine ⟨h1, by rw [upd_ne z]; exact h2, h3.grow (Same.refl _) (fun e u w hd => ?_) fun e w => ?_⟩
      · have nd : e ≠ a := by
          rcases hd with hd | hd
          · rw [hd]; exact z
          · intro y; rw [y] at hd; exact m' hd
        rw [upd_ne nd]; exact w
      · have nd : e ≠ a := fun y => by rw [y] at w; exact m' w
        have : (M.put a c) e = M e := by simp [Mem.put, nd]
        rw [this]; exact w
theorem Stp.wr (t : Stp K M0 G0 H0 M G H) (m : M a ≠ none) (m' : M a ≠ some .aux) (hc : CellOk K (M.put a c) G (upd H a o) a c) : Stp K M0 G0 H0 (M.put a c) G (upd H a o) :=
  ⟨t.gg, fun d u q n => by
      have ne : d ≠ a := fun z => by
        subst z
        rcases t.nm d m with w | w
        · exact absurd n w
        · rw [q] at w; cases w
      rw [upd_ne ne]; exact t.keep d u q n,
    t.ng, fun d h => by
      by_cases z : d = a
      · subst z; exact t.nm d m
      · have : (M.put a c) d = M d := by simp [Mem.put, z]
        rw [this] at h; exact t.nm d h,
    fun d h => by
      by_cases z : d = a
      · have : (M.put a c) d = some c := by simp [Mem.put, z]
        rw [this]; simp
      · have : (M.put a c) d = M d := by simp [Mem.put, z]
        rw [this]; exact t.mm d h, t.bas.wr m m' hc⟩
/-- a new object becomes a cell -/
theorem Stp.newc (t : Stp K M0 G0 H0 M G H) (e : H a = some o) (g : G a = none) (m : M a = none) (n : H0 a = none) (hc : CellOk K (M.put a c) G H a c) : Stp K M0 G0 H0 (M.put a c) G H :=
  ⟨t.gg, t.keep, t.ng, fun d h => by
      by_cases z : d = a
      · subst z; exact .inr n
      · have : (M.put a c) d = M d := by simp [Mem.put, z]
        rw [this] at h; exact t.nm d h,
    fun d h => by
      by_cases z : d = a
      · have : (M.put a c) d = some c := by simp [Mem.put, z]
        rw [this]; simp
      · have : (M.put a c) d = M d := by simp [Mem.put, z]
        rw [this]; exact t.mm d h,
    ⟨t.bas.sub, fun d x q => by
      by_cases z : d = a
      · subst z
        have : (M.put d c) d = some c := by simp [Mem.put]
        rw [this] at q
        cases q
        exact ⟨g, by rw [e]; simp, hc⟩
      · have w : (M.put a c) d = M d := by simp [Mem.put, z]
        rw [w] at q
        obtain ⟨h1, h2, h3⟩ := t.bas.cells d x q
        refine ⟨h1, h2, h3.grow (Same.refl _) (fun _ u w _ => w) fun e w => ?_⟩
        have nd : e ≠ a := fun y => by rw [y, m] at w; cases w
        have : (M.put a c) e = M e := by simp [Mem.put, nd]
        rw [this]; exact w⟩⟩
end

/-! ## the slots -/
def SlOk (K : PySem.W.Frag) (M : Mem) (G H : Hp) (o : Option (Option V)) : Sl → Prop
  | .unk => True
  | .val d => ∃ v, o = some (some v) ∧ Rep K G v d
  | .own xs => ∃ a vs, o = some (some (.ref a)) ∧ H a = some (.lst vs) ∧ G a = none ∧ M a = none ∧ Reps K G vs xs
structure EnvOk (K : PySem.W.Frag) (ρ : Slots) (M : Mem) (G : Hp) (σ : L2.St) (H : Hp) : Prop where
  len : ρ.length = σ.length
  slot : ∀ (i : Nat) s, ρ[i]? = some s → SlOk K M G H σ[i]? s
  dist : ∀ (i j : Nat) xs ys, ρ[i]? = some (.own xs) → ρ[j]? = some (.own ys) → i ≠ j → σ[i]? ≠ σ[j]?
section
variable {K : PySem.W.Frag} {M M' : Mem} {G G' H H' : Hp} {ρ : Slots} {σ : L2.St}
theorem SlOk.step {o : Option (Option V)} {s : Sl} (h : SlOk K M G H o s) (t : Stp K M G H M' G' H') : SlOk K M' G' H' o s := by
  cases s with
  | unk => trivial
  | val d => obtain ⟨v, e, r⟩ := h; exact ⟨v, e, r.mono t.gg⟩
  | own xs =>
    obtain ⟨a, vs, e, h1, h2, h3, r⟩ := h
    refine ⟨a, vs, e, t.keep a _ h1 h3, ?_, ?_, r.mono t.gg⟩
    · cases q : G' a with
      | none => rfl
      | some u =>
        rcases t.ng a (by rw [q]; simp) with z | z
        · exact absurd h2 z
        · rw [h1] at z; cases z
    · cases q : M' a with
      | none => rfl
      | some u =>
        rcases t.nm a (by rw [q]; simp) with z | z
        · exact absurd h3 z
        · rw [h1] at z; cases z
theorem EnvOk.step (h : EnvOk K ρ M G σ H) (t : Stp K M G H M' G' H') : EnvOk K ρ M' G' σ H' := ⟨h.len, fun i s e => (h.slot i s e).step t, h.dist⟩
theorem EnvOk.val (h : EnvOk K ρ M G σ H) {i : Nat} {d : D} (e : ρ[i]? = some (.val d)) : ∃ v, σ[i]? = some (some v) ∧ Rep K G v d := h.slot i _ e
theorem EnvOk.own (h : EnvOk K ρ M G σ H) {i : Nat} {xs : List D} (e : ρ[i]? = some (.own xs)) : ∃ a vs, σ[i]? = some (some (.ref a)) ∧ H a = some (.lst vs) ∧ G a = none ∧ M a = none ∧ Reps K G vs xs := h.slot i _ e
end

/-! ## what an expression gives -/
/-- d stands at v for good; or it is a list at v that nothing else knows (v0: it is new since H0) -/
def Res (K : PySem.W.Frag) (v0 f0 : Bool) (H0 : Hp) (M : Mem) (G H : Hp) (v : V) (d : D) : Prop :=
  (Rep K G v d ∧ (f0 = true → ∀ xs, d ≠ .lst xs)) ∨
    ∃ a vs xs, v = .ref a ∧ d = .lst xs ∧ H a = some (.lst vs) ∧ G a = none ∧ M a = none ∧ Reps K G vs xs ∧ (v0 = true → H0 a = none)
section
variable {K : PySem.W.Frag} {v0 f0 : Bool} {H0 : Hp} {M M' : Mem} {G G' H H' : Hp} {v : V} {d : D}
theorem Res.rep (h : Rep K G v d) (n : f0 = true → ∀ xs, d ≠ .lst xs) : Res K v0 f0 H0 M G H v d := .inl ⟨h, n⟩
theorem Res.step (h : Res K v0 f0 H0 M G H v d) (t : Stp K M G H M' G' H') : Res K v0 f0 H0 M' G' H' v d := by
  rcases h with ⟨h, n⟩ | ⟨a, vs, xs, rfl, rfl, h1, h2, h3, r, n⟩
  · exact .inl ⟨h.mono t.gg, n⟩
  · obtain ⟨a', vs', e, q1, q2, q3, q4⟩ := SlOk.step (s := .own xs) (o := some (some (.ref a))) ⟨a, vs, rfl, h1, h2, h3, r⟩ t
    cases e
    exact .inr ⟨a, vs', xs, rfl, rfl, q1, q2, q3, q4, n⟩
theorem Res.lst {xs : List D} (h : Res K v0 f0 H0 M G H v (.lst xs)) (b : Bas K M G H) : ∃ a vs, v = .ref a ∧ H a = some (.lst vs) ∧ Reps K G vs xs := by
  rcases h with ⟨h, n⟩ | ⟨a, vs, ys, rfl, e, h1, h2, h3, r, n⟩
  · cases h with
    | lst e r => exact ⟨_, _, rfl, b.sub _ _ e, r⟩
  · cases e; exact ⟨a, vs, rfl, h1, r⟩
theorem Res.nolst (h : Res K v0 f0 H0 M G H v d) (n : ∀ xs, d ≠ .lst xs) : Rep K G v d := by
  rcases h with ⟨h, _⟩ | ⟨a, vs, xs, rfl, e, _⟩
  · exact h
  · exact absurd e (n xs)
theorem Res.weak (h : Res K v0 f0 H0 M G H v d) : Res K false false H0 M G H v d := by
  rcases h with ⟨h, n⟩ | ⟨a, vs, xs, rfl, rfl, h1, h2, h3, r, n⟩
  · exact .inl ⟨h, fun z => nomatch z⟩
  · exact .inr ⟨a, vs, xs, rfl, rfl, h1, h2, h3, r, fun z => nomatch z⟩
theorem Res.new (b : Bas K M G H) {a : Addr} {vs : List V} {xs : List D} (n : H a = none) (r : Reps K G vs xs) (n0 : v0 = true → H0 a = none) : Res K v0 f0 H0 M G (upd H a (.lst vs)) (.ref a) (.lst xs) :=
  .inr ⟨a, vs, xs, rfl, rfl, upd_same, (b.free n).1, (b.free n).2, r, n0⟩
/-- to keep it for good -/
theorem Res.freeze {M0 : Mem} {G0 : Hp} (h : Res K true f0 H0 M G H v d) (t : Stp K M0 G0 H0 M G H) : ∃ G2, Stp K M0 G0 H0 M G2 H ∧ Same G G2 ∧ Rep K G2 v d := by
  rcases h with ⟨h, n⟩ | ⟨a, vs, xs, rfl, rfl, h1, h2, h3, r, n⟩
  · exact ⟨G, t, Same.refl _, h⟩
  · exact ⟨_, t.frz h1 h3 h2 (n rfl), Same.upd h2, .lst upd_same (r.mono (Same.upd h2))⟩
end
theorem Stp.old {K : PySem.W.Frag} {M M' : Mem} {G G' H H' : Hp} (s : Stp K M G H M' G' H') {a : Addr} (n : H' a = none) : H a = none := by
  cases q : H a with
  | none => rfl
  | some o => exact absurd n (s.there a (by rw [q]; simp))
end PL
set_option Elab.async false
set_option linter.all false
set_option maxRecDepth 100000
namespace PL
open L2 PySem PyProof.Rows PySem.Spec

/-! ## readings -/
section
variable (EX : Nat → Addr) (W : WX)
def exW (K : PySem.W.Frag) (M : Mem) (G : Hp) (σ : L2.St) (H : Hp) : EK := fun k M' => ∀ G' H', Stp K M G H M' G' H' → W (.ref (EX k)) none σ H'
def kE (K : PySem.W.Frag) (v0 f0 : Bool) (M : Mem) (G H : Hp) (Q : VK) : D → Mem → Prop := fun d M' => ∀ v G' H', Stp K M G H M' G' H' → Res K v0 f0 H M' G' H' v d → Q v H'
def kA (K : PySem.W.Frag) (M : Mem) (G H : Hp) (Q : List V → Hp → Prop) : D → Mem → Prop := fun t M' => ∀ ds vs G' H', t = .tup ds → Stp K M G H M' G' H' → Reps K G' vs ds → Q vs H'
def kT (K : PySem.W.Frag) (M : Mem) (G H : Hp) (Q : Bool → Hp → Prop) : Bool → Mem → Prop := fun b M' => ∀ G' H', Stp K M G H M' G' H' → Q b H'
end
def vOk : E → Bool
  | .brw _ => false | .ite _ a b => vOk a && vOk b | .and a b => vOk a && vOk b | .or a b => vOk a && vOk b | _ => true
def frOk : E → Bool
  | .lst _ => true | .comp .. => true | .bin .. => true | .b1 .list _ => true | .b1 .sorted _ => true | .cut .. => true | .ite _ a b => frOk a && frOk b | _ => false
def tE (EX : Nat → Addr) (W : WX) (K : PySem.W.Frag) (p : E) : TE := fun σ H Q => ∃ ρ M G, Bas K M G H ∧ EnvOk K ρ M G σ H ∧ (wp p ρ).run M (kE K (vOk p) (frOk p) M G H Q) (exW EX W K M G σ H)
def tA (EX : Nat → Addr) (W : WX) (K : PySem.W.Frag) (p : E) : TA := fun σ H Q => ∃ ρ M G, Bas K M G H ∧ EnvOk K ρ M G σ H ∧ (wp p ρ).run M (kA K M G H Q) (exW EX W K M G σ H)
def tT (EX : Nat → Addr) (W : WX) (K : PySem.W.Frag) (p : E) : TT := fun σ H Q => ∃ ρ M G, Bas K M G H ∧ EnvOk K ρ M G σ H ∧ (testP p ρ).run M (kT K M G H Q) (exW EX W K M G σ H)

theorem _root_.L2.PE.imp {X : Cx} {e : Expr} {t t' : TE} (h : PE X e t) (hi : ∀ σ H Q, t' σ H Q → t σ H Q) : PE X e t' := ⟨fun pins s σ H Q I q => h.run pins s σ H Q I (hi σ H Q q)⟩
theorem _root_.L2.PT.imp {X : Cx} {e : Expr} {t t' : TT} (h : PT X e t) (hi : ∀ σ H Q, t' σ H Q → t σ H Q) : PT X e t' := ⟨fun pins s σ H Q I q => h.run pins s σ H Q I (hi σ H Q q)⟩
theorem _root_.L2.PA.imp {X : Cx} {e : List Expr} {t t' : TA} (h : PA X e t) (hi : ∀ σ H Q, t' σ H Q → t σ H Q) : PA X e t' := ⟨fun pos pins s σ H Q I q => h.run pos pins s σ H Q I (hi σ H Q q)⟩

section
variable {EX : Nat → Addr} {W : WX} {K : PySem.W.Frag} {ρ : Slots} {M M1 : Mem} {G G1 H H1 : Hp} {σ : L2.St}
theorem exW_after (t : Stp K M G H M1 G1 H1) {k : Nat} {M' : Mem} (h : exW EX W K M G σ H k M') : exW EX W K M1 G1 σ H1 k M' := fun G' H' u => h G' H' (t.trans u)
theorem tE_of {p : E} {C : D → Mem → Prop} {Q : VK} {E0 : EK} (b : Bas K M G H) (e : EnvOk K ρ M G σ H) (h : (wp p ρ).run M C E0)
    (hC : ∀ d M' v G' H', C d M' → Stp K M G H M' G' H' → EnvOk K ρ M' G' σ H' → Res K (vOk p) (frOk p) H M' G' H' v d → Q v H') (hE : ∀ k M', E0 k M' → exW EX W K M G σ H k M') : tE EX W K p σ H Q :=
  ⟨ρ, M, G, b, e, (wp p ρ).mono (fun d M' c v G' H' t r => hC d M' v G' H' c t (e.step t) r) hE h⟩
/-- .. to be kept -/
theorem tE_val {p : E} {C : D → Mem → Prop} {Q : VK} {E0 : EK} (hv : vOk p = true) (b : Bas K M G H) (e : EnvOk K ρ M G σ H) (h : (wp p ρ).run M C E0)
    (hC : ∀ d M' v G' H', C d M' → Stp K M G H M' G' H' → EnvOk K ρ M' G' σ H' → Rep K G' v d → Q v H') (hE : ∀ k M', E0 k M' → exW EX W K M G σ H k M') : tE EX W K p σ H Q :=
  tE_of b e h (fun d M' v G' H' c t en r => by
    rw [hv] at r
    obtain ⟨G2, t2, g2, r2⟩ := r.freeze t
    exact hC d M' v G2 H' c t2 (e.step t2) r2) hE
theorem tA_of {p : E} {C : D → Mem → Prop} {Q : List V → Hp → Prop} {E0 : EK} (b : Bas K M G H) (e : EnvOk K ρ M G σ H) (h : (wp p ρ).run M C E0)
    (hC : ∀ ds M' vs G' H', C (.tup ds) M' → Stp K M G H M' G' H' → EnvOk K ρ M' G' σ H' → Reps K G' vs ds → Q vs H') (hE : ∀ k M', E0 k M' → exW EX W K M G σ H k M') : tA EX W K p σ H Q :=
  ⟨ρ, M, G, b, e, (wp p ρ).mono (fun d M' c ds vs G' H' z t r => hC ds M' vs G' H' (z ▸ c) t (e.step t) r) hE h⟩
theorem tT_of {p : E} {C : Bool → Mem → Prop} {Q : Bool → Hp → Prop} {E0 : EK} (b : Bas K M G H) (e : EnvOk K ρ M G σ H) (h : (testP p ρ).run M C E0)
    (hC : ∀ d M' G' H', C d M' → Stp K M G H M' G' H' → EnvOk K ρ M' G' σ H' → Q d H') (hE : ∀ k M', E0 k M' → exW EX W K M G σ H k M') : tT EX W K p σ H Q :=
  ⟨ρ, M, G, b, e, (testP p ρ).mono (fun d M' c G' H' t => hC d M' G' H' c t (e.step t)) hE h⟩
end

/-! ## equality of data -/
section
variable {K : PySem.W.Frag} {G H : Hp}
mutual
theorem sh_lay : ∀ (d : D) (n : Nat), shN n d → (toPy d).canLay0 = true ∧ (toPy d).depth ≤ n
  | .non, n, _ => by simp [toPy, PyData.canLay0, PyData.depth]
  | .bl _, n, _ => by simp [toPy, PyData.canLay0, PyData.depth]
  | .int _, n, _ => by simp [toPy, PyData.canLay0, PyData.depth]
  | .str x, n, h => by
    have h' : PyData.strOk x = true := by simpa [shN] using h
    simpa [toPy, PyData.canLay0, PyData.depth] using h'
  | .tup xs, 0, h => by simp [shN] at h
  | .lst xs, 0, h => by simp [shN] at h
  | .tup xs, n + 1, h => by
    have q := shs_lay xs n (by simpa [shN] using h)
    simp only [toPy, PyData.canLay0, PyData.depth]
    exact ⟨q.1, by omega⟩
  | .lst xs, n + 1, h => by
    have q := shs_lay xs n (by simpa [shN] using h)
    simp only [toPy, PyData.canLay0, PyData.depth]
    exact ⟨q.1, by omega⟩
  | .cell _, n, h => by simp [shN] at h
  | .scr _, n, h => by simp [shN] at h
theorem shs_lay : ∀ (ds : List D) (n : Nat), (∀ d ∈ ds, shN n d) → PyData.canLayAll0 (toPys ds) = true ∧ PyData.depthAll (toPys ds) ≤ n
  | [], n, _ => by simp [toPys, PyData.canLayAll0, PyData.depthAll]
  | d :: ds, n, h => by
    have a := sh_lay d n (h d List.mem_cons_self)
    have b := shs_lay ds n (fun x hx => h x (List.mem_cons_of_mem _ hx))
    simp only [toPys, PyData.canLayAll0, PyData.depthAll, Bool.and_eq_true]
    exact ⟨⟨a.1, b.1⟩, by omega⟩
end
mutual
theorem Rep.dp (g : Same G H) : ∀ {d : D} {v : V} {n : Nat}, Rep K G v d → shN n d → Dp K H v (toPy d)
  | .non, _, _, h, _ => by cases h; exact .non
  | .bl b, _, _, h, _ => by cases h; exact .bl b
  | .int i, _, _, h, _ => by cases h; exact .int i
  | .str x, _, _, h, _ => by cases h; exact .str x
  | .tup ds, _, 0, h, s => by simp [shN] at s
  | .lst ds, _, 0, h, s => by simp [shN] at s
  | .tup ds, _, n + 1, h, s => by
    cases h with
    | tup e r => exact .tup (SqT.of (g _ _ e)) (Reps.dps g r (by simpa [shN] using s))
  | .lst ds, _, n + 1, h, s => by
    cases h with
    | lst e r => exact .lst (SqL.of (g _ _ e)) (Reps.dps g r (by simpa [shN] using s))
  | .cell a, _, _, h, s => by simp [shN] at s
  | .scr ns, _, _, h, s => by simp [shN] at s
theorem Reps.dps (g : Same G H) : ∀ {ds : List D} {vs : List V} {n : Nat}, Reps K G vs ds → (∀ d ∈ ds, shN n d) → DpAll K H vs (toPys ds)
  | [], _, _, h, _ => by cases h; exact .nil
  | d :: ds, _, _, h, s => by
    cases h with
    | cons e r => exact .cons (Rep.dp g e (s d List.mem_cons_self)) (Reps.dps g r fun x hx => s x (List.mem_cons_of_mem _ hx))
end
theorem sh_mono : ∀ {n : Nat} {m : Nat} {d : D}, n ≤ m → shN n d → shN m d
  | n, m, .non, _, _ => by cases m <;> simp [shN]
  | n, m, .bl _, _, _ => by cases m <;> simp [shN]
  | n, m, .int _, _, _ => by cases m <;> simp [shN]
  | n, m, .str x, _, h => by
    have h' : PyData.strOk x = true := by simpa [shN] using h
    cases m <;> simpa [shN] using h'
  | 0, m, .tup _, _, h => by simp [shN] at h
  | 0, m, .lst _, _, h => by simp [shN] at h
  | n + 1, 0, .tup _, l, h => absurd l (by omega)
  | n + 1, 0, .lst _, l, h => absurd l (by omega)
  | n + 1, m + 1, .tup xs, l, h => by
    simp only [shN] at h ⊢
    exact fun x hx => sh_mono (by omega) (h x hx)
  | n + 1, m + 1, .lst xs, l, h => by
    simp only [shN] at h ⊢
    exact fun x hx => sh_mono (by omega) (h x hx)
  | n, m, .cell _, _, h => by simp [shN] at h
  | n, m, .scr _, _, h => by simp [shN] at h
theorem sh_shaped {d : D} (h : shN 64 d) : SeqAt.shaped (toPy d) = true := by
  obtain ⟨a, b⟩ := sh_lay d 64 h
  unfold SeqAt.shaped
  rw [a, decide_eq_true b]
  rfl
theorem flat_py {d e : D} (hd : flatD d = true) (he : flatD e = true) {v u : V} (rv : Rep K G v d) (ru : Rep K G u e) : (scal v u = true ∧ decide (v = u) = pyEq d e) ∨ (shN 64 d ∧ shN 64 e) := by
  cases rv <;> simp [flatD] at hd <;> cases ru <;> simp [flatD] at he <;> first
    | (right; simp [shN]; done)
    | exact .inl ⟨rfl, dec_int⟩
    | exact .inl ⟨rfl, dec_bl⟩
    | exact .inl ⟨rfl, dec_str⟩
    | exact .inl ⟨rfl, (decide_eq_false (fun z => nomatch z)).trans rfl⟩
end
section
variable {X : Cx}
def rEqA (K : PySem.W.Frag) (neg : Bool) : R2 := fun x y H Q => if neg then (rNe x y H Q ∨ rNeD K x y H Q) else (rEq x y H Q ∨ rEqD K x y H Q)
theorem op_eqA (hu : X.A.units + 64 < cLine) : OpR X (compareOp .Eq) (rEqA X.K false) := op_eq.or (op_eqD hu)
theorem op_neA (hu : X.A.units + 64 < cLine) : OpR X (compareOp .NotEq) (rEqA X.K true) := op_ne.or (op_neD hu)
theorem eq_use {K : PySem.W.Frag} {G H : Hp} (g : Same G H) {d e : D} {v u : V} (rv : Rep K G v d) (ru : Rep K G u e) (ok : eqOk d e) {neg : Bool} {Q : VK} (q : Q (.bl (if neg then !pyEq d e else pyEq d e)) H) : rEqA K neg v u H Q := by
  have deep : shN 64 d → shN 64 e → rEqA K neg v u H Q := fun s1 s2 => by
    unfold rEqA
    cases neg with
    | true => exact .inr ⟨_, _, rv.dp g s1, ru.dp g s2, sh_shaped s1, sh_shaped s2, q⟩
    | false => exact .inr ⟨_, _, rv.dp g s1, ru.dp g s2, sh_shaped s1, sh_shaped s2, q⟩
  rcases ok with ⟨h1, h2⟩ | ⟨h1, h2⟩
  · rcases flat_py h1 h2 rv ru with ⟨a, b⟩ | ⟨a, b⟩
    · unfold rEqA
      cases neg with
      | true => exact .inl ⟨a, by rw [b]; exact q⟩
      | false => exact .inl ⟨a, by rw [b]; exact q⟩
    · exact deep a b
  · exact deep h1 h2
/-- in, not in, of data at any depth, in a list or a tuple -/
def rInX (K : PySem.W.Frag) (neg : Bool) : R2 := fun x y H Q => ∃ d ds, Dp K H x d ∧ (Dp K H y (.list ds) ∨ Dp K H y (.tuple ds)) ∧ d.canLay0 = true ∧ PyData.canLayAll0 ds = true ∧ d.depth ≤ 63 ∧ Q (.bl (if neg then !(ds.any fun z => PyData.eqv z d) else ds.any fun z => PyData.eqv z d)) H
theorem op_inX (hu : X.A.units + 65 < cLine) : OpR X (compareOp .In) (rInX X.K false) := by
  intro pins s σ H x y v u Q I rx ry h
  obtain ⟨d, ds, hd, he, c1, c2, dd, q⟩ := h
  obtain ⟨as, r1⟩ := Dp.reads I d x v hd rx
  have room : X.A.units + 1 + min (PyData.depthAll ds) d.depth < cLine := by omega
  rcases he with he | he
  · obtain ⟨bs, r2⟩ := Dp.reads I (.list ds) y u he ry
    exact SeqAt.in_list_reads r2 r1 c2 c1 room ⟨.bl _, H, I, rfl, q⟩
  · obtain ⟨bs, r2⟩ := Dp.reads I (.tuple ds) y u he ry
    exact SeqAt.in_tuple_reads r2 r1 c2 c1 room ⟨.bl _, H, I, rfl, q⟩
theorem op_ninX (hu : X.A.units + 65 < cLine) : OpR X (compareOp .NotIn) (rInX X.K true) := by
  intro pins s σ H x y v u Q I rx ry h
  obtain ⟨d, ds, hd, he, c1, c2, dd, q⟩ := h
  obtain ⟨as, r1⟩ := Dp.reads I d x v hd rx
  have room : X.A.units + 1 + min (PyData.depthAll ds) d.depth < cLine := by omega
  rcases he with he | he
  · obtain ⟨bs, r2⟩ := Dp.reads I (.list ds) y u he ry
    exact SeqAt.notIn_list_reads r2 r1 c2 c1 room ⟨.bl _, H, I, rfl, q⟩
  · obtain ⟨bs, r2⟩ := Dp.reads I (.tuple ds) y u he ry
    exact SeqAt.notIn_tuple_reads r2 r1 c2 c1 room ⟨.bl _, H, I, rfl, q⟩
theorem toPys_any (x : D) : ∀ ds : List D, ((toPys ds).any fun z => PyData.eqv z (toPy x)) = inD x ds
  | [] => rfl
  | d :: ds => by
    show (PyData.eqv (toPy d) (toPy x) || (toPys ds).any _) = _
    rw [toPys_any x ds]
    rfl
def rInA (K : PySem.W.Frag) (neg : Bool) : R2 := fun x y H Q => rIn K neg x y H Q ∨ rInX K neg x y H Q
theorem op_inA (hu : X.A.units + 65 < cLine) : OpR X (compareOp .In) (rInA X.K false) := op_in_seq.or (op_inX hu)
theorem op_ninA (hu : X.A.units + 65 < cLine) : OpR X (compareOp .NotIn) (rInA X.K true) := op_notIn_seq.or (op_ninX hu)
theorem flat_V {K : PySem.W.Frag} {G : Hp} {d : D} {v : V} (h : Rep K G v d) (f : flatD d = true) : flatV v = true := by
  cases h <;> simp [flatD] at f <;> rfl
theorem flats_V {K : PySem.W.Frag} {G : Hp} : ∀ {ds : List D} {vs : List V}, Reps K G vs ds → (∀ d ∈ ds, flatD d = true) → vs.all flatV = true
  | _, _, .nil, _ => rfl
  | _, _, .cons a r, f => by
    rw [List.all_cons, flat_V a (f _ List.mem_cons_self), flats_V r fun d h => f d (List.mem_cons_of_mem _ h)]
    rfl
theorem eqV_py {K : PySem.W.Frag} {G : Hp} {d e : D} {v u : V} (rv : Rep K G v d) (ru : Rep K G u e) (hd : flatD d = true) (he : flatD e = true) : eqV v u = pyEq d e := by
  cases rv <;> simp [flatD] at hd <;> cases ru <;> simp [flatD] at he <;> rfl
theorem inV_py {K : PySem.W.Frag} {G : Hp} {x : D} {v : V} (rv : Rep K G v x) (fx : flatD x = true) : ∀ {ds : List D} {vs : List V}, Reps K G vs ds → (∀ d ∈ ds, flatD d = true) → (vs.any fun y => eqV y v) = inD x ds
  | _, _, .nil, _ => rfl
  | _, _, .cons a r, f => by
    show (eqV _ v || _) = (pyEq _ x || _)
    rw [eqV_py a rv (f _ List.mem_cons_self) fx, inV_py rv fx r fun d h => f d (List.mem_cons_of_mem _ h)]
    rfl
end
end PL
set_option Elab.async false
set_option linter.all false
set_option maxRecDepth 100000
set_option maxHeartbeats 1000000
namespace PL
open L2 PySem PyProof.Rows PySem.Spec

/-! ## truth -/
section
variable {K : PySem.W.Frag} {v0 f0 : Bool} {H0 : Hp} {M : Mem} {G H : Hp} {E : EK} {v u : V} {d e : D}
theorem isEmpty_reps {vs : List V} {ds : List D} (r : Reps K G vs ds) : vs.isEmpty = ds.isEmpty := by
  cases r <;> rfl
theorem tru_use {C : Bool → Mem → Prop} (h : (truP d).run M C E) (b : Bas K M G H) (r : Res K v0 f0 H0 M G H v d) : ∃ t, C t M ∧ TruV K v H t := by
  obtain ⟨hs, h⟩ := (show strFits d ∧ (PM.opt (truF M d)).run M C E from h)
  cases d with
  | lst xs =>
    obtain ⟨a, vs, rfl, e, q⟩ := r.lst b
    exact ⟨_, h, .inl ⟨vs, SqL.of e, by rw [isEmpty_reps q]⟩⟩
  | non => cases r.nolst (fun _ z => nomatch z); exact ⟨_, h, rfl⟩
  | bl t => cases r.nolst (fun _ z => nomatch z); exact ⟨_, h, rfl⟩
  | int i => cases r.nolst (fun _ z => nomatch z); exact ⟨_, h, rfl⟩
  | str x => cases r.nolst (fun _ z => nomatch z); exact ⟨_, h, hs, rfl⟩
  | tup xs =>
    cases r.nolst (fun _ z => nomatch z) with
    | tup e q => exact ⟨_, h, .inr (.inl ⟨_, SqT.of (b.sub _ _ e), by rw [isEmpty_reps q]⟩)⟩
  | scr ns =>
    cases r.nolst (fun _ z => nomatch z) with
    | scr q => exact ⟨_, h, .inl ⟨_, b.sub.seq q, by cases ns <;> rfl⟩⟩
  | cell a =>
    cases r.nolst (fun _ z => nomatch z)
    cases m : M a with
    | none => rw [truF, m] at h; exact False.elim h
    | some c =>
      cases c with
      | lst xs =>
        rw [truF, m] at h
        obtain ⟨_, _, vs, e, q⟩ := b.cells a _ m
        exact ⟨_, h, .inl ⟨vs, SqL.of e, by rw [isEmpty_reps q]⟩⟩
      | aux => rw [truF, m] at h; exact False.elim h
      | ins => rw [truF, m] at h; exact False.elim h
      | dct => rw [truF, m] at h; exact False.elim h
end

/-! ## binary operators -/
def boOp : Bo → Operator | .add => .Add | .sub => .Sub | .mul => .Mult | .fdiv => .FloorDiv | .mod => .Mod
/-- () * k is () -/
theorem tuple_mul0 (l : Addr) (n : Nat) (dd : Option Addr) (sl : Array (Option Value)) (x : Int) (u : Tok) (c0 : (decide (x < -(2 ^ 63)) || decide (x ≥ 2 ^ 63)) = false) :
    Meets (Builtin.«tuple.__mul__» ⟨[.ref l, .int x u], []⟩) (fun _ R s => s.heap.get? l = some { cls := .type "tuple", dict := dd, data := .seq #[] n, slots := sl } ∧
      R (.ok (.ret (Value.ref l))) s) :=
  .of_wp fun prog w A R s h => by
    obtain ⟨hp, g, d, tk, os⟩ := s
    obtain ⟨hl, h⟩ := h
    have f1 := AutoSeq1.idx_int
    wp_walk using wpAny_loadPart' hl
    repeat (first
      | (refine wpAny_ite_false (decide_eq_false (by rw [c0]; exact Bool.false_ne_true)) ?_; wp_walk using wpAny_loadPart' hl)
      | (refine wpAny_ite_true rfl ?_; wp_walk using wpAny_loadPart' hl))
    exact ⟨_, rfl, h⟩
def rRep0 (K : PySem.W.Frag) : R2 := fun x y H Q => ∃ l k, x = .ref l ∧ y = .int k ∧ SqT K H l [] ∧ 2 ≤ k ∧ k ≤ 1000 ∧ Q (.ref l) H
theorem op_rep0 {X : Cx} : OpR X (binaryOp .Mult) (rRep0 X.K) := by
  intro pins s σ H x y v u Q I rx ry h
  obtain ⟨l, k, rfl, rfl, hT, h1, h2, q⟩ := h
  cases rx
  obtain ⟨t, rfl⟩ := ry
  obtain ⟨its, r, ⟨⟨cls, dd, data, sl⟩, ho, hc, n, hd⟩, hs⟩ := I.tuple hT
  simp only at hc hd
  subst hc hd
  cases r
  have c0 : (decide (k < -(2 ^ 63)) || decide (k ≥ 2 ^ 63)) = false := by
    rw [decide_eq_false (by omega), decide_eq_false (by omega)] <;> rfl
  refine wpAny_binaryOp_repeat_ref (T := "tuple") (U := "int") (by decide) ⟨_, ho, rfl⟩ (fun s' => typeIs_int s' k t) noFill_tuple_mul F.fills_int_mul F.slot_int_rmul repeat_tuple F.slot_int_index.lookup
    (call_meets F.slot_int_rmul (typeIs_int s k t) F.entry_int_rmul (F.args_int_rmul_2 _ _) (int_rmul_tuple k t l _ n dd sl)
      ⟨ho, rfl, ⟨_, ho, rfl⟩, call_meets F.slot_tuple_mul ⟨_, ho, rfl⟩ F.entry_tuple_mul (F.args_tuple_mul_2 _ _) (tuple_mul0 l n dd sl k t c0) ⟨ho, ?_⟩⟩)
  exact ⟨.ref l, H, I, rfl, q⟩
def rBI (f : Int → Int → Int) : R2 := fun x y H Q => ∃ b j, x = .bl b ∧ y = .int j ∧ Q (.int (f (if b = true then 1 else 0) j)) H
theorem op_addBI {X : Cx} : OpR X (binaryOp .Add) (rBI fun i j => i + j) := by
  intro pins s σ H x y v u Q I rx ry h
  obtain ⟨b, j, rfl, rfl, q⟩ := h
  cases rx
  obtain ⟨t, rfl⟩ := ry
  exact PySem.IntBool.add_bool_int ⟨.int _, H, I.tok _, ⟨_, rfl⟩, q⟩
theorem op_subBI {X : Cx} : OpR X (binaryOp .Sub) (rBI fun i j => i - j) := by
  intro pins s σ H x y v u Q I rx ry h
  obtain ⟨b, j, rfl, rfl, q⟩ := h
  cases rx
  obtain ⟨t, rfl⟩ := ry
  exact PySem.IntBool.sub_bool_int ⟨.int _, H, I.tok _, ⟨_, rfl⟩, q⟩
def BoR (K : PySem.W.Frag) : Bo → R2
  | .add => fun x y H Q => (((rI0 (fun i j => .int (i + j)) x y H Q ∨ rBI (fun i j => i + j) x y H Q) ∨ (∃ i j, x = .str i ∧ y = .str j ∧ i.length + j.length ≤ sizeLine ∧ Q (.str (i ++ j)) H)) ∨ rCatA K x y H Q) ∨ rCat x y H Q
  | .sub => fun x y H Q => rI0 (fun i j => .int (i - j)) x y H Q ∨ rBI (fun i j => i - j) x y H Q
  | .mul => fun x y H Q => (rI CMul (fun i j => .int (i * j)) x y H Q ∨ rRep x y H Q) ∨ (rRepT K x y H Q ∨ rRep0 K x y H Q)
  | .fdiv => rI CDiv fun i j => .int (i / j)
  | .mod => rI (fun _ j => 0 < j) fun i j => .int (i % j)
theorem boR_ok {X : Cx} : ∀ o : Bo, OpR X (binaryOp (boOp o)) (BoR X.K o)
  | .add => (((op_add.or op_addBI).or op_add_str).or op_catA).or op_cat
  | .sub => op_sub.or op_subBI
  | .mul => (op_mul.or op_rep).or (op_repT.or op_rep0)
  | .fdiv => op_fdiv
  | .mod => op_mod
theorem flatten_ne {α : Type} {xs : List α} (h : xs ≠ []) {k : Nat} (hk : 1 ≤ k) : (List.replicate k xs).flatten ≠ [] := by
  cases k with
  | zero => omega
  | succ k =>
    rw [List.replicate_succ, List.flatten_cons]
    exact fun z => h (List.append_eq_nil_iff.mp z).1
section
variable {K : PySem.W.Frag} {v0 f0 v1 f1 v2 f2 : Bool} {Ha Hb : Hp} {M M1 : Mem} {G H G1 H1 : Hp} {E : EK} {x y : V} {d e : D} {Q : VK}
/-- a value that is there for good is what is wanted -/
theorem kE_rep {r : D} {v : V} {G2 H2 : Hp} {M2 : Mem} (k : kE K v0 f0 M G H Q r M2) (t : Stp K M G H M2 G2 H2) (h : Rep K G2 v r) (n : ∀ xs, r ≠ .lst xs) : Q v H2 := k v G2 H2 t (.rep h fun _ => n)
theorem kE_newT {ds : List D} {vs : List V} {p : Addr} (k : kE K v0 f0 M G H Q (.tup ds) M1) (t : Stp K M G H M1 G1 H1) (r : Reps K G1 vs ds) (n : H1 p = none) : Q (.ref p) (upd H1 p (.tup vs)) :=
  kE_rep k (t.trans (Stp.newF t.bas n)) (.tup upd_same (r.mono (Same.upd (t.bas.free n).1))) fun _ z => nomatch z
theorem kE_newL {ds : List D} {vs : List V} {p : Addr} (k : kE K true f0 M G H Q (.lst ds) M1) (t : Stp K M G H M1 G1 H1) (r : Reps K G1 vs ds) (n : H1 p = none) : Q (.ref p) (upd H1 p (.lst vs)) :=
  k _ G1 _ (t.trans (Stp.new t.bas n)) (Res.new t.bas n r fun _ => t.old n)
theorem bo_use {o : Bo} (h : (boP o d e).run M1 (kE K true f0 M G H Q) E) (t : Stp K M G H M1 G1 H1) (rx : Res K v1 f1 Ha M1 G1 H1 x d) (ry : Res K v2 f2 Hb M1 G1 H1 y e) : BoR K o x y H1 Q := by
  have b := t.bas
  have twoI : ∀ {i j : Int} {f : Int → Int → Int}, d = .int i → e = .int j → kE K true f0 M G H Q (.int (f i j)) M1 → rI0 (fun i j => .int (f i j)) x y H1 Q := by
    rintro i j f rfl rfl k
    cases rx.nolst (fun _ z => nomatch z)
    cases ry.nolst (fun _ z => nomatch z)
    exact ⟨i, j, rfl, rfl, kE_rep k t (.int _) fun _ z => nomatch z⟩
  have twoB : ∀ {i : Bool} {j : Int} {f : Int → Int → Int}, d = .bl i → e = .int j → kE K true f0 M G H Q (.int (f (if i = true then 1 else 0) j)) M1 → rBI f x y H1 Q := by
    rintro i j f rfl rfl k
    cases rx.nolst (fun _ z => nomatch z)
    cases ry.nolst (fun _ z => nomatch z)
    exact ⟨i, j, rfl, rfl, kE_rep k t (.int _) fun _ z => nomatch z⟩
  have twoC : ∀ {i j : Int} {f : Int → Int → Int} {C : Int → Int → Prop}, d = .int i → e = .int j → C i j → kE K true f0 M G H Q (.int (f i j)) M1 → rI C (fun i j => .int (f i j)) x y H1 Q := by
    rintro i j f C rfl rfl c k
    cases rx.nolst (fun _ z => nomatch z)
    cases ry.nolst (fun _ z => nomatch z)
    exact ⟨i, j, rfl, rfl, c, kE_rep k t (.int _) fun _ z => nomatch z⟩
  cases o with
  | add =>
    cases d <;> cases e <;> first | exact False.elim h | skip
    case int.int i j => exact .inl (.inl (.inl (.inl (twoI rfl rfl h))))
    case bl.int i j => exact .inl (.inl (.inl (.inr (twoB rfl rfl h))))
    case str.str i j =>
      cases rx.nolst (fun _ z => nomatch z)
      cases ry.nolst (fun _ z => nomatch z)
      exact .inl (.inl (.inr ⟨i, j, rfl, rfl, h.1, kE_rep h.2 t (.str _) fun _ z => nomatch z⟩))
    case tup.tup xs ys =>
      have qx := rx.nolst (fun _ z => nomatch z)
      have qy := ry.nolst (fun _ z => nomatch z)
      obtain ⟨hl, k⟩ := h
      cases qx with
      | tup ex qx =>
        cases qy with
        | tup ey qy =>
          refine .inl (.inr ⟨_, _, _, _, rfl, rfl, SqT.of (b.sub _ _ ex), SqT.of (b.sub _ _ ey), by rw [qx.length, qy.length]; exact hl, fun z => ?_, fun _ z => ?_, fun _ _ p n => kE_newT k t (qx.append qy) n⟩)
          · subst z
            cases qx
            exact kE_rep k t (.tup ey qy) fun _ z => nomatch z
          · subst z
            cases qy
            rw [List.append_nil] at k
            exact kE_rep k t (.tup ex qx) fun _ z => nomatch z
    case lst.lst xs ys =>
      obtain ⟨hl, k⟩ := h
      obtain ⟨a, vs, rfl, ex, qx⟩ := rx.lst b
      obtain ⟨c, us, rfl, ey, qy⟩ := ry.lst b
      exact .inr ⟨a, c, vs, us, rfl, rfl, ex, ey, by rw [qx.length, qy.length]; exact hl, fun p n => kE_newL k t (qx.append qy) n⟩
  | sub =>
    cases d <;> cases e <;> first | exact False.elim h | skip
    case int.int i j => exact .inl (twoI rfl rfl h)
    case bl.int i j => exact .inr (twoB rfl rfl h)
  | mul =>
    cases d <;> cases e <;> first | exact False.elim h | skip
    case int.int i j => exact .inl (.inl (twoC rfl rfl h.1 h.2))
    case lst.int xs k =>
      obtain ⟨⟨h0, h1, h2⟩, q⟩ := h
      obtain ⟨a, vs, rfl, ex, qx⟩ := rx.lst b
      cases ry.nolst (fun _ z => nomatch z)
      exact .inl (.inr ⟨a, k, vs, rfl, rfl, ex, by omega, h1, by rw [qx.length]; exact h2, fun p n => kE_newL q t (qx.rep _) n⟩)
    case tup.int xs k =>
      obtain ⟨⟨h1, h2, h3⟩, q⟩ := h
      have qx := rx.nolst (fun _ z => nomatch z)
      cases ry.nolst (fun _ z => nomatch z)
      by_cases h0 : xs = []
      · subst h0
        rw [show (List.replicate k.toNat ([] : List D)).flatten = [] by simp] at q
        cases qx with
        | tup ex qx =>
          cases qx
          exact .inr (.inr ⟨_, k, rfl, rfl, SqT.of (b.sub _ _ ex), h1, h2, kE_rep q t (.tup ex .nil) fun _ z => nomatch z⟩)
      · cases qx with
        | tup ex qx =>
          refine .inr (.inl ⟨_, k, _, rfl, rfl, SqT.of (b.sub _ _ ex), fun z => h0 ?_, h1, h2, by rw [qx.length]; exact h3, fun p n => kE_newT q t (qx.rep _) n⟩)
          subst z
          cases qx
          rfl
  | fdiv =>
    cases d <;> cases e <;> first | exact False.elim h | skip
    case int.int i j => exact twoC rfl rfl h.1 h.2
  | mod =>
    cases d <;> cases e <;> first | exact False.elim h | skip
    case int.int i j => exact twoC (C := fun _ j => 0 < j) rfl rfl h.1 h.2
end

/-! ## comparisons -/
def coOp : Co → CmpOp | .eq => .Eq | .ne => .NotEq | .lt => .Lt | .le => .LtE | .gt => .Gt | .ge => .GtE | .isin => .In | .notin => .NotIn
def rLeS : R2 := fun x y H Q => ∃ i j, x = .str i ∧ y = .str j ∧ Q (.bl (!decide (j.cps.toList < i.cps.toList))) H
def rLtD (K : PySem.W.Frag) : R2 := fun x y H Q => ∃ d e, Dp K H x d ∧ Dp K H y e ∧ PySem.W.alike d e = true ∧ d ≠ .none ∧ d.depth ≤ 60 ∧ Q (.bl (PySem.W.dataLt d e)) H
def rGtD (K : PySem.W.Frag) : R2 := fun x y H Q => ∃ d e, Dp K H x d ∧ Dp K H y e ∧ PySem.W.alike d e = true ∧ d ≠ .none ∧ d.depth ≤ 60 ∧ Q (.bl (PySem.W.dataLt e d)) H
theorem op_ltD {X : Cx} (hu : X.A.units + 65 < cLine) : OpR X (compareOp .Lt) (rLtD X.K) := by
  intro pins s σ H x y v u Q I rx ry h
  obtain ⟨d, e, hd, he, ha, hn, hl, q⟩ := h
  obtain ⟨as, r1⟩ := Dp.reads I d x v hd rx
  obtain ⟨bs, r2⟩ := Dp.reads I e y u he ry
  exact PySem.W.lt_data r1 r2 ha hn (by omega) ⟨.bl _, H, I, rfl, q⟩
theorem op_gtD {X : Cx} (hu : X.A.units + 65 < cLine) : OpR X (compareOp .Gt) (rGtD X.K) := by
  intro pins s σ H x y v u Q I rx ry h
  obtain ⟨d, e, hd, he, ha, hn, hl, q⟩ := h
  obtain ⟨as, r1⟩ := Dp.reads I d x v hd rx
  obtain ⟨bs, r2⟩ := Dp.reads I e y u he ry
  exact PySem.W.gt_data r1 r2 ha hn (by omega) ⟨.bl _, H, I, rfl, q⟩
def CoR (K : PySem.W.Frag) : Co → R2
  | .eq => rEqA K false | .ne => rEqA K true
  | .lt => fun x y H Q => rI0 (fun i j => .bl (decide (i < j))) x y H Q ∨ rLtD K x y H Q
  | .le => fun x y H Q => rI0 (fun i j => .bl (decide (i ≤ j))) x y H Q ∨ rLeS x y H Q
  | .gt => fun x y H Q => rI0 (fun i j => .bl (decide (j < i))) x y H Q ∨ rGtD K x y H Q
  | .ge => rI0 fun i j => .bl (decide (j ≤ i))
  | .isin => rInA K false | .notin => rInA K true
theorem coR_ok {X : Cx} (hu : X.A.units + 65 < cLine) : ∀ o : Co, OpR X (compareOp (coOp o)) (CoR X.K o)
  | .eq => op_eqA (by omega) | .ne => op_neA (by omega) | .lt => op_lt.or (op_ltD hu) | .le => op_le.or op_le_str | .gt => op_gt.or (op_gtD hu) | .ge => op_ge | .isin => op_inA hu | .notin => op_ninA hu
section
variable {K : PySem.W.Frag} {v1 f1 v2 f2 : Bool} {Ha Hb : Hp} {M1 : Mem} {G1 H1 : Hp} {E : EK} {x y : V} {d e : D}
theorem Res.froz (r : Res K v1 f1 Ha M1 G1 H1 x d) (b : Bas K M1 G1 H1) : ∃ G2, Same G1 G2 ∧ Same G2 H1 ∧ Rep K G2 x d := by
  rcases r with ⟨h, _⟩ | ⟨a, vs, xs, rfl, rfl, h1, h2, h3, r, _⟩
  · exact ⟨G1, Same.refl _, b.sub, h⟩
  · exact ⟨_, Same.upd h2, (b.frz h1 h3 h2).sub, .lst upd_same (r.mono (Same.upd h2))⟩
/-- two results together in one frozen part -/
theorem Res.froz2 (rx : Res K v1 f1 Ha M1 G1 H1 x d) (ry : Res K v2 f2 Hb M1 G1 H1 y e) (b : Bas K M1 G1 H1) : ∃ G2, Same G2 H1 ∧ Rep K G2 x d ∧ Rep K G2 y e := by
  rcases rx with ⟨h, _⟩ | ⟨a, vs, xs, rfl, rfl, h1, h2, h3, r, _⟩
  · obtain ⟨G2, s1, s2, r2⟩ := ry.froz b
    exact ⟨G2, s2, h.mono s1, r2⟩
  · have b2 := b.frz h1 h3 h2
    have rx2 : Rep K (upd G1 a (.lst vs)) (.ref a) (.lst xs) := .lst upd_same (r.mono (Same.upd h2))
    rcases ry with ⟨h', _⟩ | ⟨a', vs', xs', rfl, rfl, h1', h2', h3', r', _⟩
    · exact ⟨_, b2.sub, rx2, h'.mono (Same.upd h2)⟩
    · by_cases z : a' = a
      · subst z
        rw [h1] at h1'
        cases h1'
        exact ⟨_, b2.sub, rx2, .lst upd_same (r'.mono (Same.upd h2))⟩
      · have g' : upd G1 a (.lst vs) a' = none := by rw [upd_ne z]; exact h2'
        exact ⟨_, (b2.frz h1' h3' g').sub, rx2.mono (Same.upd g'), .lst upd_same ((r'.mono (Same.upd h2)).mono (Same.upd g'))⟩
theorem in_use {neg : Bool} {xs : List D} (b : Bas K M1 G1 H1) (rx : Res K v1 f1 Ha M1 G1 H1 x d) (hy : (∃ a vs, y = .ref a ∧ (SqL K H1 a vs ∧ H1 a = some (.lst vs) ∨ SqT K H1 a vs ∧ G1 a = some (.tup vs)) ∧ Reps K G1 vs xs))
    (ok : inOk d xs) {Q : VK} (q : Q (.bl (if neg then !inD d xs else inD d xs)) H1) : rInA K neg x y H1 Q := by
  obtain ⟨a, vs, rfl, hs, rv⟩ := hy
  rcases ok with ⟨f1, f2⟩ | ⟨s1, s2⟩
  · refine .inl ⟨a, vs, rfl, hs.imp And.left And.left, ?_, flats_V rv f2, ?_⟩
    · exact flat_V (rx.nolst (fun _ z => by rw [z] at f1; cases f1)) f1
    · have e : inV x vs = inD d xs := inV_py (rx.nolst (fun _ z => by rw [z] at f1; cases f1)) f1 rv f2
      rw [e]
      exact q
  · obtain ⟨G2, g1, g2, r2⟩ := rx.froz b
    have hl := shs_lay xs 60 s2
    have hd := sh_lay d 60 s1
    refine .inr ⟨toPy d, toPys xs, r2.dp g2 s1, ?_, hd.1, hl.1, by omega, by rw [toPys_any]; exact q⟩
    rcases hs with ⟨hs, _⟩ | ⟨hs, _⟩
    · exact .inl (.lst hs (rv.dps b.sub s2))
    · exact .inr (.tup hs (rv.dps b.sub s2))
theorem co_use {o : Co} {C : D → Mem → Prop} (h : (coP o d e).run M1 C E) (b : Bas K M1 G1 H1) (rx : Res K v1 f1 Ha M1 G1 H1 x d) (ry : Res K v2 f2 Hb M1 G1 H1 y e) : ∃ t, C (.bl t) M1 ∧ ∀ Q : VK, Q (.bl t) H1 → CoR K o x y H1 Q := by
  have twoI : ∀ {i j : Int} {f : Int → Int → Bool}, d = .int i → e = .int j → ∀ Q : VK, Q (.bl (f i j)) H1 → rI0 (fun i j => .bl (f i j)) x y H1 Q := by
    rintro i j f rfl rfl Q k
    cases rx.nolst (fun _ z => nomatch z)
    cases ry.nolst (fun _ z => nomatch z)
    exact ⟨i, j, rfl, rfl, k⟩
  have seqs : ∀ {xs : List D}, e = .lst xs ∨ e = .tup xs → ∃ a vs, y = .ref a ∧ (SqL K H1 a vs ∧ H1 a = some (.lst vs) ∨ SqT K H1 a vs ∧ G1 a = some (.tup vs)) ∧ Reps K G1 vs xs := by
    rintro xs (rfl | rfl)
    · obtain ⟨a, vs, e, h1, r⟩ := ry.lst b
      exact ⟨a, vs, e, .inl ⟨SqL.of h1, h1⟩, r⟩
    · cases ry.nolst (fun _ z => nomatch z) with
      | tup e r => exact ⟨_, _, rfl, .inr ⟨SqT.of (b.sub _ _ e), e⟩, r⟩
  cases o with
  | eq =>
    obtain ⟨ok, k⟩ := h
    obtain ⟨G2, g, r1, r2⟩ := rx.froz2 ry b
    exact ⟨_, k, fun Q q => eq_use g r1 r2 ok (neg := false) q⟩
  | ne =>
    obtain ⟨ok, k⟩ := h
    obtain ⟨G2, g, r1, r2⟩ := rx.froz2 ry b
    exact ⟨_, k, fun Q q => eq_use g r1 r2 ok (neg := true) q⟩
  | lt =>
    cases d <;> cases e <;> first | exact False.elim h | skip
    case int.int i j => exact ⟨_, h, fun Q q => .inl (twoI (f := fun i j => decide (i < j)) rfl rfl Q q)⟩
    case tup.tup xs ys =>
      obtain ⟨⟨s1, s2, al⟩, k⟩ := (show ltOk _ _ ∧ _ from h)
      obtain ⟨G2, g, r1, r2⟩ := rx.froz2 ry b
      exact ⟨_, k, fun Q q => .inr ⟨_, _, r1.dp g s1, r2.dp g s2, al, (fun z => nomatch z), (sh_lay _ 60 s1).2, q⟩⟩
  | le =>
    cases d <;> cases e <;> first | exact False.elim h | skip
    case int.int i j => exact ⟨_, h, fun Q q => .inl (twoI (f := fun i j => decide (i ≤ j)) rfl rfl Q q)⟩
    case str.str i j =>
      cases rx.nolst (fun _ z => nomatch z)
      cases ry.nolst (fun _ z => nomatch z)
      exact ⟨_, h, fun Q q => .inr ⟨i, j, rfl, rfl, q⟩⟩
  | gt =>
    cases d <;> cases e <;> first | exact False.elim h | skip
    case int.int i j => exact ⟨_, h, fun Q q => .inl (twoI (f := fun i j => decide (j < i)) rfl rfl Q q)⟩
    case tup.tup xs ys =>
      obtain ⟨⟨s1, s2, al⟩, k⟩ := (show ltOk _ _ ∧ _ from h)
      obtain ⟨G2, g, r1, r2⟩ := rx.froz2 ry b
      exact ⟨_, k, fun Q q => .inr ⟨_, _, r1.dp g s1, r2.dp g s2, al, (fun z => nomatch z), (sh_lay _ 60 s1).2, q⟩⟩
  | ge =>
    cases d <;> cases e <;> first | exact False.elim h | skip
    case int.int i j => exact ⟨_, h, twoI (f := fun i j => decide (j ≤ i)) rfl rfl⟩
  | isin =>
    cases e <;> first | exact False.elim h | skip
    case lst xs => exact ⟨_, h.2, fun Q q => in_use (neg := false) b rx (seqs (.inl rfl)) h.1 q⟩
    case tup xs => exact ⟨_, h.2, fun Q q => in_use (neg := false) b rx (seqs (.inr rfl)) h.1 q⟩
  | notin =>
    cases e <;> first | exact False.elim h | skip
    case lst xs => exact ⟨_, h.2, fun Q q => in_use (neg := true) b rx (seqs (.inl rfl)) h.1 q⟩
    case tup xs => exact ⟨_, h.2, fun Q q => in_use (neg := true) b rx (seqs (.inr rfl)) h.1 q⟩
end

/-! ## subscripts -/
section
variable {K : PySem.W.Frag} {v0 f0 v1 f1 v2 f2 : Bool} {Ha Hb : Hp} {M M1 : Mem} {G H G1 H1 : Hp} {E : EK} {x y : V} {d e : D} {Q : VK}
theorem at_reps {vs : List V} {ds : List D} (r : Reps K G vs ds) {i : Int} {d : D} (h : atI ds i = some d) : ∃ v, atI vs i = some v ∧ Rep K G v d := by
  unfold atI at h ⊢
  rw [r.length]
  cases q : ixN ds.length i with
  | none => rw [q] at h; cases h
  | some j =>
    rw [q] at h
    exact r.get' h
theorem at_map {α β : Type} (f : α → β) (xs : List α) (i : Int) : atI (xs.map f) i = (atI xs i).map f := by
  unfold atI
  rw [List.length_map]
  cases ixN xs.length i with
  | none => rfl
  | some j => simp
theorem opt_run {α : Type} {o : Option α} {C : α → Mem → Prop} (h : (PM.opt o).run M C E) : ∃ a, o = some a ∧ C a M := by
  cases o with
  | none => exact False.elim h
  | some a => exact ⟨a, rfl, h⟩
theorem ix_use (h : (ixP d e).run M1 (kE K v0 f0 M G H Q) E) (f : f0 = false) (t : Stp K M G H M1 G1 H1) (rx : Res K v1 f1 Ha M1 G1 H1 x d) (ry : Res K v2 f2 Hb M1 G1 H1 y e) : rIx K x y H1 Q := by
  have b := t.bas
  subst f
  have fin : ∀ {r : D} {v : V}, kE K v0 false M G H Q r M1 → Rep K G1 v r → Q v H1 := fun k r => k _ G1 H1 t (.rep r fun z => nomatch z)
  cases d <;> cases e <;> first | exact False.elim h | skip
  case lst.int xs i =>
    obtain ⟨a, vs, rfl, ex, qx⟩ := rx.lst b
    cases ry.nolst (fun _ z => nomatch z)
    obtain ⟨r, e1, k⟩ := opt_run h
    obtain ⟨v, e2, rv⟩ := at_reps qx e1
    exact .inl ⟨a, vs, i, v, rfl, rfl, SqL.of ex, e2, fin k rv⟩
  case tup.int xs i =>
    have qx := rx.nolst (fun _ z => nomatch z)
    cases ry.nolst (fun _ z => nomatch z)
    obtain ⟨r, e1, k⟩ := opt_run h
    cases qx with
    | tup ex qx =>
      obtain ⟨v, e2, rv⟩ := at_reps qx e1
      exact .inr (.inl ⟨_, _, i, v, rfl, rfl, SqT.of (b.sub _ _ ex), e2, fin k rv⟩)
  case scr.int ns i =>
    have qx := rx.nolst (fun _ z => nomatch z)
    cases ry.nolst (fun _ z => nomatch z)
    obtain ⟨r, e1, k⟩ := opt_run h
    cases qx with
    | scr s =>
      rw [at_map] at e1
      cases q : atI ns i with
      | none => rw [q] at e1; cases e1
      | some n =>
        rw [q] at e1
        cases e1
        exact .inl ⟨_, _, i, .int n, rfl, rfl, b.sub.seq s, by rw [at_map, q]; rfl, fin k (.int n)⟩
  case cell.int a i =>
    cases rx.nolst (fun _ z => nomatch z)
    cases ry.nolst (fun _ z => nomatch z)
    have h' : (match M1 a with | some (.lst xs) => (PM.opt (atI xs i) : PM D) | _ => .fail).run M1 (kE K v0 false M G H Q) E := h
    cases m : M1 a with
    | none => rw [m] at h'; exact False.elim h'
    | some c =>
      rw [m] at h'
      cases c with
      | lst xs =>
        obtain ⟨_, _, vs, e, q⟩ := b.cells a _ m
        obtain ⟨r, e1, k⟩ := opt_run h'
        obtain ⟨v, e2, rv⟩ := at_reps q e1
        exact .inl ⟨a, vs, i, v, rfl, rfl, SqL.of e, e2, fin k rv⟩
      | aux => exact False.elim h'
      | ins => exact False.elim h'
      | dct => exact False.elim h'
  case str.int z i =>
    cases rx.nolst (fun _ z => nomatch z)
    cases ry.nolst (fun _ z => nomatch z)
    obtain ⟨hl, h⟩ := h
    obtain ⟨r, e1, k⟩ := opt_run h
    unfold signs at e1
    rw [at_map] at e1
    cases q : atI z.cps.toList i with
    | none => rw [q] at e1; cases e1
    | some c =>
      rw [q] at e1
      cases e1
      exact .inr (.inr ⟨z, i, c, rfl, rfl, hl, q, fin k (.str _)⟩)
theorem cut_reps {vs : List V} {ds : List D} (r : Reps K G vs ds) (lo hi : Option Int) : Reps K G (cutV vs lo hi) (cutD ds lo hi) := by
  unfold cutV cutD
  rw [r.length]
  exact (r.drop _).take _
theorem cut_whole {α : Type} {xs : List α} {lo hi : Option Int} (h : HT.sIx xs.length 0 lo = 0 ∧ HT.sIx xs.length xs.length hi = xs.length) : (xs.drop (HT.sIx xs.length 0 lo)).take (HT.sIx xs.length xs.length hi - HT.sIx xs.length 0 lo) = xs := by
  rw [h.1, h.2]
  simp
def rCut (K : PySem.W.Frag) : V → Option Int → Option Int → Hp → VK → Prop := fun x lo hi H Q => rSlL K x lo hi H Q ∨ rSlA K x lo hi H Q
theorem cut_use {lo hi : Option Int} (h : (cutP lo hi d).run M1 (kE K true f0 M G H Q) E) (t : Stp K M G H M1 G1 H1) (rx : Res K v1 f1 Ha M1 G1 H1 x d) : rCut K x lo hi H1 Q := by
  have b := t.bas
  cases d <;> first | exact False.elim h | skip
  case lst xs =>
    obtain ⟨a, vs, rfl, ex, qx⟩ := rx.lst b
    exact .inl ⟨a, vs, rfl, SqL.of ex, fun p n => kE_newL h t (cut_reps qx lo hi) n⟩
  case tup xs =>
    cases rx.nolst (fun _ z => nomatch z) with
    | tup ex qx =>
      refine .inr ⟨_, _, rfl, SqT.of (b.sub _ _ ex), fun w => ?_, fun _ p n => kE_newT h t (cut_reps qx lo hi) n⟩
      have e : cutD xs lo hi = xs := by
        unfold cutD
        rw [qx.length] at w
        exact cut_whole w
      have h' : kE K true f0 M G H Q (.tup (cutD xs lo hi)) M1 := h
      rw [e] at h'
      exact kE_rep h' t (.tup ex qx) fun _ z => nomatch z
  case cell p =>
    cases rx.nolst (fun _ z => nomatch z)
    have h' : (match M1 p with | some (.lst xs) => (PM.pure (D.lst (cutD xs lo hi)) : PM D) | _ => .fail).run M1 (kE K true f0 M G H Q) E := h
    cases e : M1 p with
    | none => rw [e] at h'; exact False.elim h'
    | some c =>
      rw [e] at h'
      cases c with
      | lst xs =>
        obtain ⟨_, _, vs, ex, qx⟩ := b.cells p _ e
        exact .inl ⟨p, vs, rfl, SqL.of ex, fun q n => kE_newL h' t (cut_reps qx lo hi) n⟩
      | aux => exact False.elim h'
      | ins => exact False.elim h'
      | dct => exact False.elim h'
end
end PL
set_option Elab.async false
set_option linter.all false
set_option maxRecDepth 100000
set_option maxHeartbeats 1000000
namespace PL
open L2 PySem PyProof.Rows PySem.Spec

/-! ## what is walked: enumerate and zip over lists and tuples in any mix -/
set_option maxHeartbeats 2000000 in
theorem enum1_meets {v : Value} {ob : Obj} {Hh : Heap → Prop} (B : Begins v ob Hh) :
    Meets (Builtin.«enumerate.__new__» ⟨[.type "enumerate", v], []⟩) (fun _ R z => Hh z.heap ∧
      R (.ok (.ret (.ref (z.heap.push ob).objs.size))) { z with heap := (z.heap.push ob).push { cls := .type "enumerate", data := .fields #[.none, .bool false, .ref z.heap.objs.size, rawInt 0, .none, .none] } }) :=
  .of_wp fun prog w A R z hz => by
    obtain ⟨hp, g, dr, tk, os⟩ := z
    obtain ⟨hz1, hz2⟩ := hz
    have hsubE := sub_enumerate
    have iterV : ∀ {A' : Around} {E : Value → Shared → Prop} {Q : Value → Shared → Prop}, Q (.ref hp.objs.size) ⟨hp.push ob, g, dr, tk, os⟩ → wpAny (model prog w) A' (pyIter v) Q E ⟨hp, g, dr, tk, os⟩ :=
      fun q => B.iter prog w _ _ ⟨hp, g, dr, tk, os⟩ _ hz1 q
    wp_walk using iterV
    refine wpAny_stack_any fun stk => wpAny_pure ?_
    split
    · rename_i cc _ _ _ _ _
      cases (cc == Value.type "enumerate") <;> (wp_walk using iterV; exact ⟨_, rfl, hz2⟩)
    · wp_walk using iterV
      exact ⟨_, rfl, hz2⟩
theorem enum1_call {prog : Program} {w : World} {A : Around} {E : Value → Shared → Prop} {z : Shared} {v : Value} {ob : Obj} {Hh : Heap → Prop} {Q : Value → Shared → Prop} (B : Begins v ob Hh) (hH : Hh z.heap)
    (fin : ∀ h', IsEnum h' (z.heap.objs.size + 1) z.heap.objs.size 0 .none → h'.get? z.heap.objs.size = some ob → (∀ b o, z.heap.get? b = some o → h'.get? b = some o) → Q (.ref (z.heap.objs.size + 1)) { z with heap := h' }) :
    wpAny (model prog w) A (call (.type "enumerate") [v]) Q E z := by
  refine callType_new F.called_enumerate (by decide) (F.typeCall_enumerate_1 _) (F.newCall_enumerate_1 _) (fun z => F.args_object_init_2 z _) F.entry_enumerate_new (enum1_meets B) ⟨hH, ?_⟩
  have sz : (z.heap.push ob).objs.size = z.heap.objs.size + 1 := Heap.size_push ..
  show _ ∧ _
  rw [sz]
  have ie : IsEnum ((z.heap.push ob).push { cls := .type "enumerate", data := .fields #[.none, .bool false, .ref z.heap.objs.size, rawInt 0, .none, .none] }) (z.heap.objs.size + 1) z.heap.objs.size 0 .none := by
    have q := Heap.get?_push_size (z.heap.push ob) (o := { cls := .type "enumerate", data := .fields #[.none, .bool false, .ref z.heap.objs.size, rawInt 0, .none, .none] }) rfl
    rw [sz] at q
    exact q
  exact ⟨⟨_, ie, rfl⟩, fin _ ie (Heap.get?_push_of_some _ (Heap.get?_push_size _ B.free)) fun b o x => Heap.get?_push_of_some _ (Heap.get?_push_of_some _ x)⟩

/-- a tracked list (k) or tuple -/
def SqH (k : Bool) (H : Hp) (a : Addr) (xs : List V) : Prop := H a = some (if k then .lst xs else .tup xs)
def ItS (k : Bool) (h : Heap) (it a : Addr) (i : Nat) : Prop := if k then h.IsListIter it a i else h.IsTupleIter it a i
def IsS (k : Bool) (h : Heap) (a : Addr) (items : Array Value) : Prop := if k then h.IsList a items else h.IsTuple a items
def itO (k : Bool) (a : Addr) : Obj := { cls := .type (if k then "list_iterator" else "tuple_iterator"), data := .fields #[.ref a, .int 0 0] }
theorem begins_S (k : Bool) (a : Addr) (items : Array Value) : Begins (.ref a) (itO k a) fun h => IsS k h a items := by
  cases k with
  | true => exact begins_list a items
  | false => exact begins_tuple a items
theorem draws_S {prog : Program} {w : World} {A : Around} (k : Bool) (hh : A.handled = none) (it a : Addr) (hne : a ≠ it) (items : Array Value) :
    Draws prog w A it [it, a] items.size (fun i v => items[i]? = some v) (fun i h => ItS k h it a i ∧ IsS k h a items) := by
  cases k with
  | true => exact Draws.list hh it a hne items
  | false => exact Draws.tuple hh it a hne items
theorem ItS.first {k : Bool} {h : Heap} {it a : Addr} (e : h.get? it = some (itO k a)) : ItS k h it a 0 := by
  cases k with
  | true => exact ⟨_, e, rfl, rfl⟩
  | false => exact ⟨_, e, rfl, rfl⟩
theorem ItS.obj {k : Bool} {h : Heap} {it a : Addr} {i : Nat} (s : ItS k h it a i) : ∃ o vs, h.get? it = some o ∧ o.data = .fields vs := by
  cases k with
  | true => obtain ⟨o, e, _, d⟩ := s; exact ⟨o, _, e, d⟩
  | false => obtain ⟨o, e, _, d⟩ := s; exact ⟨o, _, e, d⟩
theorem ItS.keep {k : Bool} {h h' : Heap} {it a : Addr} {i : Nat} (s : ItS k h it a i) (kp : ∀ o, h.get? it = some o → h'.get? it = some o) : ItS k h' it a i := by
  cases k with
  | true => exact Heap.IsListIter.at s kp
  | false => exact Heap.IsTupleIter.at s kp
theorem IsS.obj {k : Bool} {h : Heap} {a : Addr} {items : Array Value} (s : IsS k h a items) : ∃ o n, h.get? a = some o ∧ o.data = .seq items n := by
  cases k with
  | true => obtain ⟨o, e, _, n, d⟩ := s; exact ⟨o, n, e, d⟩
  | false => obtain ⟨o, e, _, n, d⟩ := s; exact ⟨o, n, e, d⟩
section
variable {X : Cx} {pins : List (Addr × Obj)} {σ : L2.St} {H : Hp} {s : Shared} {k k1 k2 : Bool} {a b : Addr} {xs ys : List V}
theorem src_of (I : Inv X pins σ H s) (h : SqH k H a xs) : ∃ its : List Value, Vals xs its ∧ IsS k s.heap a its.toArray := by
  cases k with
  | true => obtain ⟨its, r, p, _⟩ := I.list (SqL.of h); exact ⟨its, r, p.isList⟩
  | false => obtain ⟨its, r, p, _⟩ := I.tuple (SqT.of h); exact ⟨its, r, p⟩
theorem SqH.inj (h : SqH k H a xs) (h' : SqH k H a ys) : xs = ys := by
  have e := h.symm.trans h'
  cases k with
  | true => cases e; rfl
  | false => cases e; rfl
theorem src_ne {h : Heap} {it : Addr} {items : Array Value} {o : Obj} {vs : Array Value} (s : IsS k h a items) (e : h.get? it = some o) (d : o.data = .fields vs) : a ≠ it := fun z => by
  obtain ⟨o', n, e', d'⟩ := s.obj
  rw [z, e] at e'
  cases e'
  rw [d] at d'
  cases d'
/-- (i, x) in new pairs -/
def ItEn (k : Bool) (a : Addr) : It :=
  ⟨fun i H => ∃ (xs : List V), SqH k H a xs ∧ i < xs.length, fun i H v H' => ∃ T x, v = .ref T ∧ H T = none ∧ H' = upd H T (.tup [.int (i : Nat), x]) ∧ ∀ xs, SqH k H a xs → xs[i]? = some x, fun i H => ∃ xs : List V, SqH k H a xs ∧ xs.length = i⟩
theorem turn_en {P : Program} {w : World} {K : PySem.W.Frag} {elts : List Expr} {kk : Nat} {tpos : Pos} (k : Bool) (a e it : Addr) :
    Turn P w K (.Tuple elts kk tpos) (ItEn k a) [e, it] e (fun i h => (∃ old, IsEnum h e it ((i : Nat) : Int) old) ∧ ItS k h it a i ∧ e ≠ it) where
  mem := List.mem_cons_self
  obj := fun i h st c hc => by
    obtain ⟨⟨old, he⟩, hi, _⟩ := st
    rcases List.mem_cons.mp hc with z | z
    · rw [z]; exact ⟨_, he, fun v q => nomatch q⟩
    · rw [List.mem_singleton.mp z]
      obtain ⟨o, vs, e1, d1⟩ := hi.obj
      exact ⟨o, e1, fun v q => by rw [d1] at q; cases q⟩
  keep := fun i h h' st kp => let ⟨⟨old, he⟩, hi, hne⟩ := st; ⟨⟨old, kp e (by simp) _ he⟩, hi.keep fun o q => kp it (by simp) o q, hne⟩
  item := by
    intro X hP hw hK hc i pins s σ H E I hf st hg
    subst hP hw hK
    obtain ⟨⟨old, he⟩, hit, hne⟩ := st
    obtain ⟨xs, hq, hx⟩ := hg
    obtain ⟨its, rv, p⟩ := src_of I hq
    obtain ⟨o1, v1, e1, d1⟩ := hit.obj
    have n1 : a ≠ it := src_ne p e1 d1
    have n2 : a ≠ e := src_ne p he rfl
    have hl : its.length = xs.length := rv.length.symm
    have W := GoesN.enumFrom (prog := X.prog) (w := X.w) (A := X.A) (elts := elts) (x1 := kk) (pos := tpos) 0 (draws_S (prog := X.prog) (w := X.w) (A := X.A.in1) k (I.ok.hd hc) it a n1 its.toArray) e hne (by simp [hne, Ne.symm n2]) (by simp)
    refine W.goes i s _ E (by simp [hl]; exact hx) ⟨⟨old, by simpa using he⟩, hit, p⟩ fun v h' tk hY st' kp ht => ?_
    obtain ⟨T, t, x, rfl, hT, hxi, hTt⟩ := hY
    obtain ⟨⟨old', he'⟩, hit', p'⟩ := st'
    obtain ⟨o2, eo2, c2, m2, d2⟩ := hTt
    have hxs : xs[i]? = some xs[i] := List.getElem?_eq_getElem hx
    obtain ⟨u, hu, ru⟩ := rv.get hxs
    have eux : u = x := by
      have z : its.toArray[i]? = some u := by simpa using hu
      rw [z] at hxi
      exact Option.some.inj hxi
    subst eux
    have new : ObjOk X.prog X.w (upd H T (.tup [.int (i : Nat), xs[i]])) h' T (.tup [.int (i : Nat), xs[i]]) :=
      ⟨by show 2 ≤ sizeLine; decide, [.int (i : Nat) t, u], .cons ⟨_, rfl⟩ (.cons ru .nil), o2, eo2, c2, m2, by rw [d2]; simp⟩
    have I1 := I.turnedNew (t' := tk) (ch := [e, it]) kp hf hT new
    refine ⟨.ref T, _, I1, rfl, ⟨T, xs[i], rfl, I.hok.fresh hT, rfl, fun zs hz => by rw [hz.inj hq]; exact hxs⟩, ⟨⟨old', ?_⟩, hit', hne⟩, fun c hcm => ?_⟩
    · have q := he'
      rw [Int.zero_add] at q
      exact q
    · have lt : c < s.heap.objs.size := by
        rcases List.mem_cons.mp hcm with z | z
        · rw [z]; exact Heap.lt_size he
        · rw [List.mem_singleton.mp z]; exact Heap.lt_size e1
      rw [upd_ne (Nat.ne_of_lt (Nat.lt_of_lt_of_le lt hT))]
      exact (hf c hcm).1
  done := by
    intro X hP hw hK hc i pins s σ H E I hf st hg
    subst hP hw hK
    obtain ⟨⟨old, he⟩, hit, hne⟩ := st
    obtain ⟨xs, hq, hx⟩ := hg
    obtain ⟨its, rv, p⟩ := src_of I hq
    obtain ⟨o1, v1, e1, d1⟩ := hit.obj
    have n1 : a ≠ it := src_ne p e1 d1
    have n2 : a ≠ e := src_ne p he rfl
    have hl : its.length = xs.length := rv.length.symm
    have W := GoesN.enumFrom (prog := X.prog) (w := X.w) (A := X.A) (elts := elts) (x1 := kk) (pos := tpos) 0 (draws_S (prog := X.prog) (w := X.w) (A := X.A.in1) k (I.ok.hd hc) it a n1 its.toArray) e hne (by simp [hne, Ne.symm n2]) (by simp)
    have ei : its.toArray.size = i := by simp [hl, hx]
    have stI : (∃ old, IsEnum s.heap e it (0 + (its.toArray.size : Int)) old) ∧ ItS k s.heap it a its.toArray.size ∧ IsS k s.heap a its.toArray := by
      rw [ei, Int.zero_add]
      exact ⟨⟨old, he⟩, hit, p⟩
    exact W.stops s _ E stI fun h' tk kp ht => I.turnedL (t' := tk) (ch := [e, it]) kp hf
  self := fun A i s Q E st h => let ⟨⟨_, he⟩, _⟩ := st; wpAny_pyIter_enum he h

/-- (x, y) in new pairs -/
def ItZi (k1 k2 : Bool) (a b : Addr) : It :=
  ⟨fun i H => ∃ (xs ys : List V), SqH k1 H a xs ∧ SqH k2 H b ys ∧ i < xs.length ∧ i < ys.length,
    fun i H v H' => ∃ T x y, v = .ref T ∧ H T = none ∧ H' = upd H T (.tup [x, y]) ∧ (∀ xs, SqH k1 H a xs → xs[i]? = some x) ∧ ∀ ys, SqH k2 H b ys → ys[i]? = some y,
    fun i H => ∃ xs ys : List V, SqH k1 H a xs ∧ SqH k2 H b ys ∧ min xs.length ys.length = i⟩
structure Apart5 (z TI TO i1 i2 : Addr) : Prop where
  h1 : TI ≠ z
  h2 : TO ≠ z
  h3 : TI ≠ TO
  h4 : TI ≠ i1
  h5 : z ≠ i1
  h6 : TO ≠ i1
  h7 : TI ≠ i2
  h8 : z ≠ i2
  h9 : TO ≠ i2
  h10 : i1 ≠ i2
theorem sep_of {z TI TO i1 i2 a b : Addr} (D : Apart5 z TI TO i1 i2) (az : a ≠ z) (bz : b ≠ z) (aT : a ≠ TO) (bT : b ≠ TO) (a2 : a ≠ i2) (b1 : b ≠ i1) : ZipSep2 z TI TO i1 i2 [i1, a] [i2, b] where
  TIz := D.h1
  TOz := D.h2
  TITO := D.h3
  TIi1 := D.h4
  mem1 := by simp
  zf1 := by simp [D.h5, az.symm]
  Tf1 := by simp [D.h6, aT.symm]
  TIi2 := D.h7
  mem2 := by simp
  zf2 := by simp [D.h8, bz.symm]
  Tf2 := by simp [D.h9, bT.symm]
  sep1_2 := by simp [D.h10, b1.symm]
  sep2_1 := by simp [D.h10.symm, a2.symm]
theorem turn_zi {P : Program} {w : World} {K : PySem.W.Frag} {elts : List Expr} {kk : Nat} {tpos : Pos} (k1 k2 : Bool) {a b z TI TO i1 i2 : Addr} (D : Apart5 z TI TO i1 i2) :
    Turn P w K (.Tuple elts kk tpos) (ItZi k1 k2 a b) [z, TI, TO, i1, i2] z (fun i h => IsZip h z TI TO .none ∧ IsTupOf2 h TI (.ref i1) (.ref i2) ∧ (∃ u v, IsTupOf2 h TO u v) ∧ ItS k1 h i1 a i ∧ ItS k2 h i2 b i) where
  mem := List.mem_cons_self
  obj := fun i h st c hcm => by
    obtain ⟨hz, hTI, ⟨x, y, hTO⟩, g1, g2⟩ := st
    obtain ⟨o1, v1, e1, d1⟩ := g1.obj
    obtain ⟨o2, v2, e2, d2⟩ := g2.obj
    simp only [List.mem_cons, List.not_mem_nil, or_false] at hcm
    rcases hcm with q | q | q | q | q
    · rw [q]; exact ⟨_, hz, fun v q => nomatch q⟩
    · rw [q]; exact ⟨_, hTI, fun v q => nomatch q⟩
    · rw [q]; exact ⟨_, hTO, fun v q => nomatch q⟩
    · rw [q]; exact ⟨o1, e1, fun v q => by rw [d1] at q; cases q⟩
    · rw [q]; exact ⟨o2, e2, fun v q => by rw [d2] at q; cases q⟩
  keep := fun i h h' st kp => by
    obtain ⟨hz, hTI, ⟨x, y, hTO⟩, g1, g2⟩ := st
    exact ⟨kp z (by simp) _ hz, kp TI (by simp) _ hTI, ⟨x, y, kp TO (by simp) _ hTO⟩, g1.keep fun o q => kp i1 (by simp) o q, g2.keep fun o q => kp i2 (by simp) o q⟩
  item := by
    intro X hP hw hK hc i pins s σ H E I hf st hg
    subst hP hw hK
    obtain ⟨hz, hTI, ⟨x0, y0, hTO⟩, g1, g2⟩ := st
    obtain ⟨xs, ys, hqx, hqy, hx, hy⟩ := hg
    obtain ⟨its, rv, p⟩ := src_of I hqx
    obtain ⟨its2, rv2, p2⟩ := src_of I hqy
    obtain ⟨o1, v1, e1, d1⟩ := g1.obj
    obtain ⟨o2, v2, e2, d2⟩ := g2.obj
    have tr : ∀ {c : Addr} {k : Bool} {zs : List V}, SqH k H c zs → c ≠ TO := fun h e => by
      have n := (hf TO (by simp)).1
      rw [← e] at n
      rw [h] at n
      cases n
    have S := sep_of D (src_ne p hz rfl) (src_ne p2 hz rfl) (tr hqx) (tr hqy) (src_ne p e2 d2) (src_ne p2 e1 d1)
    have l1 : its.length = xs.length := rv.length.symm
    have l2 : its2.length = ys.length := rv2.length.symm
    have W := GoesN.zip2 (prog := X.prog) (w := X.w) (A := X.A) (elts := elts) (x1 := kk) (pos := tpos) S (draws_S (prog := X.prog) (w := X.w) (A := X.A.in1) k1 (I.ok.hd hc) i1 a (src_ne p e1 d1) its.toArray) (draws_S (prog := X.prog) (w := X.w) (A := X.A.in1) k2 (I.ok.hd hc) i2 b (src_ne p2 e2 d2) its2.toArray)
    refine W.goes i s _ E (by simp [l1, l2]; omega) ⟨hz, hTI, ⟨x0, y0, hTO⟩, ⟨g1, p⟩, ⟨g2, p2⟩⟩ fun v h' tk hY st' kp ht => ?_
    obtain ⟨T, x, y, rfl, hT, hxi, hyi, hTt⟩ := hY
    obtain ⟨hz', hTI', hTO', ⟨g1', _⟩, ⟨g2', _⟩⟩ := st'
    obtain ⟨o3, eo3, c3, m3, d3⟩ := hTt
    have hxs : xs[i]? = some xs[i] := List.getElem?_eq_getElem hx
    have hys : ys[i]? = some ys[i] := List.getElem?_eq_getElem hy
    obtain ⟨u, hu, ru⟩ := rv.get hxs
    obtain ⟨u2, hu2, ru2⟩ := rv2.get hys
    have e3 : u = x := by
      have q : its.toArray[i]? = some u := by simpa using hu
      rw [q] at hxi
      exact Option.some.inj hxi
    have e4 : u2 = y := by
      have q : its2.toArray[i]? = some u2 := by simpa using hu2
      rw [q] at hyi
      exact Option.some.inj hyi
    subst e3 e4
    have new : ObjOk X.prog X.w (upd H T (.tup [xs[i], ys[i]])) h' T (.tup [xs[i], ys[i]]) :=
      ⟨by show 2 ≤ sizeLine; decide, [u, u2], .cons ru (.cons ru2 .nil), o3, eo3, c3, m3, d3⟩
    have I1 := I.turnedNew (t' := tk) (ch := [z, TI, TO, i1, i2]) (fun c o hcm q => kp c o (fun w => hcm (by
      simp only [List.mem_cons, List.not_mem_nil, or_false] at w ⊢
      rcases w with w | w | w | w <;> simp [w])) q) hf hT new
    refine ⟨.ref T, _, I1, rfl, ⟨T, xs[i], ys[i], rfl, I.hok.fresh hT, rfl, fun zs hq => by rw [hq.inj hqx]; exact hxs, fun zs hq => by rw [hq.inj hqy]; exact hys⟩, ⟨hz', hTI', hTO', g1', g2'⟩, fun c hcm => ?_⟩
    have lt : c < s.heap.objs.size := by
      simp only [List.mem_cons, List.not_mem_nil, or_false] at hcm
      rcases hcm with q | q | q | q | q
      · rw [q]; exact Heap.lt_size hz
      · rw [q]; exact Heap.lt_size hTI
      · rw [q]; exact Heap.lt_size hTO
      · rw [q]; exact Heap.lt_size e1
      · rw [q]; exact Heap.lt_size e2
    rw [upd_ne (Nat.ne_of_lt (Nat.lt_of_lt_of_le lt hT))]
    exact (hf c hcm).1
  done := by
    intro X hP hw hK hc i pins s σ H E I hf st hg
    subst hP hw hK
    obtain ⟨hz, hTI, ⟨x0, y0, hTO⟩, g1, g2⟩ := st
    obtain ⟨xs, ys, hqx, hqy, hx⟩ := hg
    obtain ⟨its, rv, p⟩ := src_of I hqx
    obtain ⟨its2, rv2, p2⟩ := src_of I hqy
    obtain ⟨o1, v1, e1, d1⟩ := g1.obj
    obtain ⟨o2, v2, e2, d2⟩ := g2.obj
    have tr : ∀ {c : Addr} {k : Bool} {zs : List V}, SqH k H c zs → c ≠ TO := fun h e => by
      have n := (hf TO (by simp)).1
      rw [← e] at n
      rw [h] at n
      cases n
    have S := sep_of D (src_ne p hz rfl) (src_ne p2 hz rfl) (tr hqx) (tr hqy) (src_ne p e2 d2) (src_ne p2 e1 d1)
    have l1 : its.length = xs.length := rv.length.symm
    have l2 : its2.length = ys.length := rv2.length.symm
    have W := GoesN.zip2 (prog := X.prog) (w := X.w) (A := X.A) (elts := elts) (x1 := kk) (pos := tpos) S (draws_S (prog := X.prog) (w := X.w) (A := X.A.in1) k1 (I.ok.hd hc) i1 a (src_ne p e1 d1) its.toArray) (draws_S (prog := X.prog) (w := X.w) (A := X.A.in1) k2 (I.ok.hd hc) i2 b (src_ne p2 e2 d2) its2.toArray)
    have ei : min its.toArray.size its2.toArray.size = i := by simp [l1, l2, hx]
    refine W.stops s _ E (by rw [ei]; exact ⟨hz, hTI, ⟨x0, y0, hTO⟩, ⟨g1, p⟩, ⟨g2, p2⟩⟩) fun h' tk kp ht => I.turnedL (t' := tk) (ch := [z, TI, TO, i1, i2]) (fun c o hcm q => kp c o (fun w => hcm (by
      simp only [List.mem_cons, List.not_mem_nil, or_false] at w ⊢
      rcases w with w | w | w | w <;> simp [w])) q) hf
  self := fun A i s Q E st h => wpAny_pyIter_zip st.1 h
end

/-! ## the rules -/
section
variable {X : Cx} {tg : Expr}
def iEn (ta : TA) : TI := fun σ H R => ta σ H fun vs H1 => ∃ k a xs, vs = [.ref a] ∧ SqH k H1 a xs ∧ R (ItEn k a) H1
theorem pi_en {e : Expr} {ta : TA} {p pos tpos : Pos} {elts : List Expr} {kk : Nat} (hg : Gl X "enumerate") (hm : X.mg "enumerate" = none) (ha : PA X [e] ta) (hs : starEach [e] X.env = [(false, eval e X.env)]) :
    PI X (.Tuple elts kk tpos) (.Call (.Name "enumerate" p) [e] [] pos) (iEn ta) := by
  refine ⟨fun pins s σ H R I hw => Call_ (ld_blt I hg hm boot_enumerate (PyProof.Rows.callWith_type1 (thn (ha.run pos pins s σ H _ I hw) fun us s1 ⟨vs, H1, I1, r1, q1⟩ => ?_) hs rfl))⟩
  obtain ⟨k, a, xs, rfl, hq, q⟩ := q1
  rw [Vals.ref1 r1]
  obtain ⟨its, rv, p'⟩ := src_of I1 hq
  refine enum1_call (begins_S k a its.toArray) p' fun h' he hit kp => wpAny_pyIter_enum he ?_
  refine ⟨s1.heap.objs.size + 1, [s1.heap.objs.size + 1, s1.heap.objs.size], _, _, H1, rfl, I1.kept (t' := s1.toks) kp, turn_en k a (s1.heap.objs.size + 1) s1.heap.objs.size, ⟨⟨.none, he⟩, ItS.first hit, Nat.succ_ne_self _⟩, fun c hcm => ?_, q⟩
  have le : s1.heap.objs.size ≤ c := by
    rcases List.mem_cons.mp hcm with z | z
    · rw [z]; exact Nat.le_succ _
    · rw [List.mem_singleton.mp z]; exact Nat.le_refl _
  exact I1.fpOk le (I1.hok.fresh le)
def iZi (ta : TA) : TI := fun σ H R => ta σ H fun vs H1 => ∃ k1 k2 a b xs ys, vs = [.ref a, .ref b] ∧ SqH k1 H1 a xs ∧ SqH k2 H1 b ys ∧ R (ItZi k1 k2 a b) H1
theorem pi_zi {e e2 : Expr} {ta : TA} {p pos tpos : Pos} {elts : List Expr} {kk : Nat} (hg : Gl X "zip") (hm : X.mg "zip" = none) (ha : PA X [e, e2] ta)
    (hs : starEach [e, e2] X.env = (false, eval e X.env) :: starEach [e2] X.env) (hpl : (backTo pos (starEach [e2] X.env)).any (·.1) = false) : PI X (.Tuple elts kk tpos) (.Call (.Name "zip" p) [e, e2] [] pos) (iZi ta) := by
  refine ⟨fun pins s σ H R I hw => Call_ (ld_blt I hg hm PyProof.Rows.boot_zip (PyProof.Rows.callWith_type1 (thn (ha.run pos pins s σ H _ I hw) fun us s1 ⟨vs, H1, I1, r1, q1⟩ => ?_) hs hpl))⟩
  obtain ⟨k1, k2, a, b, xs, ys, rfl, hqx, hqy, q⟩ := q1
  obtain ⟨u1, u2, rfl, ra, rb⟩ := Vals.two r1
  obtain rfl : u1 = .ref a := ra
  obtain rfl : u2 = .ref b := rb
  obtain ⟨its, rv, p1⟩ := src_of I1 hqx
  obtain ⟨its2, rv2, p2⟩ := src_of I1 hqy
  refine zip_begins2 (begins_S k1 a its.toArray) (begins_S k2 b its2.toArray) p1 p2 fun h' hz hTI hTO h1 h2 hsz kp => wpAny_pyIter_zip hz ?_
  have ap : Apart5 (s1.heap.objs.size + 4) (s1.heap.objs.size + 2) (s1.heap.objs.size + 3) s1.heap.objs.size (s1.heap.objs.size + 1) := by
    constructor <;> (intro e; have e' : (_ : Nat) = _ := e; omega)
  refine ⟨s1.heap.objs.size + 4, [s1.heap.objs.size + 4, s1.heap.objs.size + 2, s1.heap.objs.size + 3, s1.heap.objs.size, s1.heap.objs.size + 1], _, _, H1, rfl, I1.kept (t' := s1.toks) kp, turn_zi k1 k2 ap, ⟨hz, hTI, ⟨_, _, hTO⟩, ItS.first h1, ItS.first h2⟩, fun c hcm => ?_, q⟩
  have le : s1.heap.objs.size ≤ c := by
    simp only [List.mem_cons, List.not_mem_nil, or_false] at hcm
    rcases hcm with z | z | z | z | z
    · rw [z]; exact Nat.le_add_right _ _
    · rw [z]; exact Nat.le_add_right _ _
    · rw [z]; exact Nat.le_add_right _ _
    · rw [z]; exact Nat.le_refl _
    · rw [z]; exact Nat.le_add_right _ _
  exact I1.fpOk le (I1.hok.fresh le)
/-- a list, a tuple, a text -/
def iSq (K : PySem.W.Frag) (tl : TE) : TI := fun σ H R => tl σ H fun x H1 =>
  (∃ a xs, x = .ref a ∧ SqL K H1 a xs ∧ R (Itl K a) H1) ∨ (∃ a xs, x = .ref a ∧ SqT K H1 a xs ∧ R (Itt K a) H1) ∨ ∃ z, x = .str z ∧ R (Its z) H1
theorem pi_sq {l : Expr} {tl : TE} (hl : PE X l tl) : PI X tg l (iSq X.K tl) := by
  refine ⟨fun pins s σ H R I hw => thn (hl.run pins s σ H _ I hw) fun v s1 ⟨x, H1, I1, r1, q1⟩ => ?_⟩
  have one : ∀ {c : Addr}, c ∈ [s1.heap.objs.size] → FpOk X pins H1 c := fun hcm => by
    rw [List.mem_singleton.mp hcm]
    exact I1.fpOk (Nat.le_refl _) (I1.hok.fresh (Nat.le_refl _))
  rcases q1 with ⟨a, xs, rfl, hq, q⟩ | ⟨a, xs, rfl, hq, q⟩ | ⟨z, rfl, q⟩
  · obtain rfl : v = .ref a := r1
    obtain ⟨its, rv, p, _⟩ := I1.list hq
    refine wpAny_pyIter_list p.isList ⟨_, [s1.heap.objs.size], _, _, H1, rfl, I1.kept (t' := s1.toks) (fun c o e => Heap.get?_push_of_some _ e), turn_list a _, ⟨_, Heap.get?_push_size _ rfl, rfl, rfl⟩, fun c hcm => one hcm, q⟩
  · obtain rfl : v = .ref a := r1
    obtain ⟨its, rv, p, _⟩ := I1.tuple hq
    refine wpAny_pyIter_tuple (show s1.heap.IsTuple a its.toArray from p) ⟨_, [s1.heap.objs.size], _, _, H1, rfl, I1.kept (t' := s1.toks) (fun c o e => Heap.get?_push_of_some _ e), turn_tuple a _, ⟨_, Heap.get?_push_size _ rfl, rfl, rfl⟩, fun c hcm => one hcm, q⟩
  · obtain ⟨t, rfl⟩ := r1
    cases ha : z.cps.all (· < 128) with
    | true => exact wpAny_pyIter_ascii ha (pi_one (tk := s1.toks) I1 _ (turn_str _ z t "str_ascii_iterator" (.inl rfl)) ⟨_, Heap.get?_push_size _ rfl, rfl, rfl⟩ q)
    | false => exact wpAny_pyIter_wide ha (pi_one (tk := s1.toks) I1 _ (turn_str _ z t "str_iterator" (.inr rfl)) ⟨_, Heap.get?_push_size _ rfl, rfl, rfl⟩ q)
end
end PL
set_option Elab.async false
set_option linter.all false
set_option maxRecDepth 100000
set_option maxHeartbeats 1000000
namespace PL
open L2 PySem PyProof.Rows PySem.Spec

/-! ## built-ins -/
theorem maxI_spec : ∀ (a : Int) (r : List Int), maxI a r ∈ a :: r ∧ ∀ y ∈ a :: r, y ≤ maxI a r
  | a, [] => by simp [maxI]
  | a, b :: r => by
    have ih := maxI_spec (if b > a then b else a) r
    unfold maxI
    refine ⟨?_, fun y hy => ?_⟩
    · rcases List.mem_cons.mp ih.1 with e | e
      · rw [e]
        split <;> simp
      · simp [e]
    · have h0 := ih.2 _ List.mem_cons_self
      rcases List.mem_cons.mp hy with e | hy
      · subst e
        refine Int.le_trans ?_ h0
        split <;> omega
      · rcases List.mem_cons.mp hy with e | hy
        · subst e
          refine Int.le_trans ?_ h0
          split <;> omega
        · exact ih.2 y (List.mem_cons_of_mem _ hy)
theorem minI_spec : ∀ (a : Int) (r : List Int), minI a r ∈ a :: r ∧ ∀ y ∈ a :: r, minI a r ≤ y
  | a, [] => by simp [minI]
  | a, b :: r => by
    have ih := minI_spec (if b < a then b else a) r
    unfold minI
    refine ⟨?_, fun y hy => ?_⟩
    · rcases List.mem_cons.mp ih.1 with e | e
      · rw [e]
        split <;> simp
      · simp [e]
    · have h0 := ih.2 _ List.mem_cons_self
      rcases List.mem_cons.mp hy with e | hy
      · subst e
        refine Int.le_trans h0 ?_
        split <;> omega
      · rcases List.mem_cons.mp hy with e | hy
        · subst e
          refine Int.le_trans h0 ?_
          split <;> omega
        · exact ih.2 y (List.mem_cons_of_mem _ hy)
theorem insI_perm (x : Int) : ∀ l : List Int, (insI x l).Perm (x :: l)
  | [] => .refl _
  | y :: r => by
    unfold insI
    split
    · exact .refl _
    · exact ((insI_perm x r).cons y).trans (.swap x y r)
theorem insI_sorted (x : Int) : ∀ l : List Int, l.Pairwise (· ≤ ·) → (insI x l).Pairwise (· ≤ ·)
  | [], _ => by simp [insI]
  | y :: r, h => by
    obtain ⟨h1, h2⟩ := List.pairwise_cons.mp h
    unfold insI
    split
    · rename_i c
      refine List.pairwise_cons.mpr ⟨fun z hz => ?_, h⟩
      rcases List.mem_cons.mp hz with e | hz
      · omega
      · exact Int.le_trans c (h1 z hz)
    · rename_i c
      refine List.pairwise_cons.mpr ⟨fun z hz => ?_, insI_sorted x r h2⟩
      rcases List.mem_cons.mp ((insI_perm x r).mem_iff.mp hz) with e | hz
      · omega
      · exact h1 z hz
theorem sortI_spec : ∀ l : List Int, (sortI l).Perm l ∧ (sortI l).Pairwise (· ≤ ·)
  | [] => by simp [sortI]
  | x :: r => by
    obtain ⟨a, b⟩ := sortI_spec r
    exact ⟨(insI_perm x _).trans (a.cons x), insI_sorted x _ b⟩
theorem sortI_unique {l ns : List Int} (h : ns.Perm l) (s : ns.Pairwise (· ≤ ·)) : ns = sortI l :=
  List.Perm.eq_of_pairwise (fun a b _ _ h1 h2 => Int.le_antisymm h1 h2) s (sortI_spec l).2 (h.trans (sortI_spec l).1.symm)

def b1Name : B1 → Str
  | .len => "len" | .abs => "abs" | .max => "max" | .min => "min" | .all => "all" | .any => "any" | .sum => "sum" | .sorted => "sorted" | .list => "list" | .tuple => "tuple" | .str => "str" | .int => "int" | .lenset => "" | .sortset => ""
def b1Ok : B1 → Bool | .lenset => false | .sortset => false | _ => true
def b1Ty : B1 → Option String | .list => some "list" | .tuple => some "tuple" | .str => some "str" | .int => some "int" | _ => none
def b1Id : B1 → String | .len => "len" | .abs => "abs" | .max => "max" | .min => "min" | .all => "all" | .any => "any" | .sum => "sum" | .sorted => "sorted" | _ => ""
def b1Val (o : B1) : Value := match b1Ty o with | some T => .type T | none => .builtin (b1Id o)
def B1R (K : PySem.W.Frag) : B1 → List V → Hp → VK → Prop
  | .len => fun xs H Q => ∃ x n, xs = [x] ∧ LenV K x H n ∧ Q (.int n) H
  | .abs => fun xs H Q => ∃ i, xs = [.int i] ∧ Q (.int (if i < 0 then -i else i)) H
  | .max => rMax K | .min => rMin K | .all => rAll K | .any => rAny K | .sum => rSum K | .sorted => rSortedI K
  | .list => fun xs H Q => ∃ p ys, xs = [.ref p] ∧ (SqL K H p ys ∨ SqT K H p ys) ∧ ∀ l, H l = none → Q (.ref l) (upd H l (.lst ys))
  | .tuple => fun xs H Q => ∃ p ys, xs = [.ref p] ∧ ((SqL K H p ys ∧ ∀ l, H l = none → Q (.ref l) (upd H l (.tup ys))) ∨ (SqT K H p ys ∧ Q (.ref p) H))
  | .str => fun xs H Q => (∃ i, xs = [.int i] ∧ i.natAbs.log2 < 1920 ∧ Q (.str (toString i)) H) ∨ ∃ b, xs = [.bl b] ∧ Q (.str (if b = true then "True" else "False")) H
  | .int => fun xs H Q => (∃ i, xs = [.int i] ∧ Q (.int i) H) ∨ ∃ k, xs = [.bl k] ∧ Q (.int (if k then 1 else 0)) H
  | _ => fun _ _ _ => False
theorem call_str_ib {X : Cx} : CallR X (.type "str") (fun xs H Q => (∃ i, xs = [.int i] ∧ i.natAbs.log2 < 1920 ∧ Q (.str (toString i)) H) ∨ ∃ b, xs = [.bl b] ∧ Q (.str (if b = true then "True" else "False")) H) := by
  intro pins s σ H xs us Q I r h
  rcases h with h | ⟨b, rfl, q⟩
  · exact call_str_int pins s σ H xs us Q I r h
  · obtain ⟨u, rfl, rx⟩ := vals1 r
    cases rx
    exact PySem.P.str_of_bool ⟨.str _, H, I.tok _, ⟨_, rfl⟩, q⟩
theorem b1R_ok {X : Cx} (hc : X.calm = true) : ∀ o : B1, b1Ok o = true → CallR X (b1Val o) (B1R X.K o)
  | .len, _ => call_len | .abs, _ => call_abs | .max, _ => cr_max hc | .min, _ => cr_min hc | .all, _ => cr_all hc | .any, _ => cr_any hc | .sum, _ => cr_sum hc | .sorted, _ => cr_sortedI
  | .list, _ => call_list_of | .tuple, _ => call_tuple_of | .str, _ => call_str_ib | .int, _ => call_int1
  | .lenset, h => nomatch h | .sortset, h => nomatch h
theorem b1_boot : ∀ o : B1, b1Ok o = true → bootBuiltins (b1Name o) = some (b1Val o)
  | .len, _ => PySem.boot_len | .abs, _ => boot_abs | .max, _ => boot_max | .min, _ => boot_min | .all, _ => boot_all | .any, _ => boot_any | .sum, _ => boot_sum | .sorted, _ => boot_sorted
  | .list, _ => PyProof.Rows.boot_list | .tuple, _ => PyProof.Rows.boot_tuple | .str, _ => PyProof.Rows.boot_str | .int, _ => PyProof.Rows.boot_int
  | .lenset, h => nomatch h | .sortset, h => nomatch h
def bnames : List Str := ["isinstance", "int", "bool", "str", "tuple", "list", "len", "abs", "max", "min", "all", "any", "sum", "sorted", "set", "range", "enumerate", "zip"]
theorem b1_name : ∀ o : B1, b1Ok o = true → b1Name o ∈ bnames ∧ b1Name o ≠ "__name__" ∧ (b1Name o == ("__debug__" : Str)) = false := by
  intro o h
  cases o <;> first | decide +kernel | exact absurd h (by decide)
section
variable {K : PySem.W.Frag} {v0 f0 v1 f1 v2 f2 : Bool} {Ha Hb : Hp} {M M1 : Mem} {G H G1 H1 : Hp} {E : EK} {x y : V} {d e : D} {Q : VK}
def b1fr : B1 → Bool | .list => true | .sorted => true | _ => false
theorem b1_use {o : B1} (ho : b1Ok o = true) (h : (b1P o d).run M1 (kE K true (b1fr o) M G H Q) E) (t : Stp K M G H M1 G1 H1) (rx : Res K v1 f1 Ha M1 G1 H1 x d) : B1R K o [x] H1 Q := by
  have b := t.bas
  have num : ∀ {f0 : Bool} {i : Int}, kE K true f0 M G H Q (.int i) M1 → Q (.int i) H1 := fun k => kE_rep k t (.int _) fun _ z => nomatch z
  have bol : ∀ {f0 : Bool} {i : Bool}, kE K true f0 M G H Q (.bl i) M1 → Q (.bl i) H1 := fun k => kE_rep k t (.bl _) fun _ z => nomatch z
  cases o with
  | len =>
    cases d <;> first | exact False.elim h | skip
    case lst xs =>
      obtain ⟨a, vs, rfl, ex, qx⟩ := rx.lst b
      exact ⟨_, xs.length, rfl, .inl ⟨vs, SqL.of ex, qx.length.symm⟩, num h⟩
    case tup xs =>
      cases rx.nolst (fun _ z => nomatch z) with
      | tup ex qx => exact ⟨_, xs.length, rfl, .inr ⟨_, SqT.of (b.sub _ _ ex), qx.length.symm⟩, num h⟩
    case scr ns =>
      cases rx.nolst (fun _ z => nomatch z) with
      | scr s => exact ⟨_, ns.length, rfl, .inl ⟨_, b.sub.seq s, by rw [List.length_map]⟩, num h⟩
    case str z =>
      cases rx.nolst (fun _ z => nomatch z)
      exact ⟨_, z.length, rfl, ⟨h.1, rfl⟩, num h.2⟩
    case cell a =>
      cases rx.nolst (fun _ z => nomatch z)
      have h' : (match M1 a with | some (.lst xs) => (PM.pure (.int xs.length) : PM D) | _ => .fail).run M1 (kE K true false M G H Q) E := h
      cases m : M1 a with
      | none => rw [m] at h'; exact False.elim h'
      | some c =>
        rw [m] at h'
        cases c with
        | lst xs =>
          obtain ⟨_, _, vs, e, q⟩ := b.cells a _ m
          exact ⟨_, xs.length, rfl, .inl ⟨vs, SqL.of e, q.length.symm⟩, num h'⟩
        | aux => exact False.elim h'
        | ins => exact False.elim h'
        | dct => exact False.elim h'
  | abs =>
    cases d <;> first | exact False.elim h | skip
    case int i =>
      cases rx.nolst (fun _ z => nomatch z)
      exact ⟨i, rfl, num h⟩
  | max =>
    cases d <;> first | exact False.elim h | skip
    case lst xs =>
      obtain ⟨a, vs, rfl, ex, qx⟩ := rx.lst b
      obtain ⟨ns, e1, h⟩ := opt_run h
      obtain ⟨e2, _⟩ := qx.ofInts e1
      subst e2
      cases ns with
      | nil => exact False.elim h
      | cons z r =>
        refine ⟨a, z :: r, rfl, SqL.of ex, Nat.succ_pos _, fun m hm hle => ?_⟩
        have sp := maxI_spec z r
        rw [Int.le_antisymm (sp.2 m hm) (hle _ sp.1)]
        exact num h
  | min =>
    cases d <;> first | exact False.elim h | skip
    case lst xs =>
      obtain ⟨a, vs, rfl, ex, qx⟩ := rx.lst b
      obtain ⟨ns, e1, h⟩ := opt_run h
      obtain ⟨e2, _⟩ := qx.ofInts e1
      subst e2
      cases ns with
      | nil => exact False.elim h
      | cons z r =>
        refine ⟨a, z :: r, rfl, SqL.of ex, Nat.succ_pos _, fun m hm hle => ?_⟩
        have sp := minI_spec z r
        rw [Int.le_antisymm (hle _ sp.1) (sp.2 m hm)]
        exact num h
  | all =>
    cases d <;> first | exact False.elim h | skip
    case lst xs =>
      obtain ⟨a, vs, rfl, ex, qx⟩ := rx.lst b
      obtain ⟨bs, e1, h⟩ := opt_run h
      rw [qx.ofBls e1] at ex
      exact ⟨a, bs, rfl, SqL.of ex, bol h⟩
  | any =>
    cases d <;> first | exact False.elim h | skip
    case lst xs =>
      obtain ⟨a, vs, rfl, ex, qx⟩ := rx.lst b
      obtain ⟨bs, e1, h⟩ := opt_run h
      rw [qx.ofBls e1] at ex
      exact ⟨a, bs, rfl, SqL.of ex, bol h⟩
  | sum =>
    cases d <;> first | exact False.elim h | skip
    case lst xs =>
      obtain ⟨a, vs, rfl, ex, qx⟩ := rx.lst b
      obtain ⟨ns, e1, h⟩ := opt_run h
      rw [(qx.ofInts e1).1] at ex
      exact ⟨a, ns, rfl, SqL.of ex, num h⟩
  | sorted =>
    cases d <;> first | exact False.elim h | skip
    case lst xs =>
      obtain ⟨a, vs, rfl, ex, qx⟩ := rx.lst b
      obtain ⟨ns, e1, h⟩ := opt_run h
      rw [(qx.ofInts e1).1] at ex
      refine ⟨a, ns, rfl, SqL.of ex, fun ns' p pm so n => ?_⟩
      rw [sortI_unique pm so]
      exact kE_newL h t (Reps.ints _) n
  | list =>
    cases d <;> first | exact False.elim h | skip
    case lst xs =>
      obtain ⟨a, vs, rfl, ex, qx⟩ := rx.lst b
      exact ⟨a, vs, rfl, .inl (SqL.of ex), fun p n => kE_newL h t qx n⟩
    case tup xs =>
      cases rx.nolst (fun _ z => nomatch z) with
      | tup ex qx => exact ⟨_, _, rfl, .inr (SqT.of (b.sub _ _ ex)), fun p n => kE_newL h t qx n⟩
    case cell a =>
      cases rx.nolst (fun _ z => nomatch z)
      have h' : (match M1 a with | some (.lst xs) => (PM.pure (.lst xs) : PM D) | _ => .fail).run M1 (kE K true true M G H Q) E := h
      cases m : M1 a with
      | none => rw [m] at h'; exact False.elim h'
      | some c =>
        rw [m] at h'
        cases c with
        | lst xs =>
          obtain ⟨_, _, vs, e, q⟩ := b.cells a _ m
          exact ⟨_, vs, rfl, .inl (SqL.of e), fun p n => kE_newL h' t q n⟩
        | aux => exact False.elim h'
        | ins => exact False.elim h'
        | dct => exact False.elim h'
  | tuple =>
    cases d <;> first | exact False.elim h | skip
    case lst xs =>
      obtain ⟨a, vs, rfl, ex, qx⟩ := rx.lst b
      exact ⟨a, vs, rfl, .inl ⟨SqL.of ex, fun p n => kE_newT h t qx n⟩⟩
    case tup xs =>
      cases rx.nolst (fun _ z => nomatch z) with
      | tup ex qx => exact ⟨_, _, rfl, .inr ⟨SqT.of (b.sub _ _ ex), kE_rep h t (.tup ex qx) fun _ z => nomatch z⟩⟩
  | str =>
    cases d <;> first | exact False.elim h | skip
    case int i =>
      cases rx.nolst (fun _ z => nomatch z)
      exact .inl ⟨i, rfl, h.1, kE_rep h.2 t (.str _) fun _ z => nomatch z⟩
    case bl b =>
      cases rx.nolst (fun _ z => nomatch z)
      exact .inr ⟨b, rfl, kE_rep h t (.str _) fun _ z => nomatch z⟩
  | int =>
    cases d <;> first | exact False.elim h | skip
    case bl i =>
      cases rx.nolst (fun _ z => nomatch z)
      exact .inr ⟨i, rfl, num h⟩
    case int i =>
      cases rx.nolst (fun _ z => nomatch z)
      exact .inl ⟨i, rfl, num h⟩
  | lenset => cases ho
  | sortset => cases ho
def b2Name : B2 → Str | .max => "max" | .min => "min"
def b2Id : B2 → String | .max => "max" | .min => "min"
def B2R : B2 → List V → Hp → VK → Prop
  | .max => fun xs H Q => ∃ i j, xs = [.int i, .int j] ∧ Q (.int (if j > i then j else i)) H
  | .min => fun xs H Q => ∃ i j, xs = [.int i, .int j] ∧ Q (.int (if j < i then j else i)) H
theorem b2R_ok {X : Cx} (hc : X.calm = true) : ∀ o : B2, CallR X (.builtin (b2Id o)) (B2R o)
  | .max => call_max2 hc | .min => call_min2 hc
theorem b2_boot : ∀ o : B2, bootBuiltins (b2Name o) = some (.builtin (b2Id o)) | .max => boot_max | .min => boot_min
theorem b2_name : ∀ o : B2, b2Name o ∈ bnames ∧ b2Name o ≠ "__name__" ∧ (b2Name o == ("__debug__" : Str)) = false := by
  intro o
  cases o <;> decide +kernel
theorem b2_use {o : B2} (h : (b2P o d e).run M1 (kE K v0 f0 M G H Q) E) (t : Stp K M G H M1 G1 H1) (rx : Res K v1 f1 Ha M1 G1 H1 x d) (ry : Res K v2 f2 Hb M1 G1 H1 y e) : B2R o [x, y] H1 Q := by
  cases o <;> cases d <;> first | exact False.elim h | skip
  all_goals cases e <;> first | exact False.elim h | skip
  all_goals
    cases rx.nolst (fun _ z => nomatch z)
    cases ry.nolst (fun _ z => nomatch z)
    exact ⟨_, _, rfl, kE_rep h t (.int _) fun _ z => nomatch z⟩
/-! isinstance -/
def tyName : Ty → Str | .int => "int" | .bool => "bool" | .str => "str" | .tuple => "tuple" | .list => "list"
def tyId : Ty → String | .int => "int" | .bool => "bool" | .str => "str" | .tuple => "tuple" | .list => "list"
theorem ty_boot : ∀ t : Ty, bootBuiltins (tyName t) = some (.type (tyId t)) := by
  intro t
  cases t <;> decide +kernel
theorem ty_name : ∀ t : Ty, tyName t ∈ bnames ∧ tyName t ≠ "__name__" ∧ (tyName t == ("__debug__" : Str)) = false := by
  intro t
  cases t <;> decide +kernel
theorem isi_use {ty : Ty} {r : Bool} (h : isiF ty d = some r) (b : Bas K M1 G1 H1) (rx : Res K v1 f1 Ha M1 G1 H1 x d) : ∃ tn, TyX K H1 x (.type tn) ∧ kitB tn (tyId ty) = some r := by
  cases d with
  | non =>
    cases rx.nolst (fun _ z => nomatch z)
    exact ⟨_, .base .non, by cases ty <;> (cases h; decide +kernel)⟩
  | bl i =>
    cases rx.nolst (fun _ z => nomatch z)
    exact ⟨_, .base (.bl _), by cases ty <;> (cases h; decide +kernel)⟩
  | int i =>
    cases rx.nolst (fun _ z => nomatch z)
    exact ⟨_, .base (.int _), by cases ty <;> (cases h; decide +kernel)⟩
  | str i =>
    cases rx.nolst (fun _ z => nomatch z)
    exact ⟨_, .base (.str _), by cases ty <;> (cases h; decide +kernel)⟩
  | tup xs =>
    cases rx.nolst (fun _ z => nomatch z) with
    | tup ex qx => exact ⟨_, .base (.tup (b.sub _ _ ex)), by cases ty <;> (cases h; decide +kernel)⟩
  | lst xs =>
    obtain ⟨a, vs, rfl, ex, qx⟩ := rx.lst b
    exact ⟨_, .base (.lst ex), by cases ty <;> (cases h; decide +kernel)⟩
  | cell a => cases ty <;> cases h
  | scr a => cases ty <;> cases h
end

/-! ## the check of a tree -/
def visB (sc : Scope) (x : Str) : Bool := match sc.names.lookup x with | some .local => true | some .cell => true | some .free => true | _ => false
def locB (sc : Scope) (fn : Str → Bool) (x : Str) : Bool := match sc.names.lookup x with | some .local => true | some .cell => fn x | _ => false
def glbB (sc : Scope) (x : Str) : Bool := match sc.names.lookup x with | some .globalImplicit => true | _ => false
def nmB (x : Str) : Bool := !(x == ("__debug__" : Str)) && !(x == ("__classdict__" : Str))
def ord : Expr → Bool | .Starred .. => false | .Slice .. => false | .Set .. => false | _ => true
def isL : E → Bool | .nil => true | .cons .. => true | _ => false
def isI : E → Bool | .it1 .. => true | .it2 .. => true | .it3 .. => true | _ => false
def isX (e : E) : Bool := !isL e && !isI e
def tst : E → Bool | .ite .. => false | .ob .newl _ _ => false | .ob (.dlit _) _ _ => false | .ob .dget _ _ => false | .and a b => tst a && tst b | .or a b => tst a && tst b | .not a => tst a | _ => true
def tgNames : Tg → List Nat | .one i => [i] | .many is => is
def chkNm (N : List Str) (sc : Scope) (fn : Str → Bool) (i : Nat) : Expr → Bool
  | .Name x _ => decide (N[i]? = some x) && locB sc fn x
  | _ => false
def chkNms (N : List Str) (sc : Scope) (fn : Str → Bool) : List Nat → List Expr → Bool
  | [], [] => true
  | i :: is, x :: xs => chkNm N sc fn i x && chkNms N sc fn is xs
  | _, _ => false
def chkTg (N : List Str) (sc : Scope) (fn : Str → Bool) : Tg → Expr → Bool
  | .one i, x => chkNm N sc fn i x
  | .many is, .Tuple xs _ _ => chkNms N sc fn is xs
  | _, _ => false
def needsTup : E → Bool | .it1 .enum _ => true | .it2 .zip .. => true | _ => false
def isTupX : Expr → Bool | .Tuple .. => true | _ => false
def ownNames (N : List Str) (is : List Nat) : List (Str × Nat) := is.filterMap fun i => (N[i]?).map fun x => (x, i)

/-- the text of a rarer word, its parts -/
def notDot : Expr → Bool | .Name .. => true | _ => false
def dotOk : Expr → Bool | .Name .. => true | .Attribute .. => true | _ => false
def isLit : Expr → Bool | .Constant .. => true | _ => false
def sp1X (sc : Scope) : Sp1 → Expr → Option Expr
  | .lens, .Call (.Name x _) [.Call (.Name z _) [y] [] _] [] _ => if (decide (x = "len" ∧ z = "set") && glbB sc x && glbB sc z && ord y) = true then some y else none
  | .sortset, .Call (.Name x _) [.Call (.Name z _) [y] [] _] [] _ => if (decide (x = "sorted" ∧ z = "set") && glbB sc x && glbB sc z && ord y) = true then some y else none
  | .sortint, .Call (.Name x _) [.Call (.Name z _) [y] [] _] [] _ => if (decide (x = "sorted" ∧ z = "set") && glbB sc x && glbB sc z && ord y) = true then some y else none
  | .lrange, .Call (.Name x _) [.Call (.Name z _) [y] [] _] [] _ => if (decide (x = "list" ∧ z = "range") && glbB sc x && glbB sc z && ord y) = true then some y else none
  | .minT, .Call (.Name x _) [y] [] _ => if (decide (x = "min") && glbB sc x && ord y) = true then some y else none
  | .pop, .Call (.Attribute y m p2) [] [] p3 => if (decide (m = "pop") && dotOk y && (p2.endLine == p3.line)) = true then some y else none
  | .rev, .Subscript y (.Slice none none (some (.UnaryOp .USub (.Constant (.int 1) _ _) _)) _) _ => some y
  | _, _ => none
def sp2X (sc : Scope) : Sp2 → Expr → Option (Expr × Expr)
  | .index, .Call (.Attribute y m p2) [z] [] p3 => if (decide (m = "index") && notDot y && ord z && (p2.endLine == p3.line)) = true then some (y, z) else none
  | .join, .Call (.Attribute y m p2) [z] [] p3 => if (decide (m = "join") && isLit y && ord z && (p2.endLine == p3.line)) = true then some (y, z) else none
  | .splitOn, .Call (.Attribute y m p2) [z] [] p3 => if (decide (m = "split") && notDot y && ord z && (p2.endLine == p3.line)) = true then some (y, z) else none
  | _, _ => none
/-- the written dict -/
def dlB : List (Str × Int × Int) → List (Option Expr) → List Expr → Bool
  | [], [], [] => true
  | (k, u, w) :: r, some (.Constant (.str k') _ _) :: as, .Tuple [.Constant (.int u') _ _, .Constant (.int w') _ _] _ _ :: bs => decide (k = k' ∧ u = u' ∧ w = w') && (r.lookup k).isNone && dlB r as bs
  | _, _, _ => false
def noSlB : Expr → Bool | .Name .. => true | .Subscript _ (.Constant ..) _ => true | _ => false
def eqOp : Bool → CmpOp | true => .NotEq | false => .Eq
def obX (sc : Scope) : Ob → Expr → Option (List Expr × List Expr)
  | .attr f, .Attribute y m _ => if (decide (m = f) && dotOk y) = true then some ([y], []) else none
  | .meth m _, .Call (.Attribute y n p2) zs [] p3 => if (decide (n = m) && dotOk y && zs.all ord && (p2.endLine == p3.line) && decide (zs.length < 20)) = true then some ([y], zs) else none
  | .make c _, .Call (.Name x _) (z :: zs) [] _ => if (decide (x = c) && nmB x && glbB sc x && (z :: zs).all ord) = true then some ([], z :: zs) else none
  | .newl, x => some ([x], [])
  | .lenO _, .Call (.Name x _) [y] [] _ => if (decide (x = "len") && glbB sc x && ord y) = true then some ([y], []) else none
  | .eqO neg _, .Compare x [op] [y] _ => if (decide (op = eqOp neg) && ord y) = true then some ([x], [y]) else none
  | .dlit ks, .Dict as bs _ => if (!as.isEmpty && dlB ks as bs && decide (ks.length ≤ 15)) = true then some ([], []) else none
  | .dget, .Subscript x y _ => if (ord y && noSlB y) = true then some ([x], [y]) else none
  | .dnin, .Compare x [.NotIn] [y] _ => if ord y = true then some ([x], [y]) else none
  | .isk c, .Call (.Name x _) [y, .Name z _] [] _ => if (decide (x = "isinstance" ∧ z = c) && glbB sc x && glbB sc z && nmB z && ord y) = true then some ([y], []) else none
  | _, _ => none
/-- what the first part is -/
def obA : Ob → E → Bool | .make .., a => isL a | .dlit _, a => isL a | .newl, a => isX a && vOk a && frOk a | _, a => isX a
def obB : Ob → E → Bool | .eqO .., b => isX b | .dget, b => isX b | .dnin, b => isX b | _, b => isL b
def obT : Ob → Bool | .newl => false | .dlit _ => false | .dget => false | _ => true
def sp3X (sc : Scope) : Sp3 → Expr → Option (Expr × Expr × Expr)
  | _, _ => none
def chk (N : List Str) : E → Scope → (Str → Bool) → List Expr → Bool
  | .var i, sc, _, [.Name x _] => decide (N[i]? = some x) && visB sc x && nmB x
  | .brw i, sc, _, [.Name x _] => decide (N[i]? = some x) && visB sc x && nmB x
  | .int i, _, _, [.Constant (.int j) _ _] => decide (i = j)
  | .bl i, _, _, [.Constant (.bool j) _ _] => decide (i = j)
  | .str i, _, _, [.Constant (.str j) _ _] => decide (i = j)
  | .non, _, _, [.Constant .none _ _] => true
  | .nil, _, _, [] => true
  | .cons e es, sc, fn, x :: xs => isX e && vOk e && ord x && chk N e sc fn [x] && (isL es && chk N es sc fn xs)
  | .tup es, sc, fn, [.Tuple xs _ _] => isL es && chk N es sc fn xs
  | .lst es, sc, fn, [.List xs _] => isL es && chk N es sc fn xs
  | .neg a, sc, fn, [.UnaryOp op x _] => decide (op = .USub) && isX a && chk N a sc fn [x]
  | .bin o a b, sc, fn, [.BinOp x op y _] => decide (op = boOp o) && (isX a && chk N a sc fn [x]) && (isX b && chk N b sc fn [y])
  | .cmp o a b, sc, fn, [.Compare x [op] [y] _] => decide (op = coOp o) && ord y && (isX a && chk N a sc fn [x]) && (isX b && chk N b sc fn [y])
  | .chain o o' a b c, sc, fn, [.Compare x [op, op'] [y, z] _] => decide (op = coOp o ∧ op' = coOp o') && ord z && (isX a && chk N a sc fn [x]) && (isX b && chk N b sc fn [y]) && (isX c && chk N c sc fn [z])
  | .isN a, sc, fn, [.Compare x [op] [.Constant .none _ _] _] => decide (op = .Is) && isX a && chk N a sc fn [x]
  | .notN a, sc, fn, [.Compare x [op] [.Constant .none _ _] _] => decide (op = .IsNot) && isX a && chk N a sc fn [x]
  | .and a b, sc, fn, [.BoolOp op (x :: y :: r) pos] => decide (op = .And) && (isX a && chk N a sc fn [x]) && (isX b && chk N b sc fn [match r with | [] => y | _ => .BoolOp op (y :: r) pos])
  | .or a b, sc, fn, [.BoolOp op (x :: y :: r) pos] => decide (op = .Or) && (isX a && chk N a sc fn [x]) && (isX b && chk N b sc fn [match r with | [] => y | _ => .BoolOp op (y :: r) pos])
  | .not a, sc, fn, [.UnaryOp op x _] => decide (op = .Not) && isX a && chk N a sc fn [x]
  | .ite c a b, sc, fn, [.IfExp t x y _] => (isX c && tst c && chk N c sc fn [t]) && (isX a && chk N a sc fn [x]) && (isX b && chk N b sc fn [y])
  | .call f _ es, sc, fn, [.Call (.Name x _) (y :: ys) [] _] => decide (x = f) && nmB x && glbB sc x && isL es && chk N es sc fn (y :: ys)
  | .isi a t, sc, fn, [.Call (.Name x _) [y, .Name z _] [] _] => decide (x = "isinstance") && glbB sc x && decide (z = tyName t) && glbB sc z && ord y && isX a && chk N a sc fn [y]
  | .b1 o a, sc, fn, [.Call (.Name x _) [y] [] _] => b1Ok o && decide (x = b1Name o) && glbB sc x && ord y && isX a && chk N a sc fn [y]
  | .b2 o a b, sc, fn, [.Call (.Name x _) [y, z] [] _] => decide (x = b2Name o) && glbB sc x && ord y && ord z && (isX a && chk N a sc fn [y]) && (isX b && chk N b sc fn [z])
  | .ix a i, sc, fn, [.Subscript x y _] => ord y && (isX a && chk N a sc fn [x]) && (isX i && chk N i sc fn [y])
  | .cut bl bh a lo hi, sc, fn, [.Subscript x (.Slice l h none _) _] => (isX a && chk N a sc fn [x]) && (match bl, l with | false, none => true | true, some l => isX lo && chk N lo sc fn [l] | _, _ => false) && (match bh, h with | false, none => true | true, some h => isX hi && chk N hi sc fn [h] | _, _ => false)
  | .it1 k a, sc, fn, [x] => (match k, x with
      | .seq, x => isX a && ord x && chk N a sc fn [x]
      | .range, .Call (.Name z _) [y] [] _ => decide (z = "range") && glbB sc z && ord y && isX a && chk N a sc fn [y]
      | .enum, .Call (.Name z _) [y] [] _ => decide (z = "enumerate") && glbB sc z && ord y && isX a && chk N a sc fn [y]
      | _, _ => false)
  | .it2 k a b, sc, fn, [.Call (.Name z _) [x, y] [] _] => (match k with | .range => decide (z = "range") | .zip => decide (z = "zip")) && glbB sc z && ord x && ord y && (isX a && chk N a sc fn [x]) && (isX b && chk N b sc fn [y])
  | .it3 a b c, sc, fn, [.Call (.Name z _) [x, y, u] [] _] => decide (z = "range") && glbB sc z && ord x && ord y && ord u && (isX a && chk N a sc fn [x]) && (isX b && chk N b sc fn [y]) && (isX c && chk N c sc fn [u])
  | .comp elt tg it t own, sc, fn, [.ListComp x [⟨tx, ix, ifs, 0⟩] scope _] => isI it && ord ix && (!needsTup it || isTupX tx) && chk N it sc fn [ix] && blkC N sc scope (ownNames N own) && decide ((ownNames N own).map (·.2) = own) && ((tgNames tg).all fun i => own.contains i) &&
      chkTg N (relS scope sc) (fun x => scope.names.lookup x == some .cell) tg tx &&
      (match ifs with | [] => (match t with | .bl true => true | _ => false) | [c] => isX t && tst t && chk N t (relS scope sc) (fun x => scope.names.lookup x == some .cell) [c] | _ => false) &&
      (isX elt && vOk elt && chk N elt (relS scope sc) (fun x => scope.names.lookup x == some .cell) [x])
  | .sp1 o a, sc, fn, [x] => (match sp1X sc o x with | some y => isX a && chk N a sc fn [y] | none => false)
  | .sp2 o a b, sc, fn, [x] => (match sp2X sc o x with | some (y, z) => (isX a && chk N a sc fn [y]) && (isX b && chk N b sc fn [z]) | none => false)
  | .sp3 o a b c, sc, fn, [x] => (match sp3X sc o x with | some (y, z, u) => (isX a && chk N a sc fn [y]) && (isX b && chk N b sc fn [z]) && (isX c && chk N c sc fn [u]) | none => false)
  | .ob o a b, sc, fn, [x] => (match obX sc o x with | some (ys, zs) => (obA o a && chk N a sc fn ys) && (obB o b && chk N b sc fn zs) | none => false)
  | .lend _ a, sc, fn, [.Call f as ks p] => isX a && chk N a sc fn [.Call f as ks p]
  | _, _, _, _ => false
end PL
set_option Elab.async false
set_option linter.all false
set_option maxRecDepth 100000
set_option maxHeartbeats 1000000
namespace PL
open L2 PySem PyProof.Rows PySem.Spec

structure Good (X : Cx) (W : WX) (fn : Str → Bool) : Prop where
  calm : X.calm = true
  nd : X.N.Nodup
  tk : Takes X W
  hu : X.A.units + 65 < cLine
  nm : ∀ x ∈ bnames, X.mg x = none
  fnE : X.fn = fn
/-- the promise of a def with the specification F -/
def spF (EX : Nat → Addr) (K : PySem.W.Frag) (F : FS) : Sp := fun vs H Q E => ∃ ds M G, Bas K M G H ∧ Reps K G vs ds ∧
  (PM.call F ds).run M (fun d M' => ∀ v G' H', Stp K M G H M' G' H' → Rep K G' v d → Q v H') (fun k M' => ∀ G' H', Stp K M G H M' G' H' → E (.ref (EX k)) none H')
def CallOk (EX : Nat → Addr) (P : Program) (w : World) (K : PySem.W.Frag) (mg : Str → Option Value) (base : Heap) (A : Around) (f : Str) (F : FS) : Prop :=
  ∃ (a : Addr) (fd : FuncData) (ps : List Str) (k : Nat), FnOk P w K mg base (L2.CX P w) k a fd ps (spF EX K F) ∧ Room k A ∧ mg f = some (.ref a) ∧ PySem.W.keepIn K (.ref a) = true ∧ Binds K fd ps []
def ObOk (EX : Nat → Addr) (P : Program) (w : World) (K : PySem.W.Frag) (mg : Str → Option Value) (base : Heap) (A : Around) : Ob → Prop
  | .attr f => Cls K (kC K) ∧ NoAttr K (kC K) f
  | .meth m F => Cls K (kC K) ∧ ∃ (f : Addr) (fd : FuncData) (ps : List Str) (k : Nat), Meth K (kC K) m f ∧ FnOk P w K mg base (L2.CX P w) k f fd ps (spF EX K F) ∧ Room k A ∧ Binds K fd ps []
  | .make c F => ∃ (f : Addr) (fd : FuncData) (ps : List Str) (k : Nat), Mk K (kC K) f ∧ FnOk P w K mg base (L2.CX P w) k f fd ps (spF EX K F) ∧ Room (k + 1) A ∧ mg c = some (.ref (kC K)) ∧ Binds K fd ps []
  | .newl => True | .dlit _ => True | .dget => True | .dnin => True
  | .lenO F => ∃ (f : Addr) (fd : FuncData) (ps : List Str) (k : Nat), Meth K (kC K) "__len__" f ∧ FnOk P w K mg base (L2.CX P w) k f fd ps (spF EX K F) ∧ Room (k + 1) A ∧ Binds K fd ps []
  | .eqO _ F => PySem.W.mroIn K (kC K) (.type "object") = some true ∧ PySem.W.subIn K (.type "tuple") (.ref (kC K)) = some false ∧ PySem.W.findIn K (.ref (kC K)) "__ne__" = some (some (.builtin "object.__ne__")) ∧
      ∃ (f : Addr) (fd : FuncData) (ps : List Str) (k : Nat), Meth K (kC K) "__eq__" f ∧ FnOk P w K mg base (L2.CX P w) k f fd ps (spF EX K F) ∧ Room (k + 1) A ∧ Binds K fd ps []
  | .isk c => mg c = some (.ref (kC K)) ∧ Cls K (kC K) ∧ PySem.W.keepIn K (.ref (kC K)) = true ∧ PySem.W.findIn K (.ref (kC K)) "__class__" = some (some (.builtin "object.__class__")) ∧ PySem.W.specialIn K (.builtin "object.__class__") "__get__" = some (some (.builtin "getset_descriptor.__get__")) ∧
      PySem.W.takesIn K (.builtin "object.__class__") = some true ∧ PySem.W.mroIn K (kC K) (.type "object") = some true ∧ PySem.W.kitOne K (.ref (kC K)) (.ref (kC K)) = some true ∧ PySem.W.kitOne K (.type "tuple") (.ref (kC K)) = some false
def CallsOk (C : Str → FS → Prop) (O : Ob → Prop) : E → Prop
  | .cons e es => CallsOk C O e ∧ CallsOk C O es | .tup es => CallsOk C O es | .lst es => CallsOk C O es | .neg a => CallsOk C O a
  | .bin _ a b => CallsOk C O a ∧ CallsOk C O b | .cmp _ a b => CallsOk C O a ∧ CallsOk C O b | .chain _ _ a b c => CallsOk C O a ∧ CallsOk C O b ∧ CallsOk C O c
  | .isN a => CallsOk C O a | .notN a => CallsOk C O a | .and a b => CallsOk C O a ∧ CallsOk C O b | .or a b => CallsOk C O a ∧ CallsOk C O b | .not a => CallsOk C O a
  | .ite c a b => CallsOk C O c ∧ CallsOk C O a ∧ CallsOk C O b | .call f F es => C f F ∧ CallsOk C O es | .isi a _ => CallsOk C O a | .b1 _ a => CallsOk C O a | .b2 _ a b => CallsOk C O a ∧ CallsOk C O b
  | .ix a i => CallsOk C O a ∧ CallsOk C O i | .cut _ _ a l h => CallsOk C O a ∧ CallsOk C O l ∧ CallsOk C O h
  | .it1 _ a => CallsOk C O a | .it2 _ a b => CallsOk C O a ∧ CallsOk C O b | .it3 a b c => CallsOk C O a ∧ CallsOk C O b ∧ CallsOk C O c
  | .comp e _ i t _ => CallsOk C O e ∧ CallsOk C O i ∧ CallsOk C O t
  | .sp1 _ a => CallsOk C O a | .sp2 _ a b => CallsOk C O a ∧ CallsOk C O b | .sp3 _ a b c => CallsOk C O a ∧ CallsOk C O b ∧ CallsOk C O c
  | .lend _ a => CallsOk C O a
  | .ob o a b => O o ∧ CallsOk C O a ∧ CallsOk C O b
  | _ => True
abbrev CallsX (EX : Nat → Addr) (X : Cx) : E → Prop := CallsOk (CallOk EX X.prog X.w X.K X.mg X.base X.A) (ObOk EX X.prog X.w X.K X.mg X.base X.A)

/-! ## what is walked -/
def PinOk (v0 : Bool) (H0 : Hp) (M : Mem) (G H : Hp) (pins : List (Addr × HO)) : Prop := ∀ p ∈ pins, H p.1 = some p.2 ∧ M p.1 = none ∧ (G p.1 = some p.2 ∨ (G p.1 = none ∧ (v0 = true → H0 p.1 = none)))
def Walks (K : PySem.W.Frag) (J : It) (pins : List (Addr × HO)) (G : Hp) (ds : List D) : Prop := ∀ G2 H2, Same G G2 → Same G2 H2 → (∀ p ∈ pins, H2 p.1 = some p.2) →
  (∀ (i : Nat) d, ds[i]? = some d → J.go i H2 ∧ ∀ x H3, J.yld i H2 x H3 → (H3 = H2 ∧ Rep K G2 x d) ∨ ∃ T vs es, x = .ref T ∧ H2 T = none ∧ H3 = upd H2 T (.tup vs) ∧ d = .tup es ∧ Reps K G2 vs es) ∧ J.stop ds.length H2
def vI : E → Bool | .it1 _ a => vOk a | .it2 _ a b => vOk a && vOk b | _ => true
def kI (K : PySem.W.Frag) (v0 : Bool) (M : Mem) (G H : Hp) (R : It → Hp → Prop) : D → Mem → Prop := fun t M' => ∀ ds J G' H' pins, t = .tup ds → Stp K M G H M' G' H' → PinOk v0 H M' G' H' pins → Walks K J pins G' ds → R J H'
def tI (EX : Nat → Addr) (W : WX) (K : PySem.W.Frag) (p : E) : TI := fun σ H R => ∃ ρ M G, Bas K M G H ∧ EnvOk K ρ M G σ H ∧ (wp p ρ).run M (kI K (vI p) M G H R) (exW EX W K M G σ H)
theorem _root_.L2.PI.imp {X : Cx} {tg e : Expr} {t t' : TI} (h : PI X tg e t) (hi : ∀ σ H Q, t' σ H Q → t σ H Q) : PI X tg e t' := ⟨fun pins s σ H Q I q => h.run pins s σ H Q I (hi σ H Q q)⟩

section
variable {EX : Nat → Addr} {X : Cx} {W : WX} {fn : Str → Bool} {K : PySem.W.Frag} {ρ : Slots} {M : Mem} {G H : Hp} {σ : L2.St} {a b c : E} {x y z : Expr} {pos : Pos}
theorem Res.any {v0 f0 : Bool} {H0 H1 : Hp} {v : V} {d : D} (h : Res K v0 f0 H0 M G H v d) : Res K false false H1 M G H v d := by
  rcases h with ⟨h, n⟩ | ⟨a, vs, xs, rfl, rfl, h1, h2, h3, r, n⟩
  · exact .inl ⟨h, fun z => nomatch z⟩
  · exact .inr ⟨a, vs, xs, rfl, rfl, h1, h2, h3, r, fun z => nomatch z⟩
theorem one_of {C : D → Mem → Prop} {E0 : EK} {R : V → Hp → Prop} (b : Bas K M G H) (e : EnvOk K ρ M G σ H) (h : (wp a ρ).run M C E0) (hE : ∀ k M', E0 k M' → exW EX W K M G σ H k M')
    (hC : ∀ d M1 x G1 H1, C d M1 → Stp K M G H M1 G1 H1 → Res K false false H M1 G1 H1 x d → R x H1) : tE EX W K a σ H R :=
  tE_of b e h (fun d M' v G' H' c t _ r => hC d M' v G' H' c t r.any) hE
theorem two_of {C : D → D → Mem → Prop} {E0 : EK} {R : V → V → Hp → Prop} (b' : Bas K M G H) (e' : EnvOk K ρ M G σ H) (h : (wp a ρ).run M (fun d M1 => (wp b ρ).run M1 (C d) E0) E0) (hE : ∀ k M', E0 k M' → exW EX W K M G σ H k M')
    (hC : ∀ d e M2 x y G2 H2, C d e M2 → Stp K M G H M2 G2 H2 → Res K false false H M2 G2 H2 x d → Res K false false H M2 G2 H2 y e → R x y H2) : tE EX W K a σ H fun x H1 => tE EX W K b σ H1 fun y H2 => R x y H2 :=
  tE_of b' e' h (fun d M1 v G1 H1 c1 t1 en1 r1 => tE_of t1.bas en1 c1 (fun e M2 u G2 H2 c2 t2 _ r2 => hC d e M2 v u G2 H2 c2 (t1.trans t2) (r1.step t2).any r2.any) fun k M' q => exW_after t1 (hE k M' q)) hE
theorem three_of {C : D → D → D → Mem → Prop} {E0 : EK} {R : V → V → V → Hp → Prop} (b' : Bas K M G H) (e' : EnvOk K ρ M G σ H) (h : (wp a ρ).run M (fun d M1 => (wp b ρ).run M1 (fun e M2 => (wp c ρ).run M2 (C d e) E0) E0) E0) (hE : ∀ k M', E0 k M' → exW EX W K M G σ H k M')
    (hC : ∀ d e g M3 x y z G3 H3, C d e g M3 → Stp K M G H M3 G3 H3 → Res K false false H M3 G3 H3 x d → Res K false false H M3 G3 H3 y e → Res K false false H M3 G3 H3 z g → R x y z H3) : tE EX W K a σ H fun x H1 => tE EX W K b σ H1 fun y H2 => tE EX W K c σ H2 fun z H3 => R x y z H3 :=
  tE_of b' e' h (fun d M1 v G1 H1 c1 t1 en1 r1 => tE_of t1.bas en1 c1 (fun e M2 u G2 H2 c2 t2 en2 r2 => tE_of t2.bas en2 c2 (fun g M3 w G3 H3 c3 t3 _ r3 => hC d e g M3 v u w G3 H3 c3 ((t1.trans t2).trans t3) ((r1.step t2).step t3).any (r2.step t3).any r3.any)
    fun k M' q => exW_after (t1.trans t2) (hE k M' q)) fun k M' q => exW_after t1 (hE k M' q)) hE
theorem bo_run {α β : Type} {x : PM α} {f : α → PM β} {M : Mem} {Q : β → Mem → Prop} {E : EK} (h : (PM.bind x f).run M Q E) : x.run M (fun a M' => (f a).run M' Q E) E := h

/-! ### tests -/
theorem pt_of {p : E} {e : Expr} (h : PE X e (tE EX W X.K p)) (hp : ∀ whole, isTrue e X.env whole = (do let v ← whole; standAt e.pos; holding [v] (truthy v))) : PT X e (tT EX W X.K p) :=
  (pt_truth h hp).imp fun σ H Q ⟨ρ, M, G, b, en, q⟩ => one_of b en (bo_run q) (fun _ _ z => z) fun d M1 v G1 H1 c t r => by
    obtain ⟨k, q1, q2⟩ := tru_use c t.bas r
    exact ⟨k, q2, q1 G1 H1 t⟩

/-! ### leaves -/
theorem e_var {i : Nat} {n : Str} (h : (decide (X.N[i]? = some n) && visB X.env.scope n && nmB n) = true) : PE X (.Name n pos) (tE EX W X.K (.var i)) := by
  simp only [Bool.and_eq_true, decide_eq_true_eq] at h
  obtain ⟨⟨h1, h2⟩, h3⟩ := h
  unfold nmB at h3
  simp only [Bool.and_eq_true, Bool.not_eq_true'] at h3
  have hv : Vis X.env.scope n := by
    unfold visB at h2
    split at h2 <;> first | exact .inl (by assumption) | exact .inr (.inl (by assumption)) | exact .inr (.inr (by assumption)) | cases h2
  refine (pe_var h1 hv h3.1 h3.2).imp fun σ H Q ⟨ρ, M, G, b, en, q⟩ => ?_
  have q' : (match ρ[i]? with | some (.val d) => (PM.pure d : PM D) | _ => .fail).run M (kE X.K true false M G H Q) (exW EX W X.K M G σ H) := q
  cases e : ρ[i]? with
  | none => rw [e] at q'; exact False.elim q'
  | some s =>
    rw [e] at q'
    cases s with
    | val d =>
      obtain ⟨v, e1, r⟩ := en.val e
      exact ⟨v, e1, q' v G H (.refl b) (.rep r fun z => nomatch z)⟩
    | unk => exact False.elim q'
    | own xs => exact False.elim q'
theorem e_brw {i : Nat} {n : Str} (h : (decide (X.N[i]? = some n) && visB X.env.scope n && nmB n) = true) : PE X (.Name n pos) (tE EX W X.K (.brw i)) := by
  simp only [Bool.and_eq_true, decide_eq_true_eq] at h
  obtain ⟨⟨h1, h2⟩, h3⟩ := h
  unfold nmB at h3
  simp only [Bool.and_eq_true, Bool.not_eq_true'] at h3
  have hv : Vis X.env.scope n := by
    unfold visB at h2
    split at h2 <;> first | exact .inl (by assumption) | exact .inr (.inl (by assumption)) | exact .inr (.inr (by assumption)) | cases h2
  refine (pe_var h1 hv h3.1 h3.2).imp fun σ H Q ⟨ρ, M, G, b, en, q⟩ => ?_
  have q' : (match ρ[i]? with | some (.val d) => (PM.pure d : PM D) | some (.own xs) => .pure (.lst xs) | _ => .fail).run M (kE X.K false false M G H Q) (exW EX W X.K M G σ H) := q
  cases e : ρ[i]? with
  | none => rw [e] at q'; exact False.elim q'
  | some s =>
    rw [e] at q'
    cases s with
    | val d =>
      obtain ⟨v, e1, r⟩ := en.val e
      exact ⟨v, e1, q' v G H (.refl b) (.rep r fun z => nomatch z)⟩
    | unk => exact False.elim q'
    | own xs =>
      obtain ⟨a, vs, e1, h1, h2, h3, r⟩ := en.own e
      exact ⟨_, e1, q' _ G H (.refl b) (.inr ⟨a, vs, xs, rfl, rfl, h1, h2, h3, r, fun z => nomatch z⟩)⟩
theorem e_lit {p : E} {d : D} {v : V} (hw : ∀ ρ, wp p ρ = .pure d) (hf : frOk p = false) (r : ∀ G, Rep X.K G v d) (h : PE X x (tC v)) : PE X x (tE EX W X.K p) :=
  h.imp fun σ H Q ⟨ρ, M, G, b, en, q⟩ => by
    rw [hw] at q
    exact q v G H (.refl b) (.rep (r G) fun z => by rw [hf] at z; cases z)

/-! ### argument lists, displays -/
theorem a_nil : PA X [] (tA EX W X.K .nil) := pa_nil.imp fun σ H Q ⟨ρ, M, G, b, en, q⟩ => q [] [] G H rfl (.refl b) .nil
theorem star_of (h : ord x = true) (ys : List Expr) (env : Env) : starEach (x :: ys) env = (false, eval x env) :: starEach ys env := by
  cases x <;> first | rfl | cases h
theorem a_cons {es : E} {ys : List Expr} (hv : vOk a = true) (ho : ord x = true) (ha : PE X x (tE EX W X.K a)) (hs : PA X ys (tA EX W X.K es)) : PA X (x :: ys) (tA EX W X.K (.cons a es)) :=
  (pa_cons ha hs (star_of ho _ _)).imp fun σ H Q ⟨ρ, M, G, b, en, q⟩ => by
    refine tE_val hv b en (bo_run q) (fun d M1 v G1 H1 c1 t1 en1 r1 => ?_) fun _ _ z => z
    refine tA_of t1.bas en1 (bo_run c1) (fun ds M2 vs G2 H2 c2 t2 en2 r2 => ?_) fun k M' z => exW_after t1 z
    exact c2 (d :: ds) (v :: vs) G2 H2 rfl (t1.trans t2) (.cons (r1.mono t2.gg) r2)
theorem e_tup {es : E} {ys : List Expr} {k : Nat} (hs : PA X ys (tA EX W X.K es)) : PE X (.Tuple ys k pos) (tE EX W X.K (.tup es)) :=
  (pe_tup hs).imp fun σ H Q ⟨ρ, M, G, b, en, q⟩ => tA_of b en (bo_run q) (fun ds M1 vs G1 H1 c t _ r => by
    obtain ⟨hl, c⟩ := c
    exact ⟨by rw [r.length]; exact hl, fun p n => kE_newT c t r n⟩) fun _ _ z => z
theorem e_lst {es : E} {ys : List Expr} (hs : PA X ys (tA EX W X.K es)) : PE X (.List ys pos) (tE EX W X.K (.lst es)) :=
  (pe_lst hs).imp fun σ H Q ⟨ρ, M, G, b, en, q⟩ => tA_of b en (bo_run q) (fun ds M1 vs G1 H1 c t _ r => by
    obtain ⟨hl, c⟩ := c
    exact ⟨by rw [r.length]; exact hl, fun p n => kE_newL c t r n⟩) fun _ _ z => z

/-! ### operators -/
theorem e_neg (ha : PE X x (tE EX W X.K a)) : PE X (.UnaryOp .USub x pos) (tE EX W X.K (.neg a)) :=
  (pe_un un_neg ha).imp fun σ H Q ⟨ρ, M, G, b, en, q⟩ => one_of b en (bo_run q) (fun _ _ z => z) fun d M1 v G1 H1 c t r => by
    cases d <;> first | exact False.elim c | skip
    case int i =>
      cases r.nolst (fun _ z => nomatch z)
      exact ⟨i, rfl, c _ G1 H1 t (.rep (.int _) fun _ _ z => nomatch z)⟩
theorem e_bin {o : Bo} (ha : PE X x (tE EX W X.K a)) (hb : PE X y (tE EX W X.K b)) : PE X (.BinOp x (boOp o) y pos) (tE EX W X.K (.bin o a b)) :=
  (pe_op (boR_ok o) ha hb).imp fun σ H Q ⟨ρ, M, G, b, en, q⟩ => two_of b en q (fun _ _ z => z) fun d e M2 v u G2 H2 c t r1 r2 => bo_use c t r1 r2
theorem mark_of (h : ord y = true) (op : CmpOp) : behindInMarks op y = false := by
  cases y <;> first | rfl | cases h
theorem e_cmp {o : Co} (hu : X.A.units + 65 < cLine) (ho : ord y = true) (ha : PE X x (tE EX W X.K a)) (hb : PE X y (tE EX W X.K b)) : PE X (.Compare x [coOp o] [y] pos) (tE EX W X.K (.cmp o a b)) ∧ PT X (.Compare x [coOp o] [y] pos) (tT EX W X.K (.cmp o a b)) := by
  constructor
  · refine (pe_cmpR (coR_ok hu o) ha hb (mark_of ho _)).imp fun σ H Q ⟨ρ, M, G, b, en, q⟩ => two_of b en q (fun _ _ z => z) fun d e M2 v u G2 H2 c t r1 r2 => ?_
    obtain ⟨k, c1, c2⟩ := co_use c t.bas r1 r2
    exact c2 _ (c1 _ G2 H2 t (.rep (.bl k) fun _ _ z => nomatch z))
  · refine (pt_cmpR (coR_ok hu o) ha hb (mark_of ho _)).imp fun σ H Q ⟨ρ, M, G, b, en, q⟩ => two_of b en q (fun _ _ z => z) fun d e M2 v u G2 H2 c t r1 r2 => ?_
    obtain ⟨k, c1, c2⟩ := co_use c t.bas r1 r2
    exact c2 _ ⟨k, rfl, c1.2 G2 H2 t⟩
theorem marks_of (h : ord z = true) (op op' : CmpOp) : lastMarks [op, op'] [y, z] = false := mark_of h op'
theorem chain_use {o o' : Co} {C : D → Mem → Prop} {M : Mem} {E0 : EK} {t : Bool} {e : D} (h : ((match (D.bl t) with | .bl true => PM.bind (wp c ρ) fun g => coP o' e g | .bl false => .pure (.bl false) | _ => .fail : PM D)).run M C E0) :
    if t = true then (wp c ρ).run M (fun g M' => (coP o' e g).run M' C E0) E0 else C (.bl false) M := by
  cases t with
  | true => exact h
  | false => exact h
theorem chain_red {o o' : Co} {Q : VK} {C : D → Mem → Prop} {E0 : EK} (b' : Bas K M G H) (en : EnvOk K ρ M G σ H) (q : (wp (.chain o o' a b c) ρ).run M C E0) (hE : ∀ k M', E0 k M' → exW EX W K M G σ H k M')
    (fin : ∀ k M' G' H', C (.bl k) M' → Stp K M G H M' G' H' → Q (.bl k) H') : tChain (CoR K o) (CoR K o') (tE EX W K a) (tE EX W K b) (tE EX W K c) σ H Q := by
  refine tE_of b' en (bo_run q) (fun d M1 v G1 H1 c1 t1 en1 r1 => tE_of t1.bas en1 (bo_run c1) (fun e M2 u G2 H2 c2 t2 en2 r2 => ?_) fun k M' z => exW_after t1 (hE k M' z)) hE
  have t12 := t1.trans t2
  obtain ⟨k, q1, q2⟩ := co_use (bo_run c2) t12.bas (r1.step t2) r2
  refine q2 _ ⟨k, rfl, ?_⟩
  have q3 := chain_use (o := o) q1
  cases k with
  | true =>
    refine iteT ?_
    refine tE_of t12.bas en2 (show (wp c ρ).run M2 _ E0 from q3) (fun g M3 w G3 H3 c3 t3 en3 r3 => ?_) fun k M' z => exW_after t12 (hE k M' z)
    obtain ⟨k2, q4, q5⟩ := co_use c3 t3.bas (r2.step t3) r3
    exact q5 _ (fin k2 M3 G3 H3 q4 (t12.trans t3))
  | false =>
    refine iteF ?_
    exact fin false M2 G2 H2 q3 t12
theorem e_chain {o o' : Co} (hu : X.A.units + 65 < cLine) (ho : ord z = true) (ha : PE X x (tE EX W X.K a)) (hb : PE X y (tE EX W X.K b)) (hc : PE X z (tE EX W X.K c)) :
    PE X (.Compare x [coOp o, coOp o'] [y, z] pos) (tE EX W X.K (.chain o o' a b c)) ∧ PT X (.Compare x [coOp o, coOp o'] [y, z] pos) (tT EX W X.K (.chain o o' a b c)) := by
  constructor
  · exact (pe_chain (coR_ok hu o) (coR_ok hu o') ha hb hc (marks_of ho _ _)).imp fun σ H Q ⟨ρ, M, G, b, en, q⟩ => chain_red b en q (fun _ _ z => z) fun k M' G' H' c t => c _ G' H' t (.rep (.bl k) fun z => nomatch z)
  · exact (pt_chain (coR_ok hu o) (coR_ok hu o') ha hb hc (marks_of ho _ _)).imp fun σ H Q ⟨ρ, M, G, b, en, q⟩ => chain_red b en (bo_run q) (fun _ _ z => z) fun k M' G' H' c t => ⟨k, rfl, c.2 G' H' t⟩
theorem non_use {v0 f0 : Bool} {H0 : Hp} {v : V} {d : D} (r : Res K v0 f0 H0 M G H v d) : (d = .non ∧ v = .non) ∨ (d ≠ .non ∧ v ≠ .non) := by
  rcases r with ⟨h, _⟩ | ⟨a, vs, xs, rfl, rfl, _⟩
  · cases h <;> first | exact .inl ⟨rfl, rfl⟩ | exact .inr ⟨(fun z => nomatch z), (fun z => nomatch z)⟩
  · exact .inr ⟨(fun z => nomatch z), (fun z => nomatch z)⟩
theorem isN_run {C : D → Mem → Prop} {E0 : EK} {d : D} (h : ((match d with | .non => PM.pure (.bl true) | _ => .pure (.bl false) : PM D)).run M C E0) : (d = .non → C (.bl true) M) ∧ (d ≠ .non → C (.bl false) M) := by
  cases d <;> first | exact ⟨fun _ => h, fun n => absurd rfl n⟩ | exact ⟨(fun z => nomatch z), fun _ => h⟩
theorem notN_run {C : D → Mem → Prop} {E0 : EK} {d : D} (h : ((match d with | .non => PM.pure (.bl false) | _ => .pure (.bl true) : PM D)).run M C E0) : (d = .non → C (.bl false) M) ∧ (d ≠ .non → C (.bl true) M) := by
  cases d <;> first | exact ⟨fun _ => h, fun n => absurd rfl n⟩ | exact ⟨(fun z => nomatch z), fun _ => h⟩
theorem e_isN {j : Nat} {p2 : Pos} (ha : PE X x (tE EX W X.K a)) : PE X (.Compare x [.Is] [.Constant .none j p2] pos) (tE EX W X.K (.isN a)) ∧ PT X (.Compare x [.Is] [.Constant .none j p2] pos) (tT EX W X.K (.isN a)) := by
  constructor
  · refine (pe_cmpR op_isN ha pe_non (nomark _)).imp fun σ H Q ⟨ρ, M, G, b, en, q⟩ => one_of b en (bo_run q) (fun _ _ z => z) fun d M1 v G1 H1 c t r => ?_
    refine ⟨rfl, ?_⟩
    obtain ⟨h1, h2⟩ := isN_run c
    rcases non_use r with ⟨e1, e2⟩ | ⟨e1, e2⟩
    · rw [decide_eq_true e2]; exact h1 e1 _ G1 H1 t (.rep (.bl _) fun z => nomatch z)
    · rw [decide_eq_false e2]; exact h2 e1 _ G1 H1 t (.rep (.bl _) fun z => nomatch z)
  · refine (pt_cmpR op_isN ha pe_non (nomark _)).imp fun σ H Q ⟨ρ, M, G, b, en, q⟩ => one_of b en (bo_run (bo_run q)) (fun _ _ z => z) fun d M1 v G1 H1 c t r => ?_
    refine ⟨rfl, ?_⟩
    obtain ⟨h1, h2⟩ := isN_run c
    rcases non_use r with ⟨e1, e2⟩ | ⟨e1, e2⟩
    · exact ⟨_, rfl, by rw [decide_eq_true e2]; exact (h1 e1).2 G1 H1 t⟩
    · exact ⟨_, rfl, by rw [decide_eq_false e2]; exact (h2 e1).2 G1 H1 t⟩
theorem e_notN {j : Nat} {p2 : Pos} (ha : PE X x (tE EX W X.K a)) : PE X (.Compare x [.IsNot] [.Constant .none j p2] pos) (tE EX W X.K (.notN a)) ∧ PT X (.Compare x [.IsNot] [.Constant .none j p2] pos) (tT EX W X.K (.notN a)) := by
  constructor
  · refine (pe_cmpR op_notN ha pe_non (nomark _)).imp fun σ H Q ⟨ρ, M, G, b, en, q⟩ => one_of b en (bo_run q) (fun _ _ z => z) fun d M1 v G1 H1 c t r => ?_
    refine ⟨rfl, ?_⟩
    obtain ⟨h1, h2⟩ := notN_run c
    rcases non_use r with ⟨e1, e2⟩ | ⟨e1, e2⟩
    · rw [decide_eq_true e2]; exact h1 e1 _ G1 H1 t (.rep (.bl _) fun z => nomatch z)
    · rw [decide_eq_false e2]; exact h2 e1 _ G1 H1 t (.rep (.bl _) fun z => nomatch z)
  · refine (pt_cmpR op_notN ha pe_non (nomark _)).imp fun σ H Q ⟨ρ, M, G, b, en, q⟩ => one_of b en (bo_run (bo_run q)) (fun _ _ z => z) fun d M1 v G1 H1 c t r => ?_
    refine ⟨rfl, ?_⟩
    obtain ⟨h1, h2⟩ := notN_run c
    rcases non_use r with ⟨e1, e2⟩ | ⟨e1, e2⟩
    · exact ⟨_, rfl, by rw [decide_eq_true e2]; exact (h1 e1).2 G1 H1 t⟩
    · exact ⟨_, rfl, by rw [decide_eq_false e2]; exact (h2 e1).2 G1 H1 t⟩
end
end PL
set_option Elab.async false
set_option linter.all false
set_option maxRecDepth 100000
set_option maxHeartbeats 1000000
namespace PL
open L2 PySem PyProof.Rows PySem.Spec
section
variable {EX : Nat → Addr} {X : Cx} {W : WX} {fn : Str → Bool} {K : PySem.W.Frag} {ρ : Slots} {M : Mem} {G H : Hp} {σ : L2.St} {a b c : E} {x y z : Expr} {pos : Pos}

/-! ### and, or, not, if else -/
theorem tru_run {d : D} {C : Bool → Mem → Prop} {E0 : EK} : (truP d).run M C E0 ↔ strFits d ∧ ∃ t, truF M d = some t ∧ C t M := by
  show (strFits d ∧ (PM.opt (truF M d)).run M C E0) ↔ _
  constructor
  · rintro ⟨h, q⟩
    exact ⟨h, opt_run q⟩
  · rintro ⟨h, t, e, q⟩
    refine ⟨h, ?_⟩
    rw [e]
    exact q
theorem Res.flags {v0 f0 v1 f1 : Bool} {H0 : Hp} {v : V} {d : D} (h : Res K v0 f0 H0 M G H v d) (hv : v1 = true → v0 = true) (hf : f1 = true → f0 = true) : Res K v1 f1 H0 M G H v d := by
  rcases h with ⟨h, n⟩ | ⟨a, vs, xs, rfl, rfl, h1, h2, h3, r, n⟩
  · exact .inl ⟨h, fun z => n (hf z)⟩
  · exact .inr ⟨a, vs, xs, rfl, rfl, h1, h2, h3, r, fun z => n (hv z)⟩
theorem kE_flags {v0 f0 v1 f1 : Bool} {Q : VK} {d : D} {M' : Mem} (k : kE K v0 f0 M G H Q d M') (hv : v0 = true → v1 = true) (hf : f0 = true → f1 = true) : kE K v1 f1 M G H Q d M' := fun v G' H' t r => k v G' H' t (r.flags hv hf)
/-- behind a step, what was wanted at the start -/
theorem kE_after {v0 f0 : Bool} {Q : VK} {d : D} {M1 M' : Mem} {G1 H1 : Hp} (t : Stp K M G H M1 G1 H1) (k : kE K v0 f0 M G H Q d M') : kE K v0 f0 M1 G1 H1 Q d M' := fun v G' H' u r => k v G' H' (t.trans u) (by
  rcases r with ⟨h, n⟩ | ⟨a, vs, xs, rfl, rfl, h1, h2, h3, r, n⟩
  · exact .inl ⟨h, n⟩
  · exact .inr ⟨a, vs, xs, rfl, rfl, h1, h2, h3, r, fun z => t.old (n z)⟩)
theorem kT_after {Q : Bool → Hp → Prop} {d : Bool} {M1 M' : Mem} {G1 H1 : Hp} (t : Stp K M G H M1 G1 H1) (k : kT K M G H Q d M') : kT K M1 G1 H1 Q d M' := fun G' H' u => k G' H' (t.trans u)
theorem kI_after {v0 : Bool} {R : It → Hp → Prop} {d : D} {M1 M' : Mem} {G1 H1 : Hp} (t : Stp K M G H M1 G1 H1) (k : kI K v0 M G H R d M') : kI K v0 M1 G1 H1 R d M' := fun ds J G' H' pins e u po wk => k ds J G' H' pins e (t.trans u) (fun p hp => by
  obtain ⟨h1, h2, h3⟩ := po p hp
  exact ⟨h1, h2, h3.imp id fun z => ⟨z.1, fun w => t.old (z.2 w)⟩⟩) wk
theorem bool_rest {op : BoolOp} {r : List Expr} {t : TE} (h : PE X (match r with | [] => y | _ => .BoolOp op (y :: r) pos) t) : PE X (.BoolOp op (y :: r) pos) t := by
  cases r with
  | nil => exact pe_one h
  | cons u r => exact h
theorem pw_of {op : BoolOp} {vs : List Expr} {t : TT} (h : PT X (.BoolOp op vs pos) t) : PW X (.BoolOp op vs pos) t := ⟨fun wh pins s σ H Q I q => h.run pins s σ H Q I q⟩
theorem and_rest {r : List Expr} {t : TT} (h : PT X (match r with | [] => y | _ => .BoolOp .And (y :: r) pos) t) : PW X (.BoolOp .And (y :: r) pos) t := by
  cases r with
  | nil => exact pw_and1 h
  | cons u r => exact pw_of h
theorem or_rest {r : List Expr} {t : TT} (h : PT X (match r with | [] => y | _ => .BoolOp .Or (y :: r) pos) t) : PW X (.BoolOp .Or (y :: r) pos) t := by
  cases r with
  | nil => exact pw_or1 h
  | cons u r => exact pw_of h
theorem ite_run {α : Type} {t : Bool} {p q : PM α} {C : α → Mem → Prop} {E0 : EK} : (if t = true then p else q).run M C E0 = if t = true then p.run M C E0 else q.run M C E0 := by
  cases t <;> rfl
theorem e_and {r : List Expr} (ha : PE X x (tE EX W X.K a)) (hb : PE X (match r with | [] => y | _ => .BoolOp .And (y :: r) pos) (tE EX W X.K b)) : PE X (.BoolOp .And (x :: y :: r) pos) (tE EX W X.K (.and a b)) :=
  (pe_andT ha (bool_rest hb)).imp fun σ H Q ⟨ρ, M, G, b', en, q⟩ => by
    refine tE_of b' en (bo_run q) (fun d M1 v G1 H1 c1 t1 en1 r1 => ?_) fun _ _ z => z
    obtain ⟨k, q1, q2⟩ := tru_use (bo_run c1) t1.bas r1
    refine ⟨k, q2, ?_⟩
    cases k with
    | true => exact iteT (tE_of t1.bas en1 (show (wp b ρ).run M1 _ _ from q1) (fun e M2 u G2 H2 c2 t2 _ r2 => kE_after t1 c2 u G2 H2 t2 (r2.flags (fun z => (Bool.and_eq_true_iff.mp z).2) (fun z => nomatch z))) fun k M' z => exW_after t1 z)
    | false => exact iteF ((show kE X.K _ _ M G H Q d M1 from q1) v G1 H1 t1 (r1.flags (fun z => (Bool.and_eq_true_iff.mp z).1) (fun z => nomatch z)))
theorem e_or {r : List Expr} (ha : PE X x (tE EX W X.K a)) (hb : PE X (match r with | [] => y | _ => .BoolOp .Or (y :: r) pos) (tE EX W X.K b)) : PE X (.BoolOp .Or (x :: y :: r) pos) (tE EX W X.K (.or a b)) :=
  (pe_orT ha (bool_rest hb)).imp fun σ H Q ⟨ρ, M, G, b', en, q⟩ => by
    refine tE_of b' en (bo_run q) (fun d M1 v G1 H1 c1 t1 en1 r1 => ?_) fun _ _ z => z
    obtain ⟨k, q1, q2⟩ := tru_use (bo_run c1) t1.bas r1
    refine ⟨k, q2, ?_⟩
    cases k with
    | false => exact iteF (tE_of t1.bas en1 (show (wp b ρ).run M1 _ _ from q1) (fun e M2 u G2 H2 c2 t2 _ r2 => kE_after t1 c2 u G2 H2 t2 (r2.flags (fun z => (Bool.and_eq_true_iff.mp z).2) (fun z => nomatch z))) fun k M' z => exW_after t1 z)
    | true => exact iteT ((show kE X.K _ _ M G H Q d M1 from q1) v G1 H1 t1 (r1.flags (fun z => (Bool.and_eq_true_iff.mp z).1) (fun z => nomatch z)))
theorem tand_run {C : Bool → Mem → Prop} {E0 : EK} (h : (testP (.and a b) ρ).run M C E0) : (testP a ρ).run M (fun t M1 => if t = true then (testP b ρ).run M1 C E0 else C false M1) E0 := by
  refine (wp a ρ).mono (fun d M1 q => ?_) (fun _ _ z => z) (show (wp a ρ).run M _ E0 from h)
  obtain ⟨hs, t, e, q⟩ := tru_run.mp (show (truP d).run M1 _ E0 from q)
  refine tru_run.mpr ⟨hs, t, e, ?_⟩
  cases t with
  | true => exact iteT q
  | false =>
    obtain ⟨_, t', e', q'⟩ := tru_run.mp (show (truP d).run M1 C E0 from q)
    rw [e] at e'
    cases e'
    exact iteF q'
theorem tor_run {C : Bool → Mem → Prop} {E0 : EK} (h : (testP (.or a b) ρ).run M C E0) : (testP a ρ).run M (fun t M1 => if t = true then C true M1 else (testP b ρ).run M1 C E0) E0 := by
  refine (wp a ρ).mono (fun d M1 q => ?_) (fun _ _ z => z) (show (wp a ρ).run M _ E0 from h)
  obtain ⟨hs, t, e, q⟩ := tru_run.mp (show (truP d).run M1 _ E0 from q)
  refine tru_run.mpr ⟨hs, t, e, ?_⟩
  cases t with
  | false => exact iteF q
  | true =>
    obtain ⟨_, t', e', q'⟩ := tru_run.mp (show (truP d).run M1 C E0 from q)
    rw [e] at e'
    cases e'
    exact iteT q'
theorem tnot_run {C : Bool → Mem → Prop} {E0 : EK} (h : (testP (.not a) ρ).run M C E0) : (testP a ρ).run M (fun t M1 => C (!t) M1) E0 := by
  refine (wp a ρ).mono (fun d M1 q => ?_) (fun _ _ z => z) (show (wp a ρ).run M _ E0 from h)
  obtain ⟨hs, t, e, q⟩ := tru_run.mp (show (truP d).run M1 _ E0 from q)
  exact tru_run.mpr ⟨hs, t, e, q.2⟩
theorem t_and {r : List Expr} (ha : PT X x (tT EX W X.K a)) (hb : PT X (match r with | [] => y | _ => .BoolOp .And (y :: r) pos) (tT EX W X.K b)) : PT X (.BoolOp .And (x :: y :: r) pos) (tT EX W X.K (.and a b)) :=
  (pw_and ha (and_rest hb)).pt.imp fun σ H Q ⟨ρ, M, G, b', en, q⟩ => by
    refine tT_of b' en (tand_run q) (fun t M1 G1 H1 c1 t1 en1 => ?_) fun _ _ z => z
    cases t with
    | true => exact iteT (tT_of t1.bas en1 (show (testP b ρ).run M1 _ _ from c1) (fun d M2 G2 H2 c2 t2 _ => kT_after t1 c2 G2 H2 t2) fun k M' z => exW_after t1 z)
    | false => exact iteF ((show kT X.K M G H Q false M1 from c1) G1 H1 t1)
theorem t_or {r : List Expr} (ha : PT X x (tT EX W X.K a)) (hb : PT X (match r with | [] => y | _ => .BoolOp .Or (y :: r) pos) (tT EX W X.K b)) : PT X (.BoolOp .Or (x :: y :: r) pos) (tT EX W X.K (.or a b)) :=
  (pw_or ha (or_rest hb)).pt.imp fun σ H Q ⟨ρ, M, G, b', en, q⟩ => by
    refine tT_of b' en (tor_run q) (fun t M1 G1 H1 c1 t1 en1 => ?_) fun _ _ z => z
    cases t with
    | false => exact iteF (tT_of t1.bas en1 (show (testP b ρ).run M1 _ _ from c1) (fun d M2 G2 H2 c2 t2 _ => kT_after t1 c2 G2 H2 t2) fun k M' z => exW_after t1 z)
    | true => exact iteT ((show kT X.K M G H Q true M1 from c1) G1 H1 t1)
theorem e_not (ha : PE X x (tE EX W X.K a)) : PE X (.UnaryOp .Not x pos) (tE EX W X.K (.not a)) :=
  (pe_notT ha).imp fun σ H Q ⟨ρ, M, G, b', en, q⟩ => one_of b' en (bo_run q) (fun _ _ z => z) fun d M1 v G1 H1 c t r => by
    obtain ⟨k, q1, q2⟩ := tru_use (bo_run c) t.bas r
    exact ⟨k, q2, (show kE X.K _ _ M G H Q (.bl (!k)) M1 from q1) _ G1 H1 t (.rep (.bl _) fun _ _ z => nomatch z)⟩
theorem t_not (ha : PT X x (tT EX W X.K a)) : PT X (.UnaryOp .Not x pos) (tT EX W X.K (.not a)) :=
  (pt_not ha).imp fun σ H Q ⟨ρ, M, G, b', en, q⟩ => tT_of b' en (tnot_run q) (fun t M1 G1 H1 c1 t1 _ => c1 G1 H1 t1) fun _ _ z => z
theorem e_ite {t : Expr} (hc : PT X t (tT EX W X.K c)) (ha : PE X x (tE EX W X.K a)) (hb : PE X y (tE EX W X.K b)) : PE X (.IfExp t x y pos) (tE EX W X.K (.ite c a b)) :=
  (pe_ifExp hc ha hb).imp fun σ H Q ⟨ρ, M, G, b', en, q⟩ => by
    refine tT_of b' en (show (testP c ρ).run M _ _ from q) (fun t M1 G1 H1 c1 t1 en1 => ?_) fun _ _ z => z
    cases t with
    | true => exact iteT (tE_of t1.bas en1 (show (wp a ρ).run M1 _ _ from c1) (fun e M2 u G2 H2 c2 t2 _ r2 => kE_after t1 c2 u G2 H2 t2 (r2.flags (fun z => (Bool.and_eq_true_iff.mp z).1) (fun z => (Bool.and_eq_true_iff.mp z).1))) fun k M' z => exW_after t1 z)
    | false => exact iteF (tE_of t1.bas en1 (show (wp b ρ).run M1 _ _ from c1) (fun e M2 u G2 H2 c2 t2 _ r2 => kE_after t1 c2 u G2 H2 t2 (r2.flags (fun z => (Bool.and_eq_true_iff.mp z).2) (fun z => (Bool.and_eq_true_iff.mp z).2))) fun k M' z => exW_after t1 z)

/-! ### calls -/
theorem glb_of {x : Str} (h : glbB X.env.scope x = true) : Gl X x := by
  unfold glbB at h
  split at h
  · assumption
  · cases h
theorem ords_back : ∀ {ys : List Expr} {env : Env}, (ys.all ord) = true → (backTo pos (starEach ys env)).any (·.1) = false
  | [], _, _ => rfl
  | y :: ys, env, h => by
    obtain ⟨h1, h2⟩ := Bool.and_eq_true_iff.mp (show (ord y && ys.all ord) = true from h)
    rw [star_of h1]
    show (false || (backTo pos (starEach ys env)).any (·.1)) = false
    rw [ords_back h2]
    rfl
theorem e_call {f : Str} {F : FS} {es : E} {p : Pos} {ys : List Expr} (g : Good X W fn) (ok : CallOk EX X.prog X.w X.K X.mg X.base X.A f F) (hn : (f == ("__debug__" : Str)) = false) (hg : glbB X.env.scope f = true) (ho : ord y = true) (hos : ys.all ord = true)
    (hs : PA X (y :: ys) (tA EX W X.K es)) : PE X (.Call (.Name f p) (y :: ys) [] pos) (tE EX W X.K (.call f F es)) := by
  obtain ⟨ad, fd, ps, k, Fk, hr, hm, hk, hb⟩ := ok
  refine (pe_callS (E := WE W) Fk hr (glb_of hg) hm hk hb (fun σ => passAt g.tk σ) hs hn (star_of ho _ _) (ords_back hos)).imp fun σ H Q ⟨ρ, M, G, b', en, q⟩ => ?_
  refine tA_of b' en (bo_run q) (fun ds M1 vs G1 H1 c t _ r => ?_) fun _ _ z => z
  exact ⟨ds, M1, G1, t.bas, r, (PM.call F ds).mono (fun d M' h v G' H' u rp => h v G' H' (t.trans u) (.rep rp fun z => nomatch z)) (fun k M' h G' H' u => h G' H' (t.trans u)) (show (PM.call F ds).run M1 (kE X.K true false M G H Q) (exW EX W X.K M G σ H) from c)⟩
theorem e_isi {t : Ty} {z : Str} {p p2 : Pos} (g : Good X W fn) (hg : glbB X.env.scope "isinstance" = true) (hz : z = tyName t) (hgz : glbB X.env.scope z = true) (ho : ord y = true) (ha : PE X y (tE EX W X.K a)) :
    PE X (.Call (.Name "isinstance" p) [y, .Name z p2] [] pos) (tE EX W X.K (.isi a t)) := by
  subst hz
  obtain ⟨m1, m2, m3⟩ := ty_name t
  have hT : PE X (.Name (tyName t) p2) (tC (.ty (tyId t))) := pe_bltn (glb_of hgz) (g.nm _ m1) (ty_boot t) rfl m2 m3
  refine (pe_callB call_isi (glb_of hg) (g.nm _ (by decide)) boot_isinstance (pa_cons ha (pa_cons hT pa_nil) (star_of ho _ _)) (by decide) (by decide) (star_of ho _ _) rfl).imp fun σ H Q ⟨ρ, M, G, b', en, q⟩ => ?_
  refine one_of b' en (bo_run q) (fun _ _ z => z) fun d M1 v G1 H1 c tt r => ?_
  obtain ⟨bb, e1, c⟩ := opt_run (bo_run c)
  obtain ⟨tn, h1, h2⟩ := isi_use e1 tt.bas r
  exact ⟨v, .ty (tyId t), .type tn, .type (tyId t), bb, rfl, .ty _, h1, kit_ty h2, (show kE X.K _ _ M G H Q (.bl bb) M1 from c) _ G1 H1 tt (.rep (.bl _) fun _ _ z => nomatch z)⟩
theorem frOk_b1 (o : B1) (a : E) : frOk (.b1 o a) = b1fr o := by cases o <;> rfl
theorem e_b1 {o : B1} {p : Pos} (g : Good X W fn) (h0 : b1Ok o = true) (hg : glbB X.env.scope (b1Name o) = true) (ho : ord y = true) (ha : PE X y (tE EX W X.K a)) : PE X (.Call (.Name (b1Name o) p) [y] [] pos) (tE EX W X.K (.b1 o a)) := by
  obtain ⟨m1, m2, m3⟩ := b1_name o h0
  have red : ∀ σ H Q, tE EX W X.K (.b1 o a) σ H Q → tCB (B1R X.K o) (tCons (tE EX W X.K a) tNil) σ H Q := fun σ H Q ⟨ρ, M, G, b', en, q⟩ => by
    refine one_of b' en (bo_run q) (fun _ _ z => z) fun d M1 v G1 H1 c t r => ?_
    rw [frOk_b1] at c
    exact b1_use h0 c t r
  have hb := b1_boot o h0
  have hc := b1R_ok g.calm o h0
  unfold b1Val at hb hc
  cases e : b1Ty o with
  | none =>
    rw [e] at hb hc
    exact (pe_callB hc (glb_of hg) (g.nm _ m1) hb (pa_cons ha pa_nil (star_of ho _ _)) m2 m3 (star_of ho _ _) rfl).imp red
  | some T =>
    rw [e] at hb hc
    exact (pe_callTy hc (glb_of hg) (g.nm _ m1) hb (pa_cons ha pa_nil (star_of ho _ _)) m2 m3 (star_of ho _ _) rfl).imp red
theorem e_b2 {o : B2} {p : Pos} (g : Good X W fn) (hg : glbB X.env.scope (b2Name o) = true) (ho : ord y = true) (hoz : ord z = true) (ha : PE X y (tE EX W X.K a)) (hb : PE X z (tE EX W X.K b)) : PE X (.Call (.Name (b2Name o) p) [y, z] [] pos) (tE EX W X.K (.b2 o a b)) := by
  obtain ⟨m1, m2, m3⟩ := b2_name o
  refine (pe_callB (b2R_ok g.calm o) (glb_of hg) (g.nm _ m1) (b2_boot o) (pa_cons ha (pa_cons hb pa_nil (star_of hoz _ _)) (star_of ho _ _)) m2 m3 (star_of ho _ _) (ords_back (by simp [hoz]))).imp fun σ H Q ⟨ρ, M, G, b', en, q⟩ => ?_
  exact two_of b' en q (fun _ _ z => z) fun d e M2 v u G2 H2 c t r1 r2 => b2_use c t r1 r2
theorem plain_of (h : ord y = true) : PlainIx y := by
  intro o i
  cases y <;> first | rfl | cases h
theorem e_ix {i : E} (ho : ord y = true) (ha : PE X x (tE EX W X.K a)) (hi : PE X y (tE EX W X.K i)) : PE X (.Subscript x y pos) (tE EX W X.K (.ix a i)) :=
  (pe_ix ix_seq ha hi (plain_of ho)).imp fun σ H Q ⟨ρ, M, G, b', en, q⟩ => two_of b' en q (fun _ _ z => z) fun d e M2 v u G2 H2 c t r1 r2 => ix_use c rfl t r1 r2
def tO (EX : Nat → Addr) (W : WX) (K : PySem.W.Frag) (l : Bool) (lo : E) : TO := fun σ H Q => ∃ ρ M G, Bas K M G H ∧ EnvOk K ρ M G σ H ∧ (optP l (wp lo ρ)).run M (fun o M' => ∀ G' H', Stp K M G H M' G' H' → Q o H') (exW EX W K M G σ H)
theorem po_nil : PO X none (tO EX W X.K false a) := ⟨fun pins s σ H Q I ⟨ρ, M, G, b', en, q⟩ => po_none.run pins s σ H Q I ((show ∀ G' H', Stp X.K M G H M G' H' → Q none H' from q) G H (.refl b'))⟩
theorem po_of {l : Expr} (h : PE X l (tE EX W X.K a)) : PO X (some l) (tO EX W X.K true a) := ⟨fun pins s σ H Q I ⟨ρ, M, G, b', en, q⟩ => (po_some h).run pins s σ H Q I (by
  refine one_of b' en (show (wp a ρ).run M (fun d M1 => (intO d).run M1 _ _) _ from q) (fun _ _ z => z) fun d M1 v G1 H1 c t r => ?_
  cases d <;> first | exact False.elim c | skip
  case int i =>
    cases r.nolst (fun _ z => nomatch z)
    exact ⟨i, rfl, c G1 H1 t⟩)⟩
theorem e_cut {bl bh : Bool} {lo hi : E} {l h : Option Expr} {p2 : Pos} (ha : PE X x (tE EX W X.K a)) (hl : PO X l (tO EX W X.K bl lo)) (hh : PO X h (tO EX W X.K bh hi)) : PE X (.Subscript x (.Slice l h none p2) pos) (tE EX W X.K (.cut bl bh a lo hi)) :=
  (pe_slice (sl_list.or sl_tupA) ha hl hh).imp fun σ H Q ⟨ρ, M, G, b', en, q⟩ => by
    refine tE_of b' en (show (wp a ρ).run M (fun d M1 => (optP bl (wp lo ρ)).run M1 (fun l M2 => (optP bh (wp hi ρ)).run M2 (fun h M3 => (cutP l h d).run M3 (kE X.K true true M G H Q) (exW EX W X.K M G σ H)) (exW EX W X.K M G σ H)) (exW EX W X.K M G σ H)) (exW EX W X.K M G σ H) from q) (fun d M1 v G1 H1 c1 t1 en1 r1 => ?_) fun _ _ z => z
    refine ⟨ρ, M1, G1, t1.bas, en1, (optP bl (wp lo ρ)).mono (fun o M2 c2 G2 H2 t2 => ?_) (fun k M' z => exW_after t1 z) c1⟩
    refine ⟨ρ, M2, G2, t2.bas, en1.step t2, (optP bh (wp hi ρ)).mono (fun o' M3 c3 G3 H3 t3 => ?_) (fun k M' z => exW_after (t1.trans t2) z) c2⟩
    exact cut_use c3 ((t1.trans t2).trans t3) ((r1.step t2).step t3)

/-! ### what is walked -/
theorem walks_of {J : It} {n : Nat} {Gp : Hp → Prop} {Y : Nat → Hp → V → Hp → Prop} {pins : List (Addr × HO)} {ds : List D} (w : Walk J n Gp Y) (hn : ds.length = n) (hG : ∀ G2 H2, Same G G2 → Same G2 H2 → (∀ p ∈ pins, H2 p.1 = some p.2) → Gp H2)
    (hY : ∀ (G2 H2 : Hp) (i : Nat) d x H3, Same G G2 → Same G2 H2 → (∀ p ∈ pins, H2 p.1 = some p.2) → ds[i]? = some d → Y i H2 x H3 → (H3 = H2 ∧ Rep K G2 x d) ∨ ∃ T vs es, x = .ref T ∧ H2 T = none ∧ H3 = upd H2 T (.tup vs) ∧ d = .tup es ∧ Reps K G2 vs es) : Walks K J pins G ds := by
  intro G2 H2 g1 g2 hp
  have q := hG G2 H2 g1 g2 hp
  refine ⟨fun i d e => ?_, by rw [hn]; exact w.stops H2 q⟩
  have hi : i < n := by
    obtain ⟨h, _⟩ := List.getElem?_eq_some_iff.mp e
    omega
  exact ⟨w.goes i H2 hi q, fun x H3 y => hY G2 H2 i d x H3 g1 g2 hp e (w.yields i H2 x H3 hi q y)⟩
theorem yat_rep {vs : List V} {ds : List D} (r : Reps K G vs ds) {G2 H2 H3 : Hp} {i : Nat} {d : D} {x : V} (g : Same G G2) (e : ds[i]? = some d) (y : YAt vs i H2 x H3) : H3 = H2 ∧ Rep K G2 x d := by
  obtain ⟨e1, e2⟩ := y
  obtain ⟨d', e3, rp⟩ := r.get e2
  rw [e] at e3
  cases e3
  exact ⟨e1, rp.mono g⟩
theorem i_seq (ha : PE X x (tE EX W X.K a)) (tg : Expr) : PI X tg x (tI EX W X.K (.it1 .seq a)) :=
  (pi_sq ha).imp fun σ H R ⟨ρ, M, G, b', en, q⟩ => by
    refine tE_of b' en (bo_run q) (fun d M1 v G1 H1 c t _ r => ?_) fun _ _ z => z
    have c' : (PM.opt (itemsF M1 d)).run M1 (fun xs M' => kI X.K (vOk a) M G H R (.tup xs) M') (exW EX W X.K M G σ H) := c
    obtain ⟨xs, e1, k⟩ := opt_run c'
    have b := t.bas
    cases d <;> first | cases e1; done | skip
    case lst ys =>
      cases e1
      rcases r with ⟨h, _⟩ | ⟨a', vs, ys', rfl, e2, h1, h2, h3, rr, n⟩
      · cases h with
        | @lst a' vs _ e rr =>
          refine .inl ⟨a', vs, rfl, SqL.of (b.sub _ _ e), k xs _ G1 H1 [] rfl t (fun p hp => nomatch hp) ?_⟩
          exact walks_of (walk_list (a := a')) rr.length.symm (fun G2 H2 g1 g2 _ => SqL.of (g2 _ _ (g1 _ _ e))) fun G2 H2 i d y H3 g1 _ _ e y => .inl (yat_rep rr g1 e y)
      · cases e2
        refine .inl ⟨a', vs, rfl, SqL.of h1, k xs _ G1 H1 [(a', .lst vs)] rfl t (fun p hp => ?_) ?_⟩
        · rw [List.mem_singleton.mp hp]
          exact ⟨h1, h3, .inr ⟨h2, n⟩⟩
        · exact walks_of (walk_list (a := a')) rr.length.symm (fun G2 H2 g1 g2 hp => SqL.of (hp _ (List.mem_singleton.mpr rfl))) fun G2 H2 i d y H3 g1 _ _ e y => .inl (yat_rep rr g1 e y)
    case tup ys =>
      cases e1
      cases r.nolst (fun _ z => nomatch z) with
      | @tup a' vs _ e rr =>
        refine .inr (.inl ⟨a', vs, rfl, SqT.of (b.sub _ _ e), k xs _ G1 H1 [] rfl t (fun p hp => nomatch hp) ?_⟩)
        exact walks_of (walk_tup (a := a')) rr.length.symm (fun G2 H2 g1 g2 _ => SqT.of (g2 _ _ (g1 _ _ e))) fun G2 H2 i d y H3 g1 _ _ e y => .inl (yat_rep rr g1 e y)
    case scr ns =>
      cases e1
      cases r.nolst (fun _ z => nomatch z) with
      | @scr a' _ e =>
        refine .inl ⟨a', ns.map .int, rfl, b.sub.seq e, k _ _ G1 H1 [] rfl t (fun p hp => nomatch hp) ?_⟩
        exact walks_of (walk_list (a := a')) (by simp) (fun G2 H2 g1 g2 _ => g2.seq (g1.seq e)) fun G2 H2 i d y H3 g1 _ _ e y => .inl (yat_rep (Reps.ints (K := X.K) (G := G1) ns) g1 e y)
    case str z =>
      cases e1
      cases r.nolst (fun _ z => nomatch z)
      refine .inr (.inr ⟨z, rfl, k _ _ G1 H1 [] rfl t (fun p hp => nomatch hp) ?_⟩)
      refine walks_of (walk_str (z := z)) (by simp [signs]) (fun _ _ _ _ _ => trivial) fun G2 H2 i d y H3 g1 _ _ e y => .inl ?_
      obtain ⟨e3, ch, e4, rfl⟩ := y
      refine ⟨e3, ?_⟩
      unfold signs at e
      rw [List.getElem?_map] at e
      have e5 : z.cps.toList[i]? = some ch := by simpa using e4
      rw [e5] at e
      cases e
      exact .str _
theorem rangeD_len (lo : Int) (n : Nat) : (rangeD lo n).length = n := by simp [rangeD]
theorem rangeD_get {lo : Int} {n i : Nat} {d : D} (h : (rangeD lo n)[i]? = some d) : d = .int (lo + i) := by
  unfold rangeD at h
  rw [List.getElem?_map] at h
  cases e : (List.range n)[i]? with
  | none => rw [e] at h; cases h
  | some j =>
    rw [e] at h
    cases h
    have hi : i < n := by
      obtain ⟨q, _⟩ := List.getElem?_eq_some_iff.mp e
      simpa using q
    rw [List.getElem?_range hi] at e
    cases e
    rfl
theorem walks_range {lo : Int} {n : Nat} : Walks K (Itr lo n) [] G (rangeD lo n) :=
  walks_of walk_range (rangeD_len _ _) (fun _ _ _ _ _ => trivial) fun G2 H2 i d x H3 _ _ _ e y => .inl ⟨y.1, by rw [y.2, rangeD_get e]; exact .int _⟩
theorem i_range1 {p : Pos} (g : Good X W fn) (hg : glbB X.env.scope "range" = true) (ho : ord y = true) (ha : PE X y (tE EX W X.K a)) (tg : Expr) : PI X tg (.Call (.Name "range" p) [y] [] pos) (tI EX W X.K (.it1 .range a)) :=
  (pi_range1 (glb_of hg) (g.nm _ (by decide)) (pa_cons ha pa_nil (star_of ho _ _)) (star_of ho _ _)).imp fun σ H R ⟨ρ, M, G, b', en, q⟩ => by
    refine one_of b' en (bo_run q) (fun _ _ z => z) fun d M1 v G1 H1 c t r => ?_
    cases d <;> first | exact False.elim c | skip
    case int j =>
      cases r.nolst (fun _ z => nomatch z)
      obtain ⟨⟨h1, h2⟩, k⟩ := c
      exact ⟨j, rfl, by omega, by omega, k _ _ G1 H1 [] rfl t (fun p hp => nomatch hp) walks_range⟩
theorem i_range2 {p : Pos} (g : Good X W fn) (hg : glbB X.env.scope "range" = true) (ho : ord y = true) (hoz : ord z = true) (ha : PE X y (tE EX W X.K a)) (hb : PE X z (tE EX W X.K b)) (tg : Expr) : PI X tg (.Call (.Name "range" p) [y, z] [] pos) (tI EX W X.K (.it2 .range a b)) :=
  (pi_range2 (glb_of hg) (g.nm _ (by decide)) (pa_cons ha (pa_cons hb pa_nil (star_of hoz _ _)) (star_of ho _ _)) ((star_of ho _ _).trans (by rw [star_of hoz]; rfl)) (star_of hoz _ _)).imp fun σ H R ⟨ρ, M, G, b', en, q⟩ => by
    refine two_of b' en (show (wp a ρ).run M (fun d M1 => (wp b ρ).run M1 (fun e M2 => (it2P .range d e).run M2 (kI X.K (vI (.it2 .range a b)) M G H R) (exW EX W X.K M G σ H)) (exW EX W X.K M G σ H)) _ from q) (fun _ _ z => z) fun d e M2 v u G2 H2 c t r1 r2 => ?_
    cases d <;> cases e <;> first | exact False.elim c | skip
    case int.int i j =>
      cases r1.nolst (fun _ z => nomatch z)
      cases r2.nolst (fun _ z => nomatch z)
      obtain ⟨⟨h1, h2, h3, h4⟩, k⟩ := c
      exact ⟨i, j, rfl, ⟨by omega, by omega, by omega, by omega⟩, k _ _ G2 H2 [] rfl t (fun p hp => nomatch hp) walks_range⟩
theorem i_range3 {p : Pos} {u : Expr} (g : Good X W fn) (hg : glbB X.env.scope "range" = true) (ho : ord y = true) (hoz : ord z = true) (hou : ord u = true) (ha : PE X y (tE EX W X.K a)) (hb : PE X z (tE EX W X.K b)) (hc : PE X u (tE EX W X.K c)) (tg : Expr) : PI X tg (.Call (.Name "range" p) [y, z, u] [] pos) (tI EX W X.K (.it3 a b c)) :=
  (pi_range3 (glb_of hg) (g.nm _ (by decide)) (pa_cons ha (pa_cons hb (pa_cons hc pa_nil (star_of hou _ _)) (star_of hoz _ _)) (star_of ho _ _)) (star_of ho _ _) (ords_back (by simp [hoz, hou]))).imp fun σ H R ⟨ρ, M, G, b', en, q⟩ => by
    refine three_of b' en (show (wp a ρ).run M (fun d M1 => (wp b ρ).run M1 (fun e M2 => (wp c ρ).run M2 (fun h M3 => (it3P d e h).run M3 (kI X.K true M G H R) (exW EX W X.K M G σ H)) (exW EX W X.K M G σ H)) (exW EX W X.K M G σ H)) _ from q) (fun _ _ z => z) fun d e h M3 v u w G3 H3 c t r1 r2 r3 => ?_
    unfold it3P at c
    split at c
    · rename_i i j
      cases r1.nolst (fun _ z => nomatch z)
      cases r2.nolst (fun _ z => nomatch z)
      cases r3.nolst (fun _ z => nomatch z)
      obtain ⟨⟨h1, h2, h3, h4⟩, k⟩ := c
      refine ⟨i, j, -1, (i - j).toNat, rfl, RgC.neg (by omega) (by omega) (by omega) (by omega), k _ _ G3 H3 [] rfl t (fun p hp => nomatch hp) ?_⟩
      refine walks_of walk_rangeC (by simp [downD]) (fun _ _ _ _ _ => trivial) fun G2 H2 n d x H4 _ _ _ e y => .inl ⟨y.1, ?_⟩
      rw [y.2]
      unfold downD at e
      rw [List.getElem?_map] at e
      cases e' : (List.range (i - j).toNat)[n]? with
      | none => rw [e'] at e; cases e
      | some m =>
        rw [e'] at e
        cases e
        have hn : n < (i - j).toNat := by
          obtain ⟨q, _⟩ := List.getElem?_eq_some_iff.mp e'
          simpa using q
        rw [List.getElem?_range hn] at e'
        cases e'
        have en : i + (n : Int) * -1 = i - n := by omega
        show Rep X.K G2 (.int (i + (n : Int) * -1)) (.int (i - (n : Int)))
        rw [en]
        exact .int _
    · exact False.elim c
end
end PL
set_option Elab.async false
set_option linter.all false
set_option maxRecDepth 100000
set_option maxHeartbeats 1000000
namespace PL
open L2 PySem PyProof.Rows PySem.Spec

/-! ### slots wiped and set -/
theorem wipe_get (σ : L2.St) : ∀ (vs : List Nat) (j : Nat), (wipe σ vs)[j]? = if j ∈ vs then σ[j]?.map (fun _ => none) else σ[j]?
  | [], j => by simp [wipe]
  | v :: vs, j => by
    show ((wipe σ vs).set v none)[j]? = _
    rw [List.getElem?_set]
    by_cases e : v = j
    · subst e
      rw [if_pos rfl, if_pos List.mem_cons_self]
      rw [wipe_length]
      by_cases hl : v < σ.length
      · rw [if_pos hl, List.getElem?_eq_getElem hl]; rfl
      · rw [if_neg hl, List.getElem?_eq_none (by omega)]; rfl
    · rw [if_neg e, wipe_get σ vs j]
      by_cases hm : j ∈ vs
      · rw [if_pos hm, if_pos (List.mem_cons_of_mem _ hm)]
      · rw [if_neg hm, if_neg (fun z => (List.mem_cons.mp z).elim (fun q => e q.symm) hm)]
theorem wipeS_length (ρ : Slots) : ∀ vs : List Nat, (wipeS ρ vs).length = ρ.length
  | [] => rfl
  | v :: vs => by
    show ((wipeS ρ vs).set v .unk).length = _
    rw [List.length_set, wipeS_length ρ vs]
theorem wipeS_get (ρ : Slots) : ∀ (vs : List Nat) (j : Nat), (wipeS ρ vs)[j]? = if j ∈ vs then ρ[j]?.map (fun _ => .unk) else ρ[j]?
  | [], j => by simp [wipeS]
  | v :: vs, j => by
    show ((wipeS ρ vs).set v .unk)[j]? = _
    rw [List.getElem?_set]
    by_cases e : v = j
    · subst e
      rw [if_pos rfl, if_pos List.mem_cons_self]
      rw [wipeS_length]
      by_cases hl : v < ρ.length
      · rw [if_pos hl, List.getElem?_eq_getElem hl]; rfl
      · rw [if_neg hl, List.getElem?_eq_none (by omega)]; rfl
    · rw [if_neg e, wipeS_get ρ vs j]
      by_cases hm : j ∈ vs
      · rw [if_pos hm, if_pos (List.mem_cons_of_mem _ hm)]
      · rw [if_neg hm, if_neg (fun z => (List.mem_cons.mp z).elim (fun q => e q.symm) hm)]
theorem wipe_idem (σ : L2.St) (vs : List Nat) : wipe (wipe σ vs) vs = wipe σ vs := by
  apply List.ext_getElem?
  intro j
  rw [wipe_get, wipe_get]
  by_cases h : j ∈ vs
  · rw [if_pos h, if_pos h]
    cases σ[j]? <;> rfl
  · rw [if_neg h]
theorem wipe_set (σ : L2.St) {vs : List Nat} {i : Nat} (x : Option V) (h : i ∈ vs) : wipe (σ.set i x) vs = wipe σ vs := by
  apply List.ext_getElem?
  intro j
  rw [wipe_get, wipe_get]
  by_cases hj : j ∈ vs
  · rw [if_pos hj, if_pos hj, List.getElem?_set]
    by_cases e : i = j
    · subst e
      rw [if_pos rfl]
      by_cases hl : i < σ.length
      · rw [if_pos hl, List.getElem?_eq_getElem hl]; rfl
      · rw [if_neg hl, List.getElem?_eq_none (by omega)]
    · rw [if_neg e]
  · rw [if_neg hj, if_neg hj, List.getElem?_set, if_neg (fun e : i = j => hj (e ▸ h))]
section
variable {K : PySem.W.Frag} {ρ : Slots} {M : Mem} {G H : Hp} {σ : L2.St}
theorem EnvOk.wiped (en : EnvOk K ρ M G σ H) (vs : List Nat) : EnvOk K (wipeS ρ vs) M G (wipe σ vs) H where
  len := by rw [wipeS_length, wipe_length]; exact en.len
  slot := fun i s e => by
    rw [wipeS_get] at e
    by_cases h : i ∈ vs
    · rw [if_pos h] at e
      cases q : ρ[i]? with
      | none => rw [q] at e; cases e
      | some u => rw [q] at e; cases e; trivial
    · rw [if_neg h] at e
      rw [wipe_get, if_neg h]
      exact en.slot i s e
  dist := fun i j xs ys e1 e2 n => by
    rw [wipeS_get] at e1 e2
    by_cases h1 : i ∈ vs
    · rw [if_pos h1] at e1
      cases q : ρ[i]? with
      | none => rw [q] at e1; cases e1
      | some u => rw [q] at e1; cases e1
    · by_cases h2 : j ∈ vs
      · rw [if_pos h2] at e2
        cases q : ρ[j]? with
        | none => rw [q] at e2; cases e2
        | some u => rw [q] at e2; cases e2
      · rw [if_neg h1] at e1
        rw [if_neg h2] at e2
        rw [wipe_get, wipe_get, if_neg h1, if_neg h2]
        exact en.dist i j xs ys e1 e2 n
theorem EnvOk.set (en : EnvOk K ρ M G σ H) (i : Nat) {d : D} {v : V} (r : Rep K G v d) : EnvOk K (ρ.set i (.val d)) M G (σ.set i (some v)) H where
  len := by rw [List.length_set, List.length_set]; exact en.len
  slot := fun j s e => by
    rw [List.getElem?_set] at e ⊢
    by_cases h : i = j
    · rw [if_pos h] at e ⊢
      rw [← en.len]
      by_cases hl : i < ρ.length
      · rw [if_pos hl] at e ⊢
        cases e
        exact ⟨v, rfl, r⟩
      · rw [if_neg hl] at e; cases e
    · rw [if_neg h] at e ⊢
      exact en.slot j s e
  dist := fun j k xs ys e1 e2 n => by
    have ne : ∀ {l : Nat} {zs : List D}, (ρ.set i (.val d))[l]? = some (.own zs) → i ≠ l ∧ ρ[l]? = some (.own zs) := fun {l zs} e => by
      rw [List.getElem?_set] at e
      by_cases h : i = l
      · rw [if_pos h] at e
        by_cases hl : i < ρ.length
        · rw [if_pos hl] at e; cases e
        · rw [if_neg hl] at e; cases e
      · rw [if_neg h] at e
        exact ⟨h, e⟩
    obtain ⟨n1, e1⟩ := ne e1
    obtain ⟨n2, e2⟩ := ne e2
    rw [List.getElem?_set, List.getElem?_set, if_neg n1, if_neg n2]
    exact en.dist j k xs ys e1 e2 n
end

/-! ### targets -/
def gNms : List Nat → TGs | [] => gNil | i :: is => gCons (gName i) (gNms is)
def gT (K : PySem.W.Frag) : Tg → TG
  | .one i => gName i
  | .many is => fun v σ H Q => gTup K is.length (gNms is) v σ H Q ∨ gLst K is.length (gNms is) v σ H Q
theorem pg_or {X : Cx} {x : Expr} {t u : TG} (h : PG X x t) (h' : PG X x u) : PG X x (fun v σ H Q => t v σ H Q ∨ u v σ H Q) := ⟨fun pins s σ H v w Q I r q => q.elim (h.run pins s σ H v w Q I r) (h'.run pins s σ H v w Q I r)⟩
section
variable {X : Cx} {fn : Str → Bool}
theorem nm_of {i : Nat} {x : Expr} (fe : X.fn = fn) (h : chkNm X.N X.env.scope fn i x = true) : ∃ n p, x = .Name n p ∧ X.N[i]? = some n ∧ Loc X.env.scope n ∧ (X.fn n = true ∨ X.env.scope.names.lookup n = some .local) := by
  unfold chkNm at h
  split at h
  · rename_i n p
    simp only [Bool.and_eq_true, decide_eq_true_eq] at h
    obtain ⟨h1, h2⟩ := h
    refine ⟨n, p, rfl, h1, ?_⟩
    unfold locB at h2
    split at h2
    · exact ⟨.inl (by assumption), .inr (by assumption)⟩
    · exact ⟨.inr (by assumption), .inl (by rw [fe]; exact h2)⟩
    · cases h2
  · cases h
theorem pg_one {i : Nat} {x : Expr} (nd : X.N.Nodup) (fe : X.fn = fn) (h : chkNm X.N X.env.scope fn i x = true) : PG X x (gName i) := by
  obtain ⟨n, p, rfl, h1, h2, h3⟩ := nm_of fe h
  exact pg_name nd h1 h2 h3
theorem pgs_of (nd : X.N.Nodup) (fe : X.fn = fn) : ∀ {is : List Nat} {xs : List Expr}, chkNms X.N X.env.scope fn is xs = true → PGs X xs (gNms is) ∧ (assignEach xs X.env).length = is.length ∧ (assignEach xs X.env).findIdx? (·.1) = none
  | [], [], _ => ⟨pgs_nil, rfl, rfl⟩
  | [], _ :: _, h => by simp [chkNms] at h
  | _ :: _, [], h => by simp [chkNms] at h
  | i :: is, x :: xs, h => by
    simp only [chkNms, Bool.and_eq_true] at h
    obtain ⟨n, p, rfl, h1, h2, h3⟩ := nm_of fe h.1
    obtain ⟨q1, q2, q3⟩ := pgs_of nd fe h.2
    refine ⟨pgs_cons (pg_name nd h1 h2 h3) q1, ?_, ?_⟩
    · show (assignEach xs X.env).length + 1 = is.length + 1
      rw [q2]
    · show List.findIdx? (·.1) ((false, assign (.Name n p) X.env) :: assignEach xs X.env) = none
      rw [List.findIdx?_cons, q3]
      rfl
theorem pg_tg {tg : Tg} {x : Expr} (hc : X.calm = true) (nd : X.N.Nodup) (fe : X.fn = fn) (h : chkTg X.N X.env.scope fn tg x = true) : PG X x (gT X.K tg) := by
  cases tg with
  | one i => exact pg_one nd fe h
  | many is =>
    unfold chkTg at h
    split at h
    · cases ‹Tg.many is = Tg.one _›
    · rename_i e
      cases e
      obtain ⟨q1, q2, q3⟩ := pgs_of nd fe h
      exact pg_or (pg_tup hc q1 q2 q3) (pg_lst hc q1 q2 q3)
    · cases h
end
section
variable {K : PySem.W.Frag} {ρ : Slots} {M : Mem} {G H : Hp} {σ : L2.St}
theorem nms_use : ∀ {is : List Nat} {vs : List V} {ds : List D} {ρ : Slots} {σ : L2.St} {Q : L2.St → Hp → Prop}, ds.length = is.length → Reps K G vs ds → EnvOk K ρ M G σ H →
    (∀ σ', EnvOk K (setAll ρ is ds) M G σ' H → (∀ ws, (∀ i ∈ is, i ∈ ws) → wipe σ' ws = wipe σ ws) → Q σ' H) → gNms is vs σ H Q
  | [], _, [], ρ, σ, Q, _, .nil, en, h => ⟨rfl, h σ en fun _ _ => rfl⟩
  | i :: is, _, d :: ds, ρ, σ, Q, hl, .cons r rs, en, h => ⟨_, _, rfl, nms_use (by simpa using hl) rs (en.set i r) fun σ' en' hw => h σ' en' fun ws hm => by
      rw [hw ws fun j hj => hm j (List.mem_cons_of_mem _ hj)]
      exact wipe_set σ _ (hm i List.mem_cons_self)⟩
  | [], _, _ :: _, _, _, _, hl, _, _, _ => by simp at hl
  | _ :: _, _, [], _, _, _, hl, _, _, _ => by simp at hl
theorem tg_use {tg : Tg} {d : D} {v : V} {C : Slots → Mem → Prop} {E0 : EK} {Q : L2.St → Hp → Prop} (h : (tgP tg d ρ).run M C E0) (b : Bas K M G H) (en : EnvOk K ρ M G σ H) (r : Rep K G v d)
    (hQ : ∀ ρ' σ', C ρ' M → EnvOk K ρ' M G σ' H → (∀ ws, (∀ i ∈ tgNames tg, i ∈ ws) → wipe σ' ws = wipe σ ws) → Q σ' H) : gT K tg v σ H Q := by
  cases tg with
  | one i => exact hQ _ _ h (en.set i r) fun ws hm => wipe_set σ _ (hm i (List.mem_singleton.mpr rfl))
  | many is =>
    cases d <;> first | exact False.elim h | skip
    case tup ds =>
      cases r with
      | tup e rs => exact .inl ⟨_, _, rfl, SqT.of (b.sub _ _ e), by rw [rs.length]; exact h.1, nms_use h.1 rs en fun σ' en' hw => hQ _ σ' h.2 en' hw⟩
    case lst ds =>
      cases r with
      | lst e rs => exact .inr ⟨_, _, rfl, SqL.of (b.sub _ _ e), by rw [rs.length]; exact h.1, nms_use h.1 rs en fun σ' en' hw => hQ _ σ' h.2 en' hw⟩
end

/-! ### enumerate, zip -/
section
variable {EX : Nat → Addr} {X : Cx} {W : WX} {fn : Str → Bool} {K : PySem.W.Frag} {ρ : Slots} {M : Mem} {G H : Hp} {σ : L2.St} {a b c : E} {x y z : Expr} {pos : Pos}
theorem src_res {v0 f0 : Bool} {H0 : Hp} {v : V} {d : D} {xs : List D} (r : Res K v0 f0 H0 M G H v d) (hd : d = .lst xs ∨ d = .tup xs) (b : Bas K M G H) : ∃ k a vs pins, v = .ref a ∧ SqH k H a vs ∧ Reps K G vs xs ∧ PinOk v0 H0 M G H pins ∧
    ∀ G2 H2, Same G G2 → Same G2 H2 → (∀ p ∈ pins, H2 p.1 = some p.2) → SqH k H2 a vs := by
  rcases hd with rfl | rfl
  · rcases r with ⟨h, _⟩ | ⟨a, vs, ys, rfl, e2, h1, h2, h3, rr, n⟩
    · cases h with
      | @lst a vs _ e rr => exact ⟨true, a, vs, [], rfl, b.sub _ _ e, rr, (fun p hp => nomatch hp), fun G2 H2 g1 g2 _ => g2 _ _ (g1 _ _ e)⟩
    · cases e2
      refine ⟨true, a, vs, [(a, .lst vs)], rfl, h1, rr, fun p hp => ?_, fun G2 H2 g1 g2 hp => hp _ (List.mem_singleton.mpr rfl)⟩
      rw [List.mem_singleton.mp hp]
      exact ⟨h1, h3, .inr ⟨h2, n⟩⟩
  · cases r.nolst (fun _ z => nomatch z) with
    | @tup a vs _ e rr => exact ⟨false, a, vs, [], rfl, b.sub _ _ e, rr, (fun p hp => nomatch hp), fun G2 H2 g1 g2 _ => g2 _ _ (g1 _ _ e)⟩
theorem enumD_len : ∀ (k : Nat) (xs : List D), (enumD k xs).length = xs.length
  | _, [] => rfl
  | k, _ :: r => congrArg (· + 1) (enumD_len (k + 1) r)
theorem enumD_get : ∀ {k : Nat} {xs : List D} {i : Nat} {d : D}, (enumD k xs)[i]? = some d → ∃ x, xs[i]? = some x ∧ d = .tup [.int ((k + i : Nat) : Int), x]
  | _, [], _, _, h => by simp [enumD] at h
  | k, x :: r, 0, d, h => by
    simp only [enumD, List.getElem?_cons_zero, Option.some.injEq] at h
    exact ⟨x, rfl, h.symm⟩
  | k, x :: r, i + 1, d, h => by
    simp only [enumD, List.getElem?_cons_succ] at h
    obtain ⟨u, h1, h2⟩ := enumD_get h
    exact ⟨u, by simpa using h1, by rw [h2]; congr 3; omega⟩
theorem zipD_len : ∀ (xs ys : List D), (zipD xs ys).length = min xs.length ys.length
  | [], _ => by simp [zipD]
  | _ :: _, [] => by simp [zipD]
  | _ :: r, _ :: s => by
    show (zipD r s).length + 1 = min (r.length + 1) (s.length + 1)
    rw [zipD_len r s]
    omega
theorem zipD_get : ∀ {xs ys : List D} {i : Nat} {d : D}, (zipD xs ys)[i]? = some d → ∃ x y, xs[i]? = some x ∧ ys[i]? = some y ∧ d = .tup [x, y]
  | [], _, _, _, h => by simp [zipD] at h
  | _ :: _, [], _, _, h => by simp [zipD] at h
  | x :: r, y :: s, 0, d, h => by
    simp only [zipD, List.getElem?_cons_zero, Option.some.injEq] at h
    exact ⟨x, y, rfl, rfl, h.symm⟩
  | x :: r, y :: s, i + 1, d, h => by
    simp only [zipD, List.getElem?_cons_succ] at h
    simpa using zipD_get h
theorem i_enum {p : Pos} (g : Good X W fn) (hg : glbB X.env.scope "enumerate" = true) (ho : ord y = true) (ha : PE X y (tE EX W X.K a)) {tg : Expr} (ht : isTupX tg = true) : PI X tg (.Call (.Name "enumerate" p) [y] [] pos) (tI EX W X.K (.it1 .enum a)) := by
  cases tg <;> first | cases ht; done | skip
  refine (pi_en (glb_of hg) (g.nm _ (by decide)) (pa_cons ha pa_nil (star_of ho _ _)) (star_of ho _ _)).imp fun σ H R ⟨ρ, M, G, b', en, q⟩ => ?_
  refine tE_of b' en (bo_run q) (fun d M1 v G1 H1 c t _ r => ?_) fun _ _ z => z
  have main : ∀ xs, (d = .lst xs ∨ d = .tup xs) → kI X.K (vOk a) M G H R (.tup (enumD 0 xs)) M1 → ∃ k a xs, [v] = [V.ref a] ∧ SqH k H1 a xs ∧ R (ItEn k a) H1 := fun xs hd k => by
    obtain ⟨kk, ad, vs, pins, rfl, sq, rr, po, st⟩ := src_res r hd t.bas
    refine ⟨kk, ad, vs, rfl, sq, k _ _ G1 H1 pins rfl t po fun G2 H2 g1 g2 hp => ⟨fun i d e => ?_, ?_⟩⟩
    · have s2 := st G2 H2 g1 g2 hp
      obtain ⟨u, e1, rfl⟩ := enumD_get e
      obtain ⟨w, e2, rw'⟩ := rr.get' e1
      have hi : i < vs.length := (List.getElem?_eq_some_iff.mp e2).1
      refine ⟨⟨vs, s2, hi⟩, fun x H3 yl => .inr ?_⟩
      obtain ⟨T, x', rfl, nT, rfl, ex⟩ := yl
      have e3 : x' = w := Option.some.inj ((ex vs s2).symm.trans e2)
      subst e3
      refine ⟨T, _, _, rfl, nT, rfl, rfl, .cons ?_ (.cons (rw'.mono g1) .nil)⟩
      rw [Nat.zero_add]
      exact .int _
    · exact ⟨vs, st G2 H2 g1 g2 hp, by rw [enumD_len, rr.length]⟩
  cases d <;> first | exact False.elim c | skip
  case lst xs => exact main xs (.inl rfl) c
  case tup xs => exact main xs (.inr rfl) c
theorem i_zip {p : Pos} (g : Good X W fn) (hg : glbB X.env.scope "zip" = true) (ho : ord y = true) (hoz : ord z = true) (ha : PE X y (tE EX W X.K a)) (hb : PE X z (tE EX W X.K b)) {tg : Expr} (ht : isTupX tg = true) :
    PI X tg (.Call (.Name "zip" p) [y, z] [] pos) (tI EX W X.K (.it2 .zip a b)) := by
  cases tg <;> first | cases ht; done | skip
  refine (pi_zi (glb_of hg) (g.nm _ (by decide)) (pa_cons ha (pa_cons hb pa_nil (star_of hoz _ _)) (star_of ho _ _)) (star_of ho _ _) (ords_back (by simp [hoz]))).imp fun σ H R ⟨ρ, M, G, b', en, q⟩ => ?_
  refine tE_of b' en (show (wp a ρ).run M (fun d M1 => (wp b ρ).run M1 (fun e M2 => (it2P .zip d e).run M2 (kI X.K (vI (.it2 .zip a b)) M G H R) (exW EX W X.K M G σ H)) (exW EX W X.K M G σ H)) _ from q) (fun d M1 v G1 H1 c1 t1 en1 r1 => ?_) fun _ _ z => z
  refine tE_of t1.bas en1 c1 (fun e M2 u G2 H2 c2 t2 _ r2 => ?_) fun k M' z => exW_after t1 z
  have t := t1.trans t2
  have main : ∀ xs ys, (d = .lst xs ∨ d = .tup xs) → (e = .lst ys ∨ e = .tup ys) → kI X.K (vI (.it2 .zip a b)) M G H R (.tup (zipD xs ys)) M2 → ∃ k1 k2 a b xs ys, [v, u] = [V.ref a, .ref b] ∧ SqH k1 H2 a xs ∧ SqH k2 H2 b ys ∧ R (ItZi k1 k2 a b) H2 := fun xs ys hd he k => by
    obtain ⟨k1, a1, vs, pins1, rfl, sq1, rr1, po1, st1⟩ := src_res (r1.step t2) hd t.bas
    obtain ⟨k2, a2, us, pins2, rfl, sq2, rr2, po2, st2⟩ := src_res r2 he t.bas
    refine ⟨k1, k2, a1, a2, vs, us, rfl, sq1, sq2, k _ _ G2 H2 (pins1 ++ pins2) rfl t (fun p hp => ?_) fun G3 H3 g1 g2 hp => ?_⟩
    · rcases List.mem_append.mp hp with hp | hp
      · obtain ⟨h1, h2, h3⟩ := po1 p hp
        exact ⟨h1, h2, h3.imp id fun w => ⟨w.1, fun q => w.2 (Bool.and_eq_true_iff.mp q).1⟩⟩
      · obtain ⟨h1, h2, h3⟩ := po2 p hp
        exact ⟨h1, h2, h3.imp id fun w => ⟨w.1, fun q => t1.old (w.2 (Bool.and_eq_true_iff.mp q).2)⟩⟩
    · have s1 := st1 G3 H3 g1 g2 fun p hpp => hp p (List.mem_append_left _ hpp)
      have s2 := st2 G3 H3 g1 g2 fun p hpp => hp p (List.mem_append_right _ hpp)
      refine ⟨fun i d e => ?_, ?_⟩
      · obtain ⟨p1, p2, e1, e2, rfl⟩ := zipD_get e
        obtain ⟨w1, f1, rw1⟩ := rr1.get' e1
        obtain ⟨w2, f2, rw2⟩ := rr2.get' e2
        refine ⟨⟨vs, us, s1, s2, (List.getElem?_eq_some_iff.mp f1).1, (List.getElem?_eq_some_iff.mp f2).1⟩, fun x H4 yl => .inr ?_⟩
        obtain ⟨T, x', y', rfl, nT, rfl, ex, ey⟩ := yl
        have e3 : x' = w1 := Option.some.inj ((ex vs s1).symm.trans f1)
        have e4 : y' = w2 := Option.some.inj ((ey us s2).symm.trans f2)
        subst e3 e4
        exact ⟨T, _, _, rfl, nT, rfl, rfl, .cons (rw1.mono g1) (.cons (rw2.mono g1) .nil)⟩
      · exact ⟨vs, us, s1, s2, by rw [zipD_len, rr1.length, rr2.length]⟩
  cases d <;> cases e <;> first | exact False.elim c2 | skip
  case lst.lst xs ys => exact main xs ys (.inl rfl) (.inl rfl) c2
  case tup.tup xs ys => exact main xs ys (.inr rfl) (.inr rfl) c2
  case tup.lst xs ys => exact main xs ys (.inr rfl) (.inl rfl) c2
  case lst.tup xs ys => exact main xs ys (.inl rfl) (.inr rfl) c2
end
end PL
set_option Elab.async false
set_option linter.all false
set_option maxRecDepth 100000
set_option maxHeartbeats 1000000
/-! sets whose elements are tuples of any depth, made of whole numbers, texts, bools and None -/
namespace PL
open L2 PySem PyProof.Rows PySem.Spec
section
variable {P : Program} {w : World} {A : Around} {E : Value → Shared → Prop} {s : Shared}
/-- at b stands the tuple κ -/
def KAt (h : Heap) (κ : NestedKey) (b : Addr) : Prop := NestedIs h κ (.ref b) ∧ κ.depth ≤ 8
theorem KAt.mv {h h' : Heap} {κ : NestedKey} {b : Addr} (q : KAt h κ b) (g : ∀ c o vs n, h.get? c = some o → o.data = .seq vs n → h'.get? c = some o) : KAt h' κ b := ⟨NestedIs.at g κ _ q.1, q.2⟩
theorem KAt.apart {h h' : Heap} {κ : NestedKey} {S b : Addr} {o : Obj} {es : Array (Int × Value)} {ep : Nat} {t : SetTable} (q : KAt h κ b) (eo : h.get? S = some o) (ed : o.data = .set es ep t) (sb : Heap.SameBut S h h') : KAt h' κ b :=
  q.mv fun c u vs n e1 e2 => (sb.2 c fun z => by
    subst z
    rw [eo] at e1
    cases e1
    rw [ed] at e2
    cases e2).trans e1
/-- v is of no class statement, n levels down -/
def NoCls (P : Program) (w : World) (n : Nat) (s : Shared) (v : Value) : Prop := ∀ (A : Around) (E : Value → Shared → Prop) (Q : Bool → Shared → Prop), Q false s → wpAny (model P w) A (ofAClassStatement n v) Q E s
/-- to ask whether v's hash goes by value tells nothing -/
def ByVal (P : Program) (w : World) (n : Nat) (s : Shared) (v : Value) : Prop := ∀ (A : Around) (E : Value → Shared → Prop) (Q : Bool → Shared → Prop), (∀ b, Q b s) → wpAny (model P w) A (hashByValue n v) Q E s
theorem NoCls.tup {n m : Nat} {b : Addr} {o : Obj} {vs : Array Value} (eo : s.heap.get? b = some o) (ec : o.cls = .type "tuple") (ed : o.data = .seq vs m) (hv : ∀ v ∈ vs.toList, NoCls P w n s v) : NoCls P w (n + 1) s (.ref b) := fun A E Q q => by
  unfold ofAClassStatement
  refine wpAny_bind (wpAny_typeOf ⟨o, eo, ec⟩ ?_)
  have et : (("tuple" : String) == "tuple") = true := by decide
  simp only [et, if_true, Bool.not_true, Bool.false_eq_true, if_false]
  try refine wpAny_bind (wpAny_pure ?_)
  try simp only [Bool.not_true, Bool.false_eq_true, if_false]
  show wpAny _ _ (seqItems? (.ref b) >>= _) _ _ s
  refine wpAny_bind (wpAny_seqItems eo ed (wpAny_bind ?_))
  show wpAny _ _ (forIn vs _ _) _ _ s
  rw [← Array.forIn_toList]
  refine wpAny_forIn_list _ (fun l acc z => z = s ∧ acc.1 = none ∧ ∀ u ∈ l, NoCls P w n s u) _ ?_ ?_ _ _ ⟨rfl, rfl, hv⟩
  · rintro u l acc z ⟨rfl, ha, hl⟩
    refine wpAny_bind (hl u (.head _) _ _ _ ?_)
    simp only [Bool.false_eq_true, if_false]
    exact wpAny_pure ⟨rfl, rfl, fun u' hu => hl u' (.tail _ hu)⟩
  · rintro ⟨a1, a2⟩ z ⟨rfl, ha, _⟩
    simp only at ha
    subst ha
    exact wpAny_pure q
theorem ByVal.tup {n m : Nat} {b : Addr} {o : Obj} {vs : Array Value} (eo : s.heap.get? b = some o) (ec : o.cls = .type "tuple") (ed : o.data = .seq vs m) (hv : ∀ v ∈ vs.toList, ByVal P w n s v) : ByVal P w (n + 1) s (.ref b) := fun A E Q q => by
  unfold hashByValue
  refine wpAny_bind (wpAny_specialOf ⟨o, eo, ec⟩ F.slot_tuple_hash.lookup ?_)
  show wpAny _ _ (seqItems? (.ref b) >>= _) _ _ s
  refine wpAny_bind (wpAny_seqItems eo ed (wpAny_bind ?_))
  show wpAny _ _ (forIn vs _ _) _ _ s
  rw [← Array.forIn_toList]
  refine wpAny_forIn_list _ (fun l acc z => z = s ∧ acc.1 = none ∧ ∀ u ∈ l, ByVal P w n s u) _ ?_ ?_ _ _ ⟨rfl, rfl, hv⟩
  · rintro u l acc z ⟨rfl, ha, hl⟩
    refine wpAny_bind (hl u (.head _) _ _ _ fun c => ?_)
    cases c with
    | true =>
      simp only [Bool.not_true, Bool.false_eq_true, if_false]
      exact wpAny_pure ⟨rfl, rfl, fun u' hu => hl u' (.tail _ hu)⟩
    | false =>
      simp only [Bool.not_false, if_true]
      exact wpAny_pure (wpAny_pure (q _))
  · rintro ⟨a1, a2⟩ z ⟨rfl, ha, _⟩
    simp only at ha
    subst ha
    exact wpAny_pure (q _)
mutual
theorem noCls : ∀ (κ : NestedKey) (v : Value) (n : Nat) (s : Shared), NestedIs s.heap κ v → κ.depth ≤ n → NoCls P w n s v
  | .none, _, n, s, h, _ => by cases h; exact fun _ _ _ q => by cases n <;> exact wpAny_pure q
  | .num i, _, n, s, h, _ => by cases h <;> exact fun _ _ _ q => by cases n <;> exact wpAny_pure q
  | .text y, _, n, s, h, _ => by cases h; exact fun _ _ _ q => by cases n <;> exact wpAny_pure q
  | .tup ks, _, n, s, h, hn => by
    cases h with
    | tup eo ec ed hk =>
      simp only [NestedKey.depth] at hn
      match n, hn with
      | n + 1, hn => exact .tup eo ec ed (noClsL ks _ n s hk (by omega))
theorem noClsL : ∀ (ks : List NestedKey) (vs : List Value) (n : Nat) (s : Shared), NestedAll s.heap ks vs → NestedKey.depthAll ks ≤ n → ∀ v ∈ vs, NoCls P w n s v
  | [], _, _, _, h, _, v, hv => by cases h; exact nomatch hv
  | κ :: ks, _, n, s, h, hn, v, hv => by
    cases h with
    | cons h1 h2 =>
      simp only [NestedKey.depthAll] at hn
      cases hv with
      | head => exact noCls κ _ n s h1 (by omega)
      | tail _ hv => exact noClsL ks _ n s h2 (by omega) v hv
end
mutual
theorem byVal : ∀ (κ : NestedKey) (v : Value) (n : Nat) (s : Shared), NestedIs s.heap κ v → κ.depth ≤ n → ByVal P w n s v
  | .none, _, n, s, h, _ => by cases h; exact fun _ _ _ q => by cases n <;> exact wpAny_pure (q _)
  | .num i, _, n, s, h, _ => by cases h <;> exact fun _ _ _ q => by cases n <;> exact wpAny_pure (q _)
  | .text y, _, n, s, h, _ => by cases h; exact fun _ _ _ q => by cases n <;> exact wpAny_pure (q _)
  | .tup ks, _, n, s, h, hn => by
    cases h with
    | tup eo ec ed hk =>
      simp only [NestedKey.depth] at hn
      match n, hn with
      | n + 1, hn => exact .tup eo ec ed (byValL ks _ n s hk (by omega))
theorem byValL : ∀ (ks : List NestedKey) (vs : List Value) (n : Nat) (s : Shared), NestedAll s.heap ks vs → NestedKey.depthAll ks ≤ n → ∀ v ∈ vs, ByVal P w n s v
  | [], _, _, _, h, _, v, hv => by cases h; exact nomatch hv
  | κ :: ks, _, n, s, h, hn, v, hv => by
    cases h with
    | cons h1 h2 =>
      simp only [NestedKey.depthAll] at hn
      cases hv with
      | head => exact byVal κ _ n s h1 (by omega)
      | tail _ hv => exact byValL ks _ n s h2 (by omega) v hv
end
theorem KAt.hash {κ : NestedKey} {b : Addr} {Q : Int → Shared → Prop} (q : KAt s.heap κ b) (u : A.units + 8 < cLine) (h : Q (κ.hash w) { s with toks := s.toks + κ.draws }) : wpAny (model P w) A (pyHash (.ref b)) Q E s := (nestedKind P w).pyHash u q h
theorem KAt.eq {κ κ' : NestedKey} {b b' : Addr} {Q : Bool → Shared → Prop} (q : KAt s.heap κ b) (q' : KAt s.heap κ' b') (u : A.units + 8 < cLine) (h : Q (decide (κ = κ')) s) : wpAny (model P w) A (eqBool (.ref b) (.ref b')) Q E s := (nestedKind P w).eqBool u q q' h
/-- a search among such tuples shows nothing -/
theorem hidden {κ : NestedKey} {b : Addr} {Q : Bool → Shared → Prop} (q : KAt s.heap κ b) {ys : List Value} (hy : ∀ y ∈ ys, ∃ κ' c, y = Value.ref c ∧ KAt s.heap κ' c) (h : Q false s) : wpAny (model P w) A (searchCouldBeSeen (.ref b) ys) Q E s := by
  unfold searchCouldBeSeen
  refine wpAny_bind (wpAny_forIn_list _ (fun l acc z => z = s ∧ acc.1 = none ∧ ∀ y ∈ l, ∃ κ' c, y = Value.ref c ∧ KAt s.heap κ' c) _ ?_ ?_ _ _ ⟨rfl, rfl, hy⟩)
  · rintro u l acc z ⟨rfl, ha, hl⟩
    obtain ⟨κ', c, rfl, q'⟩ := hl u (.head _)
    have tl : ∀ y ∈ l, ∃ κ' c, y = Value.ref c ∧ KAt z.heap κ' c := fun y hy => hl y (.tail _ hy)
    dsimp only
    by_cases hv : (b == c || (carriedByValue (.ref b) && carriedByValue (.ref c))) = true
    · exact wp_if_pos hv (wpAny_pure ⟨rfl, rfl, tl⟩)
    · refine wp_if_neg hv (wpAny_bind ((nestedKind P w).quiet q ?_))
      simp only [Bool.not_true, Bool.false_eq_true, if_false]
      refine wpAny_bind ((nestedKind P w).quiet q' ?_)
      simp only [Bool.not_true, Bool.false_eq_true, if_false]
      refine wpAny_bind (noCls κ _ 8 z q.1 q.2 _ _ _ ?_)
      simp only [Bool.false_eq_true, if_false]
      refine wpAny_bind (noCls κ' _ 8 z q'.1 q'.2 _ _ _ ?_)
      simp only [Bool.false_eq_true, if_false]
      exact wpAny_pure ⟨rfl, rfl, tl⟩
  · rintro ⟨a1, a2⟩ z ⟨rfl, ha, _⟩
    simp only at ha
    subst ha
    exact wpAny_pure h
end
end PL
set_option Elab.async false
set_option linter.all false
set_option maxRecDepth 100000
set_option maxHeartbeats 1000000
namespace PL
open L2 PySem PyProof.Rows PySem.Spec
abbrev El := Addr × NestedKey
def hk (w : World) (q : El) : Int := q.2.hash w
def row (w : World) (q : El) : Int × Value := (hk w q, .ref q.1)
abbrev st0 (m : Nat) (h : Int) : SetTable.Probe := runAt m (SetTable.bits h % (m + 1)) (SetTable.bits h)
abbrev hOf (es : Array (Int × Value)) : Nat → Int := fun i => (es[i]?.map (·.1)).getD 0
section
variable {P : Program} {w : World} {A : Around} {E : Value → Shared → Prop} {s : Shared}
/-- at S stands a set with the elements L -/
structure TAt (w : World) (h : Heap) (S : Addr) (L : List El) (es : Array (Int × Value)) (ep : Nat) (t : SetTable) : Prop where
  obj : ∃ o, h.get? S = some o ∧ o.ExactSet ∧ o.data = .set es ep t
  lay : es.toList = L.map (row w)
  tab : TabOk t (L.map (hk w))
  sep : (L.map Prod.snd).Nodup
  key : ∀ q ∈ L, KAt h q.2 q.1
  roomy : 5 * L.length < 3 * t.mask
  small : L.length < 64
  led : w.params.followText "set-order" = true ∨ t.led = true
variable {S : Addr} {L : List El} {es : Array (Int × Value)} {ep : Nat} {t : SetTable}
theorem lay_size (e : es.toList = L.map (row w)) : es.size = L.length := by
  rw [← Array.length_toList, e, List.length_map]
theorem lay_at (e : es.toList = L.map (row w)) {i : Nat} {q : El} (h : L[i]? = some q) : es[i]? = some (row w q) := by
  rw [← Array.getElem?_toList, e, List.getElem?_map, h]
  rfl
theorem fits_of (e : es.size = L.length) (T : TabOk t (L.map (hk w))) (l : L.length ≤ t.mask) : t.fits es.size = true := by
  have z := T.sz
  rw [List.length_map] at z
  unfold SetTable.fits SetTable.fill
  rw [T.dm, Bool.and_eq_true, beq_iff_eq, decide_eq_true_eq]
  refine ⟨by omega, ?_⟩
  show t.place.size + 0 ≤ t.mask
  omega
theorem TAt.fits (R : TAt w s.heap S L es ep t) : t.fits es.size = true := fits_of (lay_size R.lay) R.tab (by have := R.roomy; omega)
theorem odd_gw (T : TabOk t (L.map (hk w))) : ¬ t.gaveWay = true := by
  unfold SetTable.gaveWay
  rw [mask_odd T.mok]
  decide
/-- the search, from the c-th step on -/
theorem seek (R : TAt w s.heap S L es ep t) {x : Addr} {κ : NestedKey} (hx : KAt s.heap κ x) (u : A.units + 8 < cLine) {K : Nat} (kf : K < 10 * SetTable.turns t.mask)
    (kn : way t.mask (κ.hash w) K ∉ t.place.toList) (kb : ∀ c, c < K → way t.mask (κ.hash w) c ∈ t.place.toList) {Q : SetFound → Shared → Prop}
    (yes : κ ∈ L.map Prod.snd → Q (.there none) s) (no : κ ∉ L.map Prod.snd → Q (.free (way t.mask (κ.hash w) K) false) s) :
    ∀ (f c : Nat) (sd : Option SetTable.Probe), sd.getD (t.probeStart (κ.hash w)) = nth t.mask (st0 t.mask (κ.hash w)) c → c ≤ K → K < c + f →
      (∀ (i : Nat) q, L[i]? = some q → q.2 = κ → ∃ d, c ≤ d ∧ d < K ∧ t.place.toList[i]? = some (way t.mask (κ.hash w) d)) →
      wpAny (model P w) A (setSearchFrom S (.ref x) (κ.hash w) true f sd) Q E s
  | 0, c, sd, _, h1, h2, _ => absurd h2 (by omega)
  | f + 1, c, sd, hsd, h1, h2, rest => by
    obtain ⟨o, eo, ex, ed⟩ := R.obj
    rw [setSearchFrom_succ]
    refine wpAny_bind (wpAny_setState_of eo ed R.fits ?_)
    dsimp only
    refine wp_if_neg (odd_gw R.tab) ?_
    try refine wpAny_bind (wpAny_pure ?_)
    have nodum : ∀ (n : Nat) (p : SetTable.Probe), p.dummy = none → (nth t.mask p n).dummy = none := fun n => by
      induction n with
      | zero => exact fun _ h => h
      | succ n ih => exact fun p h => ih (adv t.mask p) (by unfold adv; split <;> exact h)
    have on : ∀ d, nth t.mask (nth t.mask (st0 t.mask (κ.hash w)) c) d = nth t.mask (st0 t.mask (κ.hash w)) (c + d) := fun d => (nth_add t.mask c _ d).symm
    have onj : ∀ d, (nth t.mask (nth t.mask (st0 t.mask (κ.hash w)) c) d).j = way t.mask (κ.hash w) (c + d) := fun d => congrArg (·.j) (on d)
    have G := go_spec t R.tab.ris R.tab.dm (hOf es) (κ.hash w) (10 * SetTable.turns t.mask) (K - c) _ (nodum c _ rfl) (by omega) (fun d hd => by rw [onj]; exact kb _ (by omega)) (by rw [onj, Nat.add_sub_cancel' h1]; exact kn)
    have hAt : ∀ (i : Nat) q, L[i]? = some q → hOf es i = q.2.hash w := fun i q e => by
      show (es[i]?.map (·.1)).getD 0 = _
      rw [lay_at R.lay e]
      rfl
    rcases G with ⟨d, i, hd, hi, hh, nobef, hpr⟩ | ⟨nobef, hpr⟩
    · rw [show t.probe (hOf es) (κ.hash w) (sd.getD (t.probeStart (κ.hash w))) = some (.candidate (way t.mask (κ.hash w) (c + d)) i (nth t.mask (st0 t.mask (κ.hash w)) (c + (d + 1)))) by rw [hsd, ← onj, ← on]; exact hpr]
      dsimp only
      rw [onj] at hi
      have li : i < L.length := by
        have a1 := (List.getElem?_eq_some_iff.mp hi).1
        have a2 := R.tab.sz
        rw [List.length_map] at a2
        rw [Array.length_toList] at a1
        omega
      obtain ⟨q, hq⟩ : ∃ q, L[i]? = some q := ⟨_, List.getElem?_eq_getElem li⟩
      have mq := List.mem_of_getElem? hq
      have live : t.slot (way t.mask (κ.hash w) (c + d)) = .live i := slot_live R.tab.ris hi
      have more : wpAny (model P w) A (searchRest S (.ref x) (κ.hash w) true f es t (way t.mask (κ.hash w) (c + d)) i (nth t.mask (st0 t.mask (κ.hash w)) (c + (d + 1)))) Q E s := by
        unfold searchRest
        rw [lay_at R.lay hq]
        dsimp only [row]
        refine wpAny_bind (wpAny_holding ((R.key q mq).eq hx u ?_))
        refine wpAny_bind (wpAny_setState_of eo ed R.fits ?_)
        dsimp only
        by_cases same : q.2 = κ
        · exact wp_if_pos (by simp [same]) (wpAny_pure (yes (List.mem_map.mpr ⟨q, mq, same⟩)))
        · refine wp_if_neg (by simp [same]) ?_
          try refine wpAny_bind (wpAny_pure ?_)
          rw [sameMem]
          dsimp only
          simp only [if_true, live, lay_at R.lay hq, row]
          refine wpAny_bind (wpAny_isSame_ref_self (wpAny_bind (wpAny_pure ?_)))
          simp only [if_true]
          refine wp_if_neg (by simp [same]) ?_
          refine seek R hx u kf kn kb yes no f (c + (d + 1)) _ rfl (by omega) (by omega) fun i' q' e' k' => ?_
          obtain ⟨d', b1, b2, b3⟩ := rest i' q' e' k'
          refine ⟨d', Nat.not_lt.mp fun lt => ?_, b2, b3⟩
          by_cases z : d' = c + d
          · rw [z] at b3
            have l2 := slot_live R.tab.ris b3
            rw [live] at l2
            injection l2 with l2
            rw [← l2, hq] at e'
            cases e'
            exact same k'
          · refine nobef (d' - c) i' (by omega) (by rw [onj, Nat.add_sub_cancel' b1]; exact b3) ?_
            rw [hAt i' q' e', k']
      by_cases led : t.led = true
      · refine wp_if_neg (by simp [led]) ?_
        try refine wpAny_bind (wpAny_pure ?_)
        exact more
      · refine wp_if_pos (by simp [led]) (wpAny_bind (hidden hx (fun y hy => ?_) ?_))
        · obtain ⟨r, hr, rfl⟩ := List.mem_map.mp hy
          have mr : r ∈ es.toList := by
            have : r ∈ es ∧ r.1 = κ.hash w := by simpa using hr
            simpa using this.1
          rw [R.lay] at mr
          obtain ⟨q', m', rfl⟩ := List.mem_map.mp mr
          exact ⟨q'.2, q'.1, rfl, R.key q' m'⟩
        · refine wp_if_neg (by decide) ?_
          try refine wpAny_bind (wpAny_pure ?_)
          exact more
    · have ew : way t.mask (κ.hash w) K = (nth t.mask (nth t.mask (st0 t.mask (κ.hash w)) c) (K - c)).j := by rw [onj, Nat.add_sub_cancel' h1]
      rw [show t.probe (hOf es) (κ.hash w) (sd.getD (t.probeStart (κ.hash w))) = some (.empty (way t.mask (κ.hash w) K) none) by rw [hsd, ew]; exact hpr]
      dsimp only
      refine wpAny_pure (no fun hm => ?_)
      obtain ⟨q', m', k'⟩ := List.mem_map.mp hm
      obtain ⟨i', l', e'⟩ := List.getElem_of_mem m'
      have e2 : L[i']? = some q' := by rw [List.getElem?_eq_getElem l', e']
      obtain ⟨d', b1, b2, b3⟩ := rest i' q' e2 k'
      refine nobef (d' - c) i' (by omega) (by rw [onj, Nat.add_sub_cancel' b1]; exact b3) ?_
      rw [hAt i' q' e2, k']
theorem seek0 (R : TAt w s.heap S L es ep t) {x : Addr} {κ : NestedKey} (hx : KAt s.heap κ x) (u : A.units + 8 < cLine) {Q : SetFound → Shared → Prop} (yes : κ ∈ L.map Prod.snd → Q (.there none) s)
    (no : ∀ K, κ ∉ L.map Prod.snd → way t.mask (κ.hash w) K ∉ t.place.toList → (∀ c, c < K → way t.mask (κ.hash w) c ∈ t.place.toList) → Q (.free (way t.mask (κ.hash w) K) false) s) : wpAny (model P w) A (setSearch S (.ref x) (κ.hash w) true) Q E s := by
  have rm := R.roomy
  obtain ⟨K, k1, k2, k3⟩ := R.tab.first (by rw [List.length_map]; omega) (κ.hash w)
  unfold setSearch
  refine seek R hx u k1 k2 k3 yes (fun n => no K n k2 k3) 100000 0 none rfl (Nat.zero_le _) ?_ fun i q hq e => ?_
  · have : SetTable.turns t.mask ≤ 142 := by
      unfold SetTable.turns
      rcases R.tab.mok with z | z | z <;> omega
    omega
  · have hi : (L.map (hk w))[i]? = some (κ.hash w) := by
      rw [List.getElem?_map, hq, ← e]
      rfl
    have li : i < t.place.toList.length := by
      have a1 := (List.getElem?_eq_some_iff.mp hq).1
      have a2 := R.tab.sz
      rw [List.length_map] at a2
      rw [Array.length_toList]
      omega
    obtain ⟨c, c1, c2⟩ := R.tab.before k2 hi (List.getElem?_eq_getElem li)
    exact ⟨c, Nat.zero_le _, c1, by rw [List.getElem?_eq_getElem li, c2]⟩
end
end PL
set_option Elab.async false
set_option linter.all false
set_option maxRecDepth 100000
set_option maxHeartbeats 1000000
namespace PL
open L2 PySem PyProof.Rows PySem.Spec
section
variable {P : Program} {w : World} {A : Around} {E : Value → Shared → Prop} {s : Shared} {S : Addr} {L : List El} {es : Array (Int × Value)} {ep : Nat} {t : SetTable}
/-- the rows in another order -/
theorem lay_order {ord : Array Nat} (e : es.toList = L.map (row w)) (hp : ord.toList.Perm (List.range L.length)) :
    ∃ L' : List El, (ord.filterMap (es[·]?)).toList = L'.map (row w) ∧ L'.Perm L ∧ L'.map (hk w) = ord.toList.map fun i => (es.map (·.1)).getD i 0 := by
  have key : ∀ l : List Nat, (∀ i ∈ l, i < L.length) → (l.filterMap fun i => es[i]?) = (l.filterMap fun i => L[i]?).map (row w) ∧ (l.filterMap fun i => L[i]?).map (hk w) = l.map fun i => (es.map (·.1)).getD i 0 := by
    intro l
    induction l with
    | nil => intro _; exact ⟨rfl, rfl⟩
    | cons i l ih =>
      intro hl
      obtain ⟨q1, q2⟩ := ih fun j hj => hl j (.tail _ hj)
      have li := hl i (.head _)
      have eL : L[i]? = some L[i] := List.getElem?_eq_getElem li
      rw [List.filterMap_cons_some (lay_at e eL), List.filterMap_cons_some eL, List.map_cons, List.map_cons, List.map_cons, q1, q2]
      refine ⟨rfl, ?_⟩
      have e5 : (es.map (·.1))[i]? = some (hk w L[i]) := by
        rw [Array.getElem?_map, lay_at e eL]
        rfl
      have e6 : (es.map (·.1)).getD i 0 = hk w L[i] := by simp [Array.getD_eq_getD_getElem?, e5]
      rw [e6]
  obtain ⟨q1, q2⟩ := key ord.toList fun i hi => List.mem_range.mp (hp.mem_iff.mp hi)
  refine ⟨_, by first | (rw [Array.toList_filterMap]; exact q1) | simpa using q1, ?_, q2⟩
  have all : ∀ n, n ≤ L.length → ((List.range n).filterMap fun i => L[i]?) = L.take n := fun n => by
    induction n with
    | zero => intro _; rfl
    | succ n ih =>
        intro hn
        rw [List.range_succ, List.filterMap_append, ih (by omega), List.take_succ, List.getElem?_eq_getElem (show n < L.length from hn), List.filterMap_cons_some (List.getElem?_eq_getElem (show n < L.length from hn))]
        rfl
  have z := hp.filterMap fun i => L[i]?
  rwa [all _ (Nat.le_refl _), List.take_length] at z
/-- laid anew, larger -/
theorem grow {o : Obj} (eo : s.heap.get? S = some o) (ex : o.ExactSet) (ed : o.data = .set es ep t) (el : es.toList = L.map (row w)) (T : TabOk t (L.map (hk w))) (lm : L.length ≤ t.mask)
    (nd : (L.map Prod.snd).Nodup) (hK : ∀ q ∈ L, KAt s.heap q.2 q.1) (few : L.length < 64) (ld : w.params.followText "set-order" = true ∨ t.led = true) {n m : Nat} (hm : SetTable.sizeAbove n - 1 = m) (mo : MaskOk m) (le : SetTable.sizeAbove n ≤ 128) (rm : 5 * L.length < 3 * m) {Q : Unit → Shared → Prop}
    (hQ : ∀ h' L' es' ep' t', Heap.SameBut S s.heap h' → TAt w h' S L' es' ep' t' → L'.Perm L → Q () { s with heap := h' }) : wpAny (model P w) A (setRelay S n) Q E s := by
  have sz := lay_size el
  have lm3 : L.length ≤ m := by omega
  obtain ⟨t', ord, e, hp, T', em, eled, epl, edm⟩ := relaid_ok t (hs := es.map (·.1)) (wanted := n) hm mo (by rw [Array.size_map, sz]; exact lm3)
  rw [Array.size_map, sz] at hp
  obtain ⟨L', r1, r2, r3⟩ := lay_order el hp
  rw [← r3] at T'
  have sz' := lay_size r1
  rw [r2.length_eq] at sz'
  rw [setRelay_eq]
  refine wpAny_bind (wpAny_setState_of eo ed (fits_of sz T lm) ?_)
  dsimp only
  refine wp_if_neg (by rw [sizeLine_eq]; omega) ?_
  try refine wpAny_bind (wpAny_pure ?_)
  rw [e]
  dsimp only
  refine wpAny_bind (wp_if_neg (by rw [sz', sz]; simp) ?_)
  try refine wpAny_bind (wpAny_pure ?_)
  refine wpAny_pure ?_
  dsimp only
  have sb : Heap.SameBut S s.heap (s.heap.update S (Obj.putSet (ord.filterMap (es[·]?)) t')) := Heap.SameBut.update ..
  refine wpAny_storeSet_of eo ed (hQ _ L' _ (ep + 1) t' sb ⟨⟨_, store_at eo ed, ⟨ex.1, ex.2.1, ex.2.2⟩, rfl⟩, r1, T', ((r2.map Prod.snd).nodup_iff).mpr nd, fun q hq => (hK q (r2.mem_iff.mp hq)).apart eo ed sb, ?_, by rw [r2.length_eq]; exact few, by rw [eled]; exact ld⟩ r2) (by rw [sz', sizeLine_eq]; omega)
  rw [r2.length_eq, em]
  exact rm
theorem put_in {α : Type} (l : List α) (n : Nat) (x : α) : (l.take n ++ x :: l.drop n).Perm (x :: l) := by
  have z : (l.take n ++ x :: l.drop n).Perm (x :: (l.take n ++ l.drop n)) := List.perm_middle
  rwa [List.take_append_drop] at z
/-- one more element -/
theorem more (R : TAt w s.heap S L es ep t) {x : Addr} {κ : NestedKey} (hx : KAt s.heap κ x) (u : A.units + 8 < cLine) (few : L.length + 1 < 64) {Q : Bool → Shared → Prop}
    (hQ : ∀ b h' L' es' ep' t', Heap.SameBut S s.heap h' → TAt w h' S L' es' ep' t' → (κ ∈ L.map Prod.snd → L' = L) → (κ ∉ L.map Prod.snd → L'.Perm ((x, κ) :: L)) → Q b { s with heap := h' }) :
    wpAny (model P w) A (setAddHashed S (.ref x) (κ.hash w)) Q E s := by
  obtain ⟨o, eo, ex, ed⟩ := R.obj
  have rm := R.roomy
  have sz := lay_size R.lay
  unfold setAddHashed
  refine wpAny_holding ?_
  rw [show (100000 : Nat) = 99999 + 1 from rfl, setAddHashedIn_succ]
  refine wpAny_bind (wpAny_setState_of eo ed R.fits ?_)
  dsimp only
  refine wp_if_neg (by simp [byScan, Value.scannable]) ?_
  try refine wpAny_bind (wpAny_pure ?_)
  refine wpAny_bind (seek0 R hx u (fun hm => ?_) fun K hm k2 k3 => ?_)
  · exact wpAny_pure (hQ false s.heap L es ep t (Heap.SameBut.refl S s.heap) R (fun _ => rfl) fun n => absurd hm n)
  · dsimp only
    refine wpAny_bind (wpAny_setState_of eo ed R.fits ?_)
    dsimp only
    obtain ⟨q1, q2, q3, q4, q5, q6, q7, q8, q9⟩ := R.tab.put k2 k3
    generalize t.put (way t.mask (κ.hash w) K) = pt at q1 q3 q4 q5 q6 q7 q8 q9 ⊢
    obtain ⟨t1, n⟩ := pt
    dsimp only at q1 q3 q4 q5 q6 q7 q8 q9 ⊢
    subst q1
    -- behind the question of plain: any table that differs in plain alone
    have core : ∀ t2 : SetTable, TabOk t2 ((L.map (hk w)).take (SetTable.below t.place (way t.mask (κ.hash w) K)) ++ κ.hash w :: (L.map (hk w)).drop (SetTable.below t.place (way t.mask (κ.hash w) K))) → t2.mask = t.mask → t2.tooFull = t1.tooFull → t2.led = t.led →
        wpAny (model P w) A (do
          storeSet S (SetTable.insertAt es (SetTable.below t.place (way t.mask (κ.hash w) K)) (κ.hash w, .ref x)) t2
          if !false && t2.tooFull then setRelay S (SetTable.grown (es.size + 1))
          return true) Q E s := fun t2 T2 em2 ef eld => by
      have lay2 : (SetTable.insertAt es (SetTable.below t.place (way t.mask (κ.hash w) K)) (κ.hash w, Value.ref x)).toList = (L.take (SetTable.below t.place (way t.mask (κ.hash w) K)) ++ (x, κ) :: L.drop (SetTable.below t.place (way t.mask (κ.hash w) K))).map (row w) := by
        rw [SetTable.toList_insertAt, R.lay, List.map_append, List.map_cons, List.map_take, List.map_drop]
        rfl
      have eh : (L.take (SetTable.below t.place (way t.mask (κ.hash w) K)) ++ (x, κ) :: L.drop (SetTable.below t.place (way t.mask (κ.hash w) K))).map (hk w) = (L.map (hk w)).take (SetTable.below t.place (way t.mask (κ.hash w) K)) ++ κ.hash w :: (L.map (hk w)).drop (SetTable.below t.place (way t.mask (κ.hash w) K)) := by
        rw [List.map_append, List.map_cons, List.map_take, List.map_drop]
        rfl
      rw [← eh] at T2
      have pm := put_in L (SetTable.below t.place (way t.mask (κ.hash w) K)) (x, κ)
      generalize SetTable.insertAt es (SetTable.below t.place (way t.mask (κ.hash w) K)) (κ.hash w, Value.ref x) = es2 at lay2 ⊢
      generalize L.take (SetTable.below t.place (way t.mask (κ.hash w) K)) ++ (x, κ) :: L.drop (SetTable.below t.place (way t.mask (κ.hash w) K)) = L2 at lay2 T2 pm
      have l2 : L2.length = L.length + 1 := pm.length_eq
      have sz2 := lay_size lay2
      have nd2 : (L2.map Prod.snd).Nodup := ((pm.map Prod.snd).nodup_iff).mpr (List.nodup_cons.mpr ⟨hm, R.sep⟩)
      have sb : Heap.SameBut S s.heap (s.heap.update S (Obj.putSet es2 t2)) := Heap.SameBut.update ..
      have eo2 := store_at (es' := es2) (t' := t2) eo ed
      refine wpAny_bind (wpAny_storeSet_of eo ed ?_ (by rw [sz2, sizeLine_eq]; omega))
      have hK2 : ∀ q ∈ L2, KAt (s.heap.update S (Obj.putSet es2 t2)) q.2 q.1 := fun q hq => by
        rcases List.mem_cons.mp (pm.mem_iff.mp hq) with rfl | hq
        · exact hx.apart eo ed sb
        · exact (R.key q hq).apart eo ed sb
      have tf : t2.tooFull = decide ((L.length + 1) * 5 ≥ t2.mask * 3) := by
        have zs := T2.sz
        rw [List.length_map, l2] at zs
        rw [ef]
        unfold SetTable.tooFull
        rw [q9, List.length_map, q4, em2]
      by_cases full : t2.tooFull = true
      · have hf : (L.length + 1) * 5 ≥ t2.mask * 3 := by
          rw [tf] at full
          exact of_decide_eq_true full
        have cs : (t.mask = 7 ∧ L.length = 4) ∨ (t.mask = 31 ∧ L.length = 18) := by
          have fw := R.small
          rw [em2] at hf
          rcases R.tab.mok with z | z | z <;> omega
        first
          | (refine wpAny_bind ?_; refine wp_if_pos (by simp [full]) ?_)
          | (refine wp_if_pos (by simp [full]) ?_; refine wpAny_bind ?_)
        rw [sz]
        have go : ∀ m, SetTable.sizeAbove (SetTable.grown (L.length + 1)) - 1 = m → MaskOk m → SetTable.sizeAbove (SetTable.grown (L.length + 1)) ≤ 128 → 5 * (L.length + 1) < 3 * m →
            wpAny (model P w) A (setRelay S (SetTable.grown (L.length + 1))) (fun _ s' => wpAny (model P w) A (pure true) Q E s') E { s with heap := s.heap.update S (Obj.putSet es2 t2) } := fun m e1 e2 e3 e4 =>
          grow (s := { s with heap := s.heap.update S (Obj.putSet es2 t2) }) eo2 ⟨ex.1, ex.2.1, ex.2.2⟩ rfl lay2 T2 (by rw [l2, em2]; omega) nd2 hK2 (by rw [l2]; exact few) (by rw [eld]; exact R.led) e1 e2 e3 (by rw [l2]; exact e4) fun h3 L3 es3 ep3 t3 sb3 R3 pm3 =>
            wpAny_pure (hQ true h3 L3 es3 ep3 t3 (sb.trans sb3) R3 (fun z => absurd z hm) fun _ => pm3.trans pm)
        rcases cs with ⟨_, z⟩ | ⟨_, z⟩
        · exact go 31 (by rw [z, size_20]) (.inr (.inl rfl)) (by rw [z, size_20]; decide) (by omega)
        · exact go 127 (by rw [z, size_76]) (.inr (.inr rfl)) (by rw [z, size_76]; decide) (by omega)
      · have hf : ¬ (L.length + 1) * 5 ≥ t2.mask * 3 := fun z => full (by rw [tf]; exact decide_eq_true z)
        first
          | refine wp_if_neg (by simp [full]) ?_
          | (refine wpAny_bind ?_; refine wp_if_neg (by simp [full]) ?_; refine wpAny_pure ?_)
        exact wpAny_pure (hQ true _ L2 es2 (ep + 1) t2 sb ⟨⟨_, eo2, ⟨ex.1, ex.2.1, ex.2.2⟩, rfl⟩, lay2, T2, nd2, hK2, by omega, by rw [l2]; exact few, by rw [eld]; exact R.led⟩ (fun z => absurd z hm) fun _ => pm)
    have ask : ∀ c : Bool, TabOk (if c = true then t1 else { t1 with plain := false }) ((L.map (hk w)).take (SetTable.below t.place (way t.mask (κ.hash w) K)) ++ κ.hash w :: (L.map (hk w)).drop (SetTable.below t.place (way t.mask (κ.hash w) K))) ∧
        (if c = true then t1 else { t1 with plain := false }).mask = t.mask ∧ (if c = true then t1 else { t1 with plain := false }).tooFull = t1.tooFull ∧ (if c = true then t1 else { t1 with plain := false }).led = t.led := fun c => by
      cases c with
      | true => exact ⟨q3, q4, rfl, q5⟩
      | false => exact ⟨⟨q3.1, q3.2, q3.3, q3.4, q3.5, q3.6⟩, q4, rfl, q5⟩
    by_cases pl : t1.plain = true
    · exact wp_if_pos pl (wpAny_bind (byVal κ _ 8 s hx.1 hx.2 _ _ _ fun c => core _ (ask c).1 (ask c).2.1 (ask c).2.2.1 (ask c).2.2.2))
    · exact wp_if_neg pl (wpAny_bind (wpAny_pure (core _ (ask true).1 (ask true).2.1 (ask true).2.2.1 (ask true).2.2.2)))
/-- what has come of the first i items -/
structure Has (ks : List El) (i : Nat) (L : List El) : Prop where
  from_ : ∀ q ∈ L, q ∈ ks.take i
  all : ∀ q ∈ ks.take i, q.2 ∈ L.map Prod.snd
  len : L.length ≤ i
theorem Has.step {ks L L' : List El} {i : Nat} {x : El} (g : Has ks i L) (e : ks[i]? = some x) (c1 : x.2 ∈ L.map Prod.snd → L' = L) (c2 : x.2 ∉ L.map Prod.snd → L'.Perm (x :: L)) : Has ks (i + 1) L' := by
  have et : ks.take (i + 1) = ks.take i ++ [x] := by
    rw [List.take_succ, e]
    rfl
  by_cases c : x.2 ∈ L.map Prod.snd
  · rw [c1 c]
    refine ⟨fun q h => by rw [et]; exact List.mem_append_left _ (g.from_ q h), fun q h => ?_, Nat.le_succ_of_le g.len⟩
    rw [et] at h
    rcases List.mem_append.mp h with h | h
    · exact g.all q h
    · rw [List.mem_singleton.mp h]; exact c
  · have pm := c2 c
    refine ⟨fun q h => ?_, fun q h => ?_, ?_⟩
    · rw [et]
      rcases List.mem_cons.mp (pm.mem_iff.mp h) with rfl | h
      · exact List.mem_append_right _ (List.mem_singleton.mpr rfl)
      · exact List.mem_append_left _ (g.from_ q h)
    · rw [(pm.map Prod.snd).mem_iff]
      rw [et] at h
      rcases List.mem_append.mp h with h | h
      · exact List.mem_cons_of_mem _ (g.all q h)
      · rw [List.mem_singleton.mp h]; exact List.mem_cons_self
    · rw [pm.length_eq]
      exact Nat.succ_le_succ g.len
theorem TAt.kept {h h' : Heap} (R : TAt w h S L es ep t) (hs : ∀ o, h.get? S = some o → h'.get? S = some o) (hk' : ∀ q ∈ L, KAt h' q.2 q.1) : TAt w h' S L es ep t := by
  obtain ⟨o, eo, r⟩ := R.obj
  exact ⟨⟨o, hs o eo, r⟩, R.lay, R.tab, R.sep, hk', R.roomy, R.small, R.led⟩
theorem tat_new {h : Heap} {led : Bool} (e : h.get? S = some { cls := .type "set", dict := none, data := .set #[] 0 (.fresh 0 0 led) }) (hl : w.params.followText "set-order" = true ∨ led = true) : TAt w h S [] #[] 0 (.fresh 0 0 led) where
  obj := ⟨_, e, ⟨rfl, rfl, rfl⟩, rfl⟩
  lay := rfl
  tab := ⟨List.Pairwise.nil, rfl, rfl, .inl rfl, (fun x hx => by cases hx), (fun i h j hi => by simp at hi)⟩
  sep := List.nodup_nil
  key := fun q hq => nomatch hq
  roomy := by show 5 * 0 < 3 * 7; decide
  small := by show 0 < 64; decide
  led := hl
/-- few keys, each once -/
def Few (ks : List El) : Prop := ∀ l : List NestedKey, l.Nodup → (∀ x ∈ l, x ∈ ks.map Prod.snd) → l.length < 63
/-- set.update, item after item -/
theorem fill {I : Addr} {fp wr : List Addr} {GG : Array GenState → Array GenState → Prop} {n : Nat} {Pv : Nat → Value → Prop} {St : Nat → Shared → Prop} {R : Result → Shared → Prop} (W : WalksS P w A.in1 I fp wr GG n Pv St) (nf : S ∉ fp) (ks : List El) (en : n = ks.length) (few : Few ks)
    (hv : ∀ i v, Pv i v → ∃ q, ks[i]? = some q ∧ v = .ref q.1) (B : Heap) (hB : ∀ q ∈ ks, KAt B q.2 q.1) (S0 : B.get? S = none) (w0 : ∀ b ∈ wr, B.get? b = none) (u : A.in1.units + 8 < cLine) :
    ∀ (k i : Nat) (s : Shared), n - i = k → i ≤ n → St i s → (∀ b o, B.get? b = some o → s.heap.get? b = some o) → (∃ L es ep t, TAt w s.heap S L es ep t ∧ Has ks i L) →
      (∀ s' L es ep t, Moved (S :: wr) GG s s' → TAt w s'.heap S L es ep t → Has ks n L → (∀ b o, B.get? b = some o → s'.heap.get? b = some o) → R (.ok (.ret .none)) s') →
      codeAny (model P w) A (.builtin "set.update.loop" ⟨[.ref S, .ref I], []⟩) R s := by
  have nw : S ∉ wr := fun h => nf (W.sub _ h)
  have sub : ∀ b ∈ wr, b ∈ S :: wr := fun b hb => List.mem_cons_of_mem _ hb
  have kp : ∀ {s s' : Shared}, Moved wr GG s s' → (∀ b o, B.get? b = some o → s.heap.get? b = some o) → ∀ b o, B.get? b = some o → s'.heap.get? b = some o := fun m h b o e => m.heap b o (fun hb => by rw [w0 b hb] at e; cases e) (h b o e)
  have kat : ∀ {h' : Heap} {q : El}, KAt B q.2 q.1 → (∀ b o, B.get? b = some o → h'.get? b = some o) → KAt h' q.2 q.1 := fun q g => q.mv fun c o vs n e _ => g c o e
  intro k
  induction k with
  | zero =>
    intro i s hk hi st hb ⟨L, es, ep, t, T, g⟩ hR
    obtain rfl : i = n := by omega
    refine codeAny_builtin F.entry_set_update_loop ?_
    rw [Around.under_plainId F.plain_set_update_loop _]
    show wpAny _ A.in1 (pyNext (.ref I) >>= _) _ _ s
    refine wpAny_bind (W.done s _ _ st fun s' m => ?_)
    have hb' := kp m hb
    exact wpAny_pure (hR s' L es ep t (m.mono sub) (T.kept (fun o e => m.heap S o nw e) fun q hq => kat (hB q (List.mem_of_mem_take (g.from_ q hq))) hb') g hb')
  | succ k ih =>
    intro i s hk hi st hb ⟨L, es, ep, t, T, g⟩ hR
    have lt : i < n := by omega
    refine codeAny_builtin F.entry_set_update_loop ?_
    rw [Around.under_plainId F.plain_set_update_loop _]
    show wpAny _ A.in1 (pyNext (.ref I) >>= _) _ _ s
    refine wpAny_bind (W.item i s _ _ lt st fun v s' hP st' m => ?_)
    obtain ⟨q, eq, rfl⟩ := hv i v hP
    have hb' := kp m hb
    have T' := T.kept (fun o e => m.heap S o nw e) fun q' hq => kat (hB q' (List.mem_of_mem_take (g.from_ q' hq))) hb'
    have hx : KAt s'.heap q.2 q.1 := kat (hB q (List.mem_of_getElem? eq)) hb'
    show wpAny _ A.in1 (holding [Value.ref q.1] (setAdd S (.ref q.1)) >>= _) _ _ s'
    refine wpAny_bind (wpAny_holding ?_)
    unfold setAdd
    refine wpAny_holding (wpAny_bind (hx.hash u ?_))
    refine more (s := { s' with toks := s'.toks + q.2.draws }) T' hx u (by
      have z := few (L.map Prod.snd) T'.sep fun x hx => by
        obtain ⟨q, hq, rfl⟩ := List.mem_map.mp hx
        exact List.mem_map.mpr ⟨q, List.mem_of_mem_take (g.from_ q hq), rfl⟩
      rw [List.length_map] at z
      omega) fun b h' L' es' ep' t' sb T2 c1 c2 => ?_
    have hb2 : ∀ b o, B.get? b = some o → h'.get? b = some o := fun b o e => (sb.2 b (fun z => by rw [z, S0] at e; cases e)).trans (hb' b o e)
    refine wpAny_pure ⟨plainId_quiet F.plain_set_update_loop _, ih (i + 1) _ (by omega) lt (W.frame _ s' _ _ st' (Nat.le_add_right _ _) fun b hb3 o e => ?_) hb2 ⟨L', es', ep', t', T2, g.step eq c1 c2⟩ fun s2 L2 es2 ep2 t2 m2 T3 g3 hb3 => ?_⟩
    · exact (sb.2 b fun z => nf (z ▸ hb3)).trans e
    · refine hR s2 L2 es2 ep2 t2 (Moved.trans W.gtrans ((m.mono sub).then_heap (Nat.le_add_right _ _) fun b o hn e => ?_) m2) T3 g3 hb3
      exact (sb.2 b fun z => hn (z ▸ List.mem_cons_self)).trans e
end
end PL
set_option Elab.async false
set_option linter.all false
set_option maxRecDepth 100000
set_option maxHeartbeats 4000000
namespace PL
open L2 PySem PyProof.Rows PySem.Spec
section
variable {P : Program} {w : World} {A : Around} {E : Value → Shared → Prop} {s : Shared}
abbrev emptyS (led : Bool) : Obj := { cls := .type "set", dict := none, data := .set #[] 0 (.fresh 0 0 led) }
/-- what stands behind set(xs) -/
def SetMade (w : World) (s : Shared) (ks : List El) (Q : Value → Shared → Prop) : Prop :=
  ∀ (h' : Heap) (tk : Nat) L es ep t, TAt w h' s.heap.objs.size L es ep t → Has ks ks.length L → (∀ b o, s.heap.get? b = some o → h'.get? b = some o) → Q (.ref s.heap.objs.size) { s with heap := h', toks := tk }
theorem at_of {items : Array Value} {ks : List El} (e : items.toList = ks.map fun q => Value.ref q.1) (i : Nat) (v : Value) (h : items[i]? = some v) : ∃ q, ks[i]? = some q ∧ v = .ref q.1 := by
  have z : items.toList[i]? = some v := by rw [Array.getElem?_toList]; exact h
  rw [e, List.getElem?_map] at z
  cases y : ks[i]? with
  | none => rw [y] at z; cases z
  | some q => rw [y] at z; exact ⟨q, rfl, (Option.some.inj z).symm⟩
theorem fill_at {l : Addr} {led : Bool} {items : Array Value} {ks : List El} {wr : List Addr} {GG : Array GenState → Array GenState → Prop} {St : Nat → Shared → Prop} {o : Obj} {R : Result → Shared → Prop} (un : l < s.heap.objs.size) (hit : items.toList = ks.map fun q => Value.ref q.1) (hkk : ∀ q ∈ ks, KAt s.heap q.2 q.1) (few : Few ks) (hld : w.params.followText "set-order" = true ∨ led = true) (u : A.units + 16 < cLine)
    (W : WalksS P w A.in1.in1.in1 (s.heap.push (emptyS led)).objs.size [(s.heap.push (emptyS led)).objs.size, l] wr GG items.size (fun i v => items[i]? = some v) St) (ew : wr = [(s.heap.push (emptyS led)).objs.size])
    (s0 : St 0 { s with heap := (s.heap.push (emptyS led)).push o }) (hR : ∀ s' L es ep t, Moved (s.heap.objs.size :: wr) GG { s with heap := (s.heap.push (emptyS led)).push o } s' → TAt w s'.heap s.heap.objs.size L es ep t → Has ks ks.length L → (∀ b o, s.heap.get? b = some o → s'.heap.get? b = some o) → R (.ok (.ret .none)) s') :
    codeAny (model P w) A.in1.in1 (.builtin "set.update.loop" ⟨[.ref s.heap.objs.size, .ref (s.heap.push (emptyS led)).objs.size], []⟩) R { s with heap := (s.heap.push (emptyS led)).push o } := by
  have hsz : items.size = ks.length := by
    have z := congrArg List.length hit
    rwa [Array.length_toList, List.length_map] at z
  have nn : ∀ b, s.heap.objs.size ≤ b → s.heap.get? b = none := fun b hb => by
    cases y : s.heap.get? b with
    | none => rfl
    | some o => exact absurd (Nat.lt_of_lt_of_le (Heap.lt_size y) hb) (Nat.lt_irrefl _)
  have zsz : (s.heap.push (emptyS led)).objs.size = s.heap.objs.size + 1 := Heap.size_push ..
  have nfp : s.heap.objs.size ∉ [(s.heap.push (emptyS led)).objs.size, l] := by
    rw [zsz]
    simp only [List.mem_cons, List.mem_singleton, List.not_mem_nil, or_false, not_or]
    exact ⟨Nat.ne_of_lt (Nat.lt_succ_self _), Nat.ne_of_gt un⟩
  refine fill W nfp ks hsz few (fun i v hi => at_of hit i v hi) s.heap hkk (nn _ (Nat.le_refl _)) (fun b hb => nn b ?_) (by show A.units + 1 + 1 + 1 + 8 < cLine; omega) (items.size - 0) 0 _ rfl (Nat.zero_le _) s0 (fun b o e => Heap.get?_push_of_some _ (Heap.get?_push_of_some _ e)) ⟨[], #[], 0, _, tat_new (led := led) (Heap.get?_push_of_some _ (Heap.get?_push_size _ rfl)) hld, (fun q hq => nomatch hq), (fun q hq => by simp at hq), Nat.le_refl _⟩ (fun s' L es ep t m T' g k => hR s' L es ep t m T' (hsz ▸ g) k)
  rw [ew] at hb
  rw [List.mem_singleton.mp hb, zsz]
  exact Nat.le_succ _
/-- set's own __init__ by what it walks: the source's iterator comes (hIt), then the walk -/
theorem set_of {l : Addr} {T : String} {items : Array Value} (ks : List El) {Q : Value → Shared → Prop} (hh : A.handled = none) (hit : items.toList = ks.map fun q => Value.ref q.1) (hkk : ∀ q ∈ ks, KAt s.heap q.2 q.1) (few : Few ks) (u : A.units + 16 < cLine)
    (hT : (T = "list" ∧ s.heap.IsList l items) ∨ (T = "tuple" ∧ s.heap.IsTuple l items)) (h : SetMade w s ks Q) : wpAny (model P w) A (call (.type "set") [.ref l]) Q E s := by
  have hsz : items.size = ks.length := by
    have z := congrArg List.length hit
    rwa [Array.length_toList, List.length_map] at z
  have hmade := F.called_set.made
  have hsub := F.called_set.sub
  obtain ⟨c, tl, hmro⟩ := F.called_set.mro
  refine wpAny_call (codeAny_of_tree ?_)
  show wpAny _ _ (callAny (.type "set") _) _ _ _
  refine wpAny_pure ⟨Code.quiet_builtin _ (by decide +kernel), codeAny_builtin F.entry_type_call ?_⟩
  rw [Around.under_plain (weight_type_call_type "set" [.ref l] []) rfl]
  have h1 := F.called_set.notType
  have h2 := F.called_set.canCreate
  have hct := F.typeCall_set_1 (.ref l)
  repeat (any_goals (first | assumption | wp_step))

  refine codeAny_mono (code_set_led1 (.ref l) (E := E) (Q₁ := fun v z => ∃ led : Bool, (w.params.followText "set-order" = true ∨ led = true) ∧ v = .ref s.heap.objs.size ∧ z = { s with heap := s.heap.push (emptyS led) }) ⟨_, (by cases w.params.followText "set-order" <;> simp), rfl, rfl⟩) fun r z hr => ?_
  cases r with
  | error e => exact hr
  | ok fl =>
    cases fl with
    | ret obj =>
      obtain ⟨led, hld, rfl, rfl⟩ := hr
      have hS : (s.heap.push (emptyS led)).get? s.heap.objs.size = some (emptyS led) := Heap.get?_push_size _ rfl
      have hTy : Shared.TypeIs { s with heap := s.heap.push (emptyS led) } (.ref s.heap.objs.size) "set" := ⟨_, hS, rfl⟩
      have hli := F.called_set.init.lookup
      have hbi := F.called_set.init.bind (.ref s.heap.objs.size)
      repeat (any_goals (first | assumption | wp_step))

      refine codeAny_mono (codeAny_call_builtin (R := wants (fun r z => r = .none ∧ ∃ h' tk L es ep t, z = { s with heap := h', toks := tk } ∧ TAt w h' s.heap.objs.size L es ep t ∧ Has ks ks.length L ∧ ∀ b o, s.heap.get? b = some o → h'.get? b = some o) E)
        F.called_set.init.plain F.entry_set_init (check_set_init_1 hTy ?_)) fun r₂ z₂ hr₂ => ?_
      · rcases hT with ⟨rfl, hl⟩ | ⟨rfl, hl⟩
        · obtain ⟨⟨ocls, odict, odata, oslots⟩, hol, hcl, nl, hdl⟩ := hl
          simp only at hcl hdl
          subst hcl; subst hdl
          have hol' : (s.heap.push (emptyS led)).get? l = some { cls := .type "list", dict := odict, data := .seq items nl, slots := oslots } := Heap.get?_push_of_some _ hol
          have hsls := F.sub_list_set
          have hslf := F.sub_list_frozenset
          have hne : (Value.type "list" == Value.type "dict") = false := by decide
          have hl1 : (s.heap.push (emptyS led)).IsList l items := ⟨_, hol', rfl, nl, rfl⟩
          unfold Builtin.«set.__init__» noKeywords Builtin.Frozenset.updateFrom
          generalize hPI : pyIter = PI
          wp_walk
          subst hPI
          refine wpAny_pyIter_list hl1 (wpAny_bind (wpAny_runValue ?_))
          have un : l < s.heap.objs.size := Heap.lt_size hol
          have neI : l ≠ (s.heap.push (emptyS led)).objs.size := by
            rw [Heap.size_push]
            exact Nat.ne_of_lt (Nat.lt_succ_of_lt un)
          refine fill_at un hit hkk few hld u (Walks.list (A := A.in1.in1.in1) (by simp [hh]) _ l neI items).toS rfl ⟨⟨_, Heap.get?_push_size _ rfl, rfl, rfl⟩, hl1.push _⟩ fun z2 L es ep t mv T' g keep => ?_
          obtain ⟨h', g2, d', tk', os'⟩ := z2
          obtain rfl : g2 = s.gens := mv.gens
          obtain rfl : d' = s.drawn := mv.drawn
          obtain rfl : os' = s.os := mv.os
          show wpAny _ _ _ _ _ _
          refine wpAny_pure ?_
          show wpAny _ _ (ret Value.none) _ _ _
          exact wpAny_pure ⟨rfl, h', tk', L, es, ep, t, rfl, T', g, keep⟩
        · obtain ⟨⟨ocls, odict, odata, oslots⟩, hol, hcl, nl, hdl⟩ := hl
          simp only at hcl hdl
          subst hcl; subst hdl
          have hol' : (s.heap.push (emptyS led)).get? l = some { cls := .type "tuple", dict := odict, data := .seq items nl, slots := oslots } := Heap.get?_push_of_some _ hol
          have hsls := F.sub_tuple_set
          have hslf := F.sub_tuple_frozenset
          have hne : (Value.type "tuple" == Value.type "dict") = false := by decide
          have hl1 : (s.heap.push (emptyS led)).IsTuple l items := ⟨_, hol', rfl, nl, rfl⟩
          unfold Builtin.«set.__init__» noKeywords Builtin.Frozenset.updateFrom
          generalize hPI : pyIter = PI
          wp_walk
          subst hPI
          refine wpAny_pyIter_tuple hl1 (wpAny_bind (wpAny_runValue ?_))
          have un : l < s.heap.objs.size := Heap.lt_size hol
          have neI : l ≠ (s.heap.push (emptyS led)).objs.size := by
            rw [Heap.size_push]
            exact Nat.ne_of_lt (Nat.lt_succ_of_lt un)
          refine fill_at un hit hkk few hld u (Walks.tuple (A := A.in1.in1.in1) (by simp [hh]) _ l neI items).toS rfl ⟨⟨_, Heap.get?_push_size _ rfl, rfl, rfl⟩, hl1.push _⟩ fun z2 L es ep t mv T' g keep => ?_
          obtain ⟨h', g2, d', tk', os'⟩ := z2
          obtain rfl : g2 = s.gens := mv.gens
          obtain rfl : d' = s.drawn := mv.drawn
          obtain rfl : os' = s.os := mv.os
          show wpAny _ _ _ _ _ _
          refine wpAny_pure ?_
          show wpAny _ _ (ret Value.none) _ _ _
          exact wpAny_pure ⟨rfl, h', tk', L, es, ep, t, rfl, T', g, keep⟩
      · cases r₂ with
        | error e => exact hr₂
        | ok fl₂ =>
          cases fl₂ with
          | ret r =>
            obtain ⟨rfl, h', tk, L, es, ep, t, rfl, T', g, keep⟩ := hr₂
            repeat (any_goals (first | assumption | wp_step))
            exact h _ _ _ _ _ _ T' g keep
          | _ => exact hr₂.elim
    | _ => exact hr.elim
end
end PL
set_option Elab.async false
set_option linter.all false
set_option maxRecDepth 100000
set_option maxHeartbeats 1000000
namespace PL
open L2 PySem PyProof.Rows PySem.Spec
/-! ### sorted(a set of pairs of small numbers) -/
theorem perm_of_map {α β : Type} {f : α → β} {xs ys : List β} (p : xs.Perm ys) : ∀ {l : List α}, ys = l.map f → ∃ l' : List α, l'.Perm l ∧ xs = l'.map f := by
  induction p with
  | nil =>
    intro l e
    cases l with
    | nil => exact ⟨[], .refl _, rfl⟩
    | cons a r => cases e
  | cons x p ih =>
    intro l e
    cases l with
    | nil => cases e
    | cons a r =>
      rw [List.map_cons] at e
      injection e with e1 e2
      obtain ⟨l', q, e3⟩ := ih e2
      exact ⟨a :: l', q.cons a, by rw [List.map_cons, e3, e1]⟩
  | swap x y r =>
    intro l e
    cases l with
    | nil => cases e
    | cons a r' =>
      cases r' with
      | nil => simp at e
      | cons b r'' =>
        simp only [List.map_cons, List.cons.injEq] at e
        obtain ⟨e1, e2, e3⟩ := e
        exact ⟨b :: a :: r'', List.Perm.swap a b r'', by simp only [List.map_cons, e1, e2, e3]⟩
  | trans p q ih1 ih2 =>
    intro l e
    obtain ⟨l1, q1, e1⟩ := ih2 e
    obtain ⟨l2, q2, e2⟩ := ih1 e1
    exact ⟨l2, q2.trans q1, e2⟩
section
variable {P : Program} {w : World} {A : Around} {E : Value → Shared → Prop} {s : Shared}
abbrev refOf (q : El) : Value := .ref q.1
def pr (p : Int × Int) : List Int := [p.1, p.2]
theorem sorted_pairs {a : Addr} {L : List El} {es : Array (Int × Value)} {ep : Nat} {t : SetTable} {Q : Value → Shared → Prop} (R : TAt w s.heap a L es ep t) (hh : A.handled = none) (f : El → Int × Int)
    (hB : ∀ q ∈ L, TS.TupInts s.heap (.ref q.1) (pr (f q)) ∧ TS.Bd 64 (pr (f q)))
    (hQ : ∀ s' p (out : Array Value) (c : Nat) (L' : List El), (∀ b o, s.heap.get? b = some o → s'.heap.get? b = some o) → s'.gens = s.gens → s'.os = s.os → s.heap.objs.size ≤ p →
      s'.heap.get? p = some (seqObj "list" out c) → out.toList = L'.map refOf → L'.Perm L → L'.Pairwise (fun q r => TS.code 64 (pr (f q)) ≤ TS.code 64 (pr (f r))) → Q (.ref p) s') :
    wpAny (model P w) A (call (.builtin "sorted") [.ref a]) Q E s := by
  obtain ⟨o, ho, hex, hd⟩ := R.obj
  have sz := lay_size R.lay
  have hfew := R.small
  refine Calls.call_function_entry kind_sorted plain_sorted entry_sorted (args_sorted1 _) ?_
  unfold Builtin.«sorted»
  refine wpAny_bind (m := checkCount "sorted" 1 1 _) (wpAny_pure ?_)
  refine wpAny_bind (collect_set (A := A.in1) hh ⟨o, ho, hex.1, hd⟩ R.fits (by unfold scanBound; omega) R.tab.ris R.led fun s1 vs k1 hz g1 o1 pm => ?_)
  have hes : es.toList.map (·.2) = L.map refOf := by
    rw [R.lay, List.map_map]
    rfl
  rw [hes] at pm
  have hvl : vs.length < 64 := by rw [pm.length_eq, List.length_map]; exact hfew
  refine wpAny_bind (wpAny_newList ?_ (by rw [sizeLine_eq]; omega))
  have hoL : (s1.heap.push (seqObj "list" vs.toArray 0)).get? s1.heap.objs.size = some (seqObj "list" vs.toArray 0) := Heap.get?_push_size _ rfl
  have tk : ∀ q ∈ L, TS.TupInts (s1.heap.push (seqObj "list" vs.toArray 0)) (.ref q.1) (pr (f q)) := fun q hq => (hB q hq).1.keeps fun b u e _ => Heap.get?_push_of_some _ (k1 b u e)
  have x : TS.TupsOk (s1.heap.push (seqObj "list" vs.toArray 0)) 2 64 vs := fun v hv => by
    obtain ⟨q, hq, e⟩ := List.mem_map.mp (pm.mem_iff.mp hv)
    rw [← e]
    exact ⟨pr (f q), tk q hq, rfl, (hB q hq).2⟩
  refine wpAny_bind (wpAny_holding (TS.call_sort_tups (s := { s1 with heap := s1.heap.push (seqObj "list" vs.toArray 0) }) hoL hvl (by decide) x fun out a1 a2 => ?_))
  obtain ⟨c, hc⟩ := sortedHeap_at (vs := vs) (out := out) hoL
  obtain ⟨L', pL, e'⟩ := perm_of_map (a1.trans pm) rfl
  have hs' : ∀ q ∈ L', q ∈ L := fun q hq => pL.mem_iff.mp hq
  have pw : L'.Pairwise (fun q r => TS.code 64 (pr (f q)) ≤ TS.code 64 (pr (f r))) := by
    rw [e'] at a2
    refine List.Pairwise.imp_of_mem (fun {q r} hq hr hle => ?_) (List.pairwise_map.mp a2)
    have f1 : TS.intsOf (s1.heap.push (seqObj "list" vs.toArray 0)) (.ref q.1) = pr (f q) := (tk q (hs' q hq)).ints
    have f2 : TS.intsOf (s1.heap.push (seqObj "list" vs.toArray 0)) (.ref r.1) = pr (f r) := (tk r (hs' r hr)).ints
    rw [← f1, ← f2]
    exact hle
  refine wpAny_pure ⟨_, rfl, hQ _ s1.heap.objs.size out c L' (fun b u e => ?_) g1 o1 hz hc e' pL pw⟩
  have q := k1 b u e
  have hlt := Heap.lt_size q
  show (sortedHeap (s1.heap.push (seqObj "list" vs.toArray 0)) s1.heap.objs.size vs out).get? b = some u
  rw [sortedHeap_old (Nat.ne_of_lt hlt) (by rw [size_push']; exact Nat.lt_succ_of_lt hlt)]
  exact Heap.get?_push_of_some _ q
end
end PL
set_option Elab.async false
set_option linter.all false
set_option maxRecDepth 100000
set_option maxHeartbeats 1000000
namespace PL
open L2 PySem PyProof.Rows PySem.Spec
/-! ### the rarer words -/
section
variable {K : PySem.W.Frag} {M : Mem} {G H : Hp}
theorem intShape {h : Heap} {i : Int} {v : Value} (r : RelV (V.int i) v) : NestedIs h (.num i) v := by
  obtain ⟨t, rfl⟩ := r
  exact .int i t
mutual
theorem key_of {X : Cx} {pins : List (Addr × Obj)} {σ : L2.St} {s : Shared} (I : Inv X pins σ H s) (g : Same G H) : ∀ {d : D} {v : V} {u : Value} {κ : NestedKey}, Rep X.K G v d → RelV v u → keyD d = some κ → NestedIs s.heap κ u
  | .non, _, _, _, r, q, e => by cases r; cases e; cases (show _ = _ from q); exact .none
  | .bl b, _, _, _, r, q, e => by cases r; cases e; cases (show _ = _ from q); exact .bool rfl
  | .int i, _, _, _, r, q, e => by cases r; cases e; exact intShape q
  | .str x, _, _, _, r, q, e => by cases r; cases e; obtain ⟨t, rfl⟩ := q; exact .text x t
  | .tup ds, _, _, _, r, q, e => by
    cases r with
    | tup ea rs =>
      cases q
      cases ek : keysD ds with
      | none => rw [keyD, ek] at e; cases e
      | some ks =>
        rw [keyD, ek] at e
        cases e
        obtain ⟨its, rv, tt⟩ := I.tuple (SqT.of (g _ _ ea))
        obtain ⟨⟨o, eo, ec, n, ed⟩, hz⟩ := tt
        exact .tup eo ec ed (by simpa using keys_of I g rs rv ek)
  | .lst _, _, _, _, _, _, e => by cases e
  | .cell _, _, _, _, _, _, e => by cases e
  | .scr _, _, _, _, _, _, e => by cases e
theorem keys_of {X : Cx} {pins : List (Addr × Obj)} {σ : L2.St} {s : Shared} (I : Inv X pins σ H s) (g : Same G H) : ∀ {ds : List D} {vs : List V} {us : List Value} {ks : List NestedKey}, Reps X.K G vs ds → Vals vs us → keysD ds = some ks → NestedAll s.heap ks us
  | [], _, _, _, .nil, .nil, e => by cases e; exact .nil
  | d :: ds, _, _, _, .cons r rs, .cons q qs, e => by
    cases e1 : keyD d with
    | none => rw [keysD, e1] at e; cases e
    | some k =>
      cases e2 : keysD ds with
      | none => rw [keysD, e1, e2] at e; cases e
      | some ks =>
        rw [keysD, e1, e2] at e
        cases e
        exact .cons (key_of I g r q e1) (keys_of I g rs qs e2)
end
theorem els_of {X : Cx} {pins : List (Addr × Obj)} {σ : L2.St} {s : Shared} (I : Inv X pins σ H s) (g : Same G H) : ∀ {xs : List D} {vs : List V} {us : List Value} {ks : List NestedKey}, Reps X.K G vs xs → Vals vs us → tupKeys xs = some ks →
    ∃ L : List El, us = L.map (fun q => Value.ref q.1) ∧ L.map Prod.snd = ks ∧ L.length = xs.length ∧ ∀ q ∈ L, KAt s.heap q.2 q.1
  | [], _, _, _, .nil, .nil, e => by cases e; exact ⟨[], rfl, rfl, rfl, (fun q h => nomatch h)⟩
  | .tup ds :: r, _, _, _, .cons (v := v) a rs, .cons q qs, e => by
    cases e1 : keysD ds with
    | none => rw [tupKeys, e1] at e; cases e
    | some k =>
      cases e2 : tupKeys r with
      | none => rw [tupKeys, e1, e2] at e; cases e
      | some ks =>
        rw [tupKeys, e1, e2] at e
        have e' : (if (NestedKey.tup k).depth ≤ 8 then some (NestedKey.tup k :: ks) else none) = some _ := e
        split at e'
        · rename_i hd
          cases e'
          obtain ⟨L, h1, h2, h3, h4⟩ := els_of I g rs qs e2
          have kk := key_of I g a q (show keyD (.tup ds) = some (.tup k) by rw [keyD, e1]; rfl)
          cases a with
          | @tup b _ _ ea _ =>
            cases q
            refine ⟨(b, .tup k) :: L, by rw [h1]; rfl, by rw [List.map_cons, h2], by rw [List.length_cons, h3]; rfl, fun q hq => ?_⟩
            cases hq with
            | head => exact ⟨kk, hd⟩
            | tail _ hq => exact h4 q hq
        · cases e'
  | .non :: _, _, _, _, _, _, e => by cases e
  | .bl _ :: _, _, _, _, _, _, e => by cases e
  | .int _ :: _, _, _, _, _, _, e => by cases e
  | .str _ :: _, _, _, _, _, _, e => by cases e
  | .lst _ :: _, _, _, _, _, _, e => by cases e
  | .cell _ :: _, _, _, _, _, _, e => by cases e
  | .scr _ :: _, _, _, _, _, _, e => by cases e
theorem dist_ge : ∀ (ks l : List NestedKey), l.Nodup → (∀ x ∈ l, x ∈ ks) → l.length ≤ distN ks
  | [], l, _, h => by
    cases l with
    | nil => exact Nat.zero_le _
    | cons a r => exact absurd (h a List.mem_cons_self) (by simp)
  | k :: ks, l, nd, h => by
    have q := dist_ge ks (l.erase k) (nd.erase k) fun x hx => by
      rw [nd.mem_erase_iff] at hx
      exact (List.mem_cons.mp (h x hx.2)).resolve_left hx.1
    unfold distN
    split
    · rename_i hk
      exact dist_ge ks l nd fun x hx => (List.mem_cons.mp (h x hx)).elim (fun e => e ▸ hk) id
    · have := List.length_erase_le (a := k) (l := l)
      by_cases m : k ∈ l
      · rw [List.length_erase_of_mem m] at q
        omega
      · rw [List.erase_of_not_mem m] at q
        omega
theorem distN_len : ∀ (ks l : List NestedKey), l.Nodup → (∀ x, x ∈ l ↔ x ∈ ks) → l.length = distN ks
  | [], l, _, h => by
    cases l with
    | nil => rfl
    | cons a r => exact absurd ((h a).mp List.mem_cons_self) (by simp)
  | k :: ks, l, nd, h => by
    unfold distN
    split
    · rename_i hk
      refine distN_len ks l nd fun x => (h x).trans ?_
      rw [List.mem_cons]
      exact ⟨fun z => z.elim (fun e => e ▸ hk) id, .inr⟩
    · rename_i hk
      have mk : k ∈ l := (h k).mpr List.mem_cons_self
      have q := distN_len ks (l.erase k) (nd.erase k) fun x => by
        rw [nd.mem_erase_iff, h x, List.mem_cons]
        constructor
        · rintro ⟨n, z⟩
          exact z.resolve_left n
        · exact fun z => ⟨fun e => hk (e ▸ z), .inr z⟩
      rw [List.length_erase_of_mem mk] at q
      have := List.length_pos_of_mem mk
      omega
end
section
variable {EX : Nat → Addr} {X : Cx} {W : WX} {fn : Str → Bool} {K : PySem.W.Frag} {ρ : Slots} {M : Mem} {G H : Hp} {σ : L2.St} {a b c : E} {x y z : Expr} {pos : Pos}
theorem e_lens {p p2 q : Pos} (g : Good X W fn) (h1 : glbB X.env.scope "len" = true) (h2 : glbB X.env.scope "set" = true) (ho : ord y = true) (ha : PE X y (tE EX W X.K a)) : PE X (.Call (.Name "len" p) [.Call (.Name "set" p2) [y] [] q] [] pos) (tE EX W X.K (.sp1 .lens a)) := by
  refine ⟨fun pins s σ H Q I ⟨ρ, M, G, b, en, run⟩ => ?_⟩
  have na : starEach [y] X.env = (false, eval y X.env) :: starEach [] X.env := star_of ho [] _
  refine Call_ (ld_blt I (glb_of h1) (g.nm _ (by decide)) PySem.boot_len (callWith_builtin1 (args_cons ?_ rfl) rfl rfl))
  refine Call_ (ld_blt I (glb_of h2) (g.nm _ (by decide)) boot_set (callWith_type1 (args_cons (thn (ha.run pins s σ H _ I (one_of b en (bo_run run) (fun _ _ z => z) (R := fun v H1 => ∃ M1 G1 d, Stp X.K M G H M1 G1 H1 ∧ Res X.K false false H M1 G1 H1 v d ∧ (sp1P .lens d).run M1 (kE X.K true false M G H Q) (exW EX W X.K M G σ H)) fun d M1 v G1 H1 c t r => ⟨M1, G1, d, t, r, c⟩)) fun v s1 ⟨x, H1, I1, r1, M1, G1, d, t, r, c⟩ => args_nil ?_) na) na rfl))
  obtain ⟨ks, ek, c⟩ := opt_run (bo_run c)
  have src : ∃ T l xs vs its, x = .ref l ∧ tupKeys xs = some ks ∧ distN ks < 63 ∧ Reps X.K G1 vs xs ∧ Vals vs its ∧ ((T = "list" ∧ s1.heap.IsList l its.toArray) ∨ (T = "tuple" ∧ s1.heap.IsTuple l its.toArray)) := by
    cases d <;> first | cases ek | skip
    case lst xs =>
      have ek' : (tupKeys xs).bind (fun ks => if distN ks < 63 then some ks else none) = some ks := ek
      obtain ⟨ks', ek1, ek2⟩ := Option.bind_eq_some_iff.mp ek'
      split at ek2
      · rename_i hl
        cases ek2
        have ek' := ek1
        obtain ⟨l, vs, rfl, e1, rs⟩ := r.lst t.bas
        obtain ⟨its, rv, pl, hz⟩ := I1.list (SqL.of e1)
        exact ⟨"list", l, xs, vs, its, rfl, ek', hl, rs, rv, .inl ⟨rfl, pl.isList⟩⟩
      · cases ek2
    case tup xs =>
      have ek' : (tupKeys xs).bind (fun ks => if distN ks < 63 then some ks else none) = some ks := ek
      obtain ⟨ks', ek1, ek2⟩ := Option.bind_eq_some_iff.mp ek'
      split at ek2
      · rename_i hl
        cases ek2
        have ek' := ek1
        cases r.nolst (fun _ z => nomatch z) with
        | @tup l vs _ e1 rs =>
          obtain ⟨its, rv, tt, hz⟩ := I1.tuple (SqT.of (t.bas.sub _ _ e1))
          exact ⟨"tuple", l, xs, vs, its, rfl, ek', hl, rs, rv, .inr ⟨rfl, tt⟩⟩
      · cases ek2
  obtain ⟨T, l, xs, vs, its, rfl, ek', hl, rs, rv, hT⟩ := src
  cases r1
  obtain ⟨L, h1', h2', h3', h4'⟩ := els_of I1 t.bas.sub rs rv ek'
  refine set_of (T := T) L (I1.ok.hd g.calm) (by simpa using h1') h4' (fun l nd sub => Nat.lt_of_le_of_lt (dist_ge ks l nd fun x hx => by rw [← h2']; exact sub x hx) hl) (by have := g.hu; omega) hT fun h' tk L' es ep t' T' hs keep => args_nil ?_
  obtain ⟨o, eo, ex, ed⟩ := T'.obj
  have sz := lay_size T'.lay
  have I2 : Inv X pins σ H1 { s1 with heap := h', toks := tk } := I1.kept fun b o e => keep b o e
  have el : L'.length = distN ks := by
    have q := distN_len ks (L'.map Prod.snd) T'.sep fun κ => ?_
    · rwa [List.length_map] at q
    · rw [← h2']
      constructor
      · intro hm
        obtain ⟨q, hq, rfl⟩ := List.mem_map.mp hm
        exact List.mem_map.mpr ⟨q, List.mem_of_mem_take (hs.from_ q hq), rfl⟩
      · intro hm
        obtain ⟨q, hq, rfl⟩ := List.mem_map.mp hm
        exact hs.all q (by rw [List.take_length]; exact hq)
  have few := T'.small
  refine call_len_set eo ex ed (fits_of sz T'.tab (by have := T'.roomy; omega)) (by rw [sz]; omega) ⟨.int (distN ks : Nat), H1, I2.tok _, ⟨_, by rw [sz, el]⟩, ?_⟩
  exact c _ G1 H1 t (.rep (.int _) fun _ _ z => nomatch z)
/-! ### xs[::-1] -/
theorem applied_rev {prog : Program} {w : World} {A : Around} {Er : Value → Shared → Prop} {s : Shared} {sl : Addr} {vl vu vs : Value} {n : Nat} {Q : Int × Int × Nat → Shared → Prop} (hs : s.heap.IsSliceOf sl vl vu vs) (pl : IsPart vl none) (pu : IsPart vu none) (ps : IsPart vs (some (-1)))
    (h : Q ((n : Int) - 1, -1, n) s) : wpAny (model prog w) A (Builtin.Slice.sliceApplied (.ref sl) (pure (n : Int))) Q Er s := by
  obtain ⟨os, hos, hcs, hds⟩ := id hs
  unfold Builtin.Slice.sliceApplied Builtin.Slice.sliceFields
  refine wpAny_bind (wpAny_bind (wpAny_field hos hds (x := vl) rfl (wpAny_bind (wpAny_field hos hds (x := vu) rfl (wpAny_bind (wpAny_field hos hds (x := vs) rfl (wpAny_pure ?_)))))))
  refine wpAny_bind (HT.slicePart_ ps ?_)
  show wpAny _ _ (if ((-1 : Int) == 0) = true then _ else _) _ _ s
  rw [if_neg (by decide)]
  refine wpAny_bind (HT.slicePart_ pl (wpAny_bind (HT.slicePart_ pu (wpAny_bind (wpAny_pure ?_)))))
  show wpAny _ _ (match Builtin.Slice.sliceAdjust none none (-1) (n : Int) with | (lo, hi) => pure (lo, (-1 : Int), Builtin.Slice.slicePlaces lo hi (-1))) _ _ s
  have e : Builtin.Slice.sliceAdjust none none (-1) (n : Int) = ((n : Int) - 1, -1) := by
    unfold Builtin.Slice.sliceAdjust
    simp
  have e2 : Builtin.Slice.slicePlaces ((n : Int) - 1) (-1) (-1) = n := by
    unfold Builtin.Slice.slicePlaces
    simp
    omega
  rw [e]
  show wpAny _ _ (pure ((n : Int) - 1, (-1 : Int), Builtin.Slice.slicePlaces ((n : Int) - 1) (-1) (-1))) _ _ s
  rw [e2]
  exact wpAny_pure h
theorem fm_some {α β : Type} {f : α → Option β} {g : α → β} : ∀ l : List α, (∀ x ∈ l, f x = some (g x)) → l.filterMap f = l.map g
  | [], _ => rfl
  | x :: r, h => by rw [List.filterMap_cons, h x List.mem_cons_self, List.map_cons, fm_some r fun y hy => h y (List.mem_cons_of_mem _ hy)]
theorem pick_rev (xs : Array Value) : ((List.range xs.size).filterMap fun (m : Nat) => xs[(((xs.size : Nat) : Int) - 1 + (m : Int) * (-1)).toNat]?).toArray = xs.toList.reverse.toArray := by
  congr 1
  apply List.ext_getElem?
  intro i
  have e : ((List.range xs.size).filterMap fun (m : Nat) => xs[(((xs.size : Nat) : Int) - 1 + (m : Int) * (-1)).toNat]?) = (List.range xs.size).map fun m => xs.getD (xs.size - 1 - m) .none := by
    refine fm_some _ fun m hm => ?_
    have hm := List.mem_range.mp hm
    have e : (((xs.size : Nat) : Int) - 1 + (m : Int) * (-1)).toNat = xs.size - 1 - m := by omega
    rw [e]
    have lt : xs.size - 1 - m < xs.size := by omega
    simp [Array.getElem?_eq_getElem lt, Array.getD, lt]
  rw [e]
  by_cases h : i < xs.size
  · rw [List.getElem?_map, List.getElem?_range h, List.getElem?_reverse (by simpa using h)]
    have lt : xs.size - 1 - i < xs.size := by omega
    simp [Array.getElem?_eq_getElem lt, Array.getD, lt]
  · rw [List.getElem?_eq_none (by simpa using h), List.getElem?_eq_none (by simpa using h)]
theorem getItem_tuple_rev {prog : Program} {w : World} {A : Around} {Er : Value → Shared → Prop} {s : Shared} {t sl : Addr} {items : Array Value} {vl vu vs : Value} {Q : Value → Shared → Prop} (ht : IsTup s.heap t items) (hs : s.heap.IsSliceOf sl vl vu vs) (pl : IsPart vl none) (pu : IsPart vu none) (ps : IsPart vs (some (-1)))
    (h : Q (.ref s.heap.objs.size) { s with heap := s.heap.push { cls := .type "tuple", data := .seq items.toList.reverse.toArray } })
    (hsz : items.size ≤ sizeLine) : wpAny (model prog w) A (getItem (.ref t) (.ref sl)) Q Er s := by
  have htake : sizeOk (.seq items.toList.reverse.toArray) := by
    show items.toList.reverse.toArray.size ≤ sizeLine
    simpa using hsz
  obtain ⟨os, hos, hcs, hds⟩ := id hs
  have hTs : s.TypeIs (.ref sl) "slice" := ⟨os, hos, hcs⟩
  unfold getItem
  try with_reducible refine wpAny_holding ?_
  first | refine wpAny_bind (wpAny_pure ?_) | skip
  refine wpAny_bind (wpAny_sequenceKey ht.typeIs (by decide) ?_)
  refine wpAny_bind (wpAny_callSpecial?_slot (name := Str.ofString "__getitem__") ht.typeIs PyProof.Rows.slot_tuple_getitem
    (wpAny_call_entry PyProof.Rows.slot_tuple_getitem ht.typeIs entry_tuple_getitem ?_ (args_tuple_getitem _ _)))
  show wpAny _ _ (Builtin.Tuple.tupleItemsOf (.ref t) >>= _) _ _ s
  refine wpAny_bind (tupleItemsOf_ ht ?_)
  refine wpAny_bind (wpAny_typeOf hTs ?_)
  rw [if_pos (by decide)]
  refine wpAny_bind (applied_rev hs pl pu ps ?_)
  have hno : ¬ (((((items.size : Nat) : Int) - 1) == 0 && (-1 : Int) == 1 && items.size == items.size) = true) := by simp
  show wpAny _ _ (if ((((items.size : Nat) : Int) - 1) == 0 && (-1 : Int) == 1 && items.size == items.size) = true then _ else _) _ _ s
  rw [if_neg hno, pick_rev]
  first
    | exact wpAny_bind (m := Builtin.Tuple.tupleExact _) (wpAny_newObj_type (wpAny_pure ⟨_, rfl, wpAny_pure h⟩) htake)
    | exact wpAny_bind (m := Builtin.Tuple.tupleExact _) (wpAny_newObj_type (wpAny_bind (wpAny_pure (wpAny_pure ⟨_, rfl, wpAny_pure h⟩))) htake)
    | exact wpAny_bind (wpAny_bind (m := Builtin.Tuple.tupleExact _) (wpAny_newObj_type (wpAny_pure (wpAny_pure ⟨_, rfl, wpAny_pure h⟩)) htake))
    | exact wpAny_bind (wpAny_bind (m := Builtin.Tuple.tupleExact _) (wpAny_newObj_type (wpAny_pure ⟨_, rfl, wpAny_pure h⟩) htake))
def tRevA (K : PySem.W.Frag) (te : TE) : TE := fun σ H Q => te σ H fun x H1 => (∃ a xs, x = .ref a ∧ SqL K H1 a xs ∧ ∀ p, H1 p = none → Q (.ref p) (upd H1 p (.lst xs.reverse))) ∨ ∃ a xs, x = .ref a ∧ SqT K H1 a xs ∧ ∀ p, H1 p = none → Q (.ref p) (upd H1 p (.tup xs.reverse))
theorem pe_revA {e : Expr} {te : TE} {k : Nat} {p1 p2 p3 pos : Pos} (he : PE X e te) : PE X (.Subscript e (.Slice none none (some (.UnaryOp .USub (.Constant (.int 1) k p1) p2)) p3) pos) (tRevA X.K te) := by
  refine ⟨fun pins s σ H Q I h => ?_⟩
  refine Subscript_ (thn (he.run pins s σ H _ I h) fun v s1 ⟨x, H1, I1, r1, q1⟩ => ?_)
  have hst : PO X (some (.UnaryOp .USub (.Constant (.int 1) k p1) p2)) (tPart (tUn (rU fun i => .int (-i)) (tC (.int 1)))) := po_some (pe_un un_neg pe_int)
  refine wpAny_Slice (thn (po_none.run pins s1 σ H1 (fun o H2 => o = none ∧ H2 = H1) I1 ⟨rfl, rfl⟩) fun vl s2 ⟨l, H2, I2, pl, el, e2⟩ => ?_)
  subst el e2
  refine thn (po_none.run pins s2 σ H2 (fun o H3 => o = none ∧ H3 = H2) I2 ⟨rfl, rfl⟩) fun vu s3 ⟨u, H3, I3, pu, eu, e3⟩ => ?_
  subst eu e3
  refine thn (hst.run pins s3 σ H3 (fun o H4 => o = some (-1) ∧ H4 = H3) I3 ⟨1, rfl, -1, rfl, rfl, rfl⟩) fun vs s4 ⟨o, H4, I4, ps, eo, e4⟩ => ?_
  subst eo e4
  have I5 : Inv X pins σ H4 { s4 with heap := s4.heap.push { cls := .type "slice", data := .fields #[vl, vu, vs] } } := I4.kept (t' := s4.toks) fun b ob q => Heap.get?_push_of_some _ q
  rcases q1 with ⟨a, xs, rfl, hx, q⟩ | ⟨a, xs, rfl, hx, q⟩
  · cases r1
    obtain ⟨its, r, ht, hz⟩ := I5.list hx
    have hlen := r.length
    show wpAny (model X.prog X.w) X.A (subscriptTail e (.Slice none none (some (.UnaryOp .USub (.Constant (.int 1) k p1) p2)) p3) (.ref a) (.ref s4.heap.objs.size)) (EP X pins σ Q) X.xe { s4 with heap := s4.heap.push { cls := .type "slice", data := .fields #[vl, vu, vs] } }
    refine tail_any (ops := [.ref a, .ref s4.heap.objs.size]) ht.isList.typeIs (PySem.slot_list_getitem.lookup) ?_ (by with_unfolding_all rfl)
    refine wpAny_getItem_list_slice ht.isList (Heap.IsSliceOf.new _ vl vu vs) pl pu ps (by decide) ?_ (by rw [List.size_toArray]; omega)
    rw [PySem.W.krv_pick]
    refine ⟨.ref _, _, I5.laid (t' := s4.toks) (o := .lst xs.reverse) (fun b ob q => Heap.get?_push_of_some _ q) (Nat.le_refl _) ?_, rfl, q _ (I5.hok.fresh (Nat.le_refl _))⟩
    exact ⟨by rw [List.length_reverse]; exact hz, _, 0, r.reverse, Heap.get?_push_size _ rfl⟩
  · cases r1
    obtain ⟨its, r, ht, hz⟩ := I5.tuple hx
    have hlen := r.length
    show wpAny (model X.prog X.w) X.A (subscriptTail e (.Slice none none (some (.UnaryOp .USub (.Constant (.int 1) k p1) p2)) p3) (.ref a) (.ref s4.heap.objs.size)) (EP X pins σ Q) X.xe { s4 with heap := s4.heap.push { cls := .type "slice", data := .fields #[vl, vu, vs] } }
    refine tail_any (ops := [.ref a, .ref s4.heap.objs.size]) ht.typeIs (PyProof.Rows.slot_tuple_getitem.lookup) ?_ (by with_unfolding_all rfl)
    refine getItem_tuple_rev ht (Heap.IsSliceOf.new _ vl vu vs) pl pu ps ?_ (by rw [List.size_toArray]; omega)
    refine ⟨.ref _, _, I5.laid (t' := s4.toks) (o := .tup xs.reverse) (fun b ob q => Heap.get?_push_of_some _ q) (Nat.le_refl _) ?_, rfl, q _ (I5.hok.fresh (Nat.le_refl _))⟩
    exact ⟨by rw [List.length_reverse]; exact hz, _, r.reverse, IsTup.new _ _⟩
theorem Reps.reverse {G : Hp} : ∀ {ds : List D} {vs : List V}, Reps K G vs ds → Reps K G vs.reverse ds.reverse
  | _, _, .nil => .nil
  | _, _, .cons a r => by
    rw [List.reverse_cons, List.reverse_cons]
    exact r.reverse.append (.one a)
theorem e_rev {k : Nat} {p1 p2 p3 : Pos} (ha : PE X y (tE EX W X.K a)) : PE X (.Subscript y (.Slice none none (some (.UnaryOp .USub (.Constant (.int 1) k p1) p2)) p3) pos) (tE EX W X.K (.sp1 .rev a)) :=
  (pe_revA ha).imp fun σ H Q ⟨ρ, M, G, b, en, run⟩ => one_of b en (bo_run run) (fun _ _ z => z) fun d M1 x G1 H1 c t r => by
    cases d <;> first | exact False.elim c | skip
    case lst xs =>
      obtain ⟨l, vs, rfl, e1, rs⟩ := r.lst t.bas
      exact .inl ⟨l, vs, rfl, SqL.of e1, fun p n => kE_newL c t rs.reverse n⟩
    case tup xs =>
      cases r.nolst (fun _ z => nomatch z) with
      | tup e1 rs => exact .inr ⟨_, _, rfl, SqT.of (t.bas.sub _ _ e1), fun p n => kE_newT c t rs.reverse n⟩
/-! ### min of a list of tuples -/
mutual
theorem rd_det {h : Heap} : ∀ (d : D) {e : PyData} {v : Value} {as bs : List Addr}, Reads h v (toPy d) as → Reads h v e bs → e = toPy d
  | .non, _, _, _, _, r1, r2 => by cases r1; cases r2; rfl
  | .cell _, _, _, _, _, r1, r2 => by cases r1; cases r2; rfl
  | .scr _, _, _, _, _, r1, r2 => by cases r1; cases r2; rfl
  | .bl _, _, _, _, _, r1, r2 => by cases r1; cases r2; rfl
  | .int _, _, _, _, _, r1, r2 => by cases r1; cases r2; rfl
  | .str _, _, _, _, _, r1, r2 => by cases r1; cases r2; rfl
  | .tup ds, e, _, _, _, r1, r2 => by
    have r1' : Reads h _ (.tuple (toPys ds)) _ := r1
    cases r1' with
    | tuple g c dt rs =>
      cases r2 with
      | tuple g' c' dt' rs' =>
        rw [g] at g'; cases g'
        rw [dt] at dt'; cases dt'
        rw [rds_det ds rs rs']; rfl
      | list g' c' dt' rs' => rw [g] at g'; cases g'; rw [c] at c'; exact absurd c' (by decide)
      | dict g' c' dt' rs' => rw [g] at g'; cases g'; rw [c] at c'; exact absurd c' (by decide)
  | .lst ds, e, _, _, _, r1, r2 => by
    have r1' : Reads h _ (.list (toPys ds)) _ := r1
    cases r1' with
    | list g c dt rs =>
      cases r2 with
      | list g' c' dt' rs' =>
        rw [g] at g'; cases g'
        rw [dt] at dt'; cases dt'
        rw [rds_det ds rs rs']; rfl
      | tuple g' c' dt' rs' => rw [g] at g'; cases g'; rw [c] at c'; exact absurd c' (by decide)
      | dict g' c' dt' rs' => rw [g] at g'; cases g'; rw [c] at c'; exact absurd c' (by decide)
theorem rds_det {h : Heap} : ∀ (ds : List D) {es : List PyData} {vs : List Value} {as bs : List Addr}, ReadsAll h vs (toPys ds) as → ReadsAll h vs es bs → es = toPys ds
  | [], _, _, _, _, r1, r2 => by
    have r1' : ReadsAll h _ [] _ := r1
    cases r1'; cases r2; rfl
  | d :: ds, _, _, _, _, r1, r2 => by
    have r1' : ReadsAll h _ (toPy d :: toPys ds) _ := r1
    cases r1' with
    | cons a rs =>
      cases r2 with
      | cons a' rs' => rw [rd_det d a a', rds_det ds rs rs']; rfl
end
theorem vals_at : ∀ {vs : List V} {us : List Value} {i : Nat} {u : Value}, Vals vs us → us[i]? = some u → ∃ v, vs[i]? = some v ∧ RelV v u
  | _, _, _, _, .nil, e => by simp at e
  | _, _, 0, _, .cons r _, e => by simp at e; subst e; exact ⟨_, rfl, r⟩
  | _, _, i + 1, _, .cons _ rs, e => by simpa using vals_at rs (by simpa using e)
theorem e_minT {p : Pos} (g : Good X W fn) (h1 : glbB X.env.scope "min" = true) (ho : ord y = true) (ha : PE X y (tE EX W X.K a)) : PE X (.Call (.Name "min" p) [y] [] pos) (tE EX W X.K (.sp1 .minT a)) := by
  refine ⟨fun pins s σ H Q I ⟨ρ, M, G, b, en, run⟩ => ?_⟩
  have na : starEach [y] X.env = (false, eval y X.env) :: starEach [] X.env := star_of ho [] _
  refine Call_ (ld_blt I (glb_of h1) (g.nm _ (by decide)) boot_min (callWith_builtin1 (args_cons (thn (ha.run pins s σ H _ I (one_of b en (bo_run run) (fun _ _ z => z) (R := fun v H1 => ∃ M1 G1 d, Stp X.K M G H M1 G1 H1 ∧ Res X.K false false H M1 G1 H1 v d ∧ (sp1P .minT d).run M1 (kE X.K true false M G H Q) (exW EX W X.K M G σ H)) fun d M1 v G1 H1 c t r => ⟨M1, G1, d, t, r, c⟩)) fun v s1 ⟨x, H1, I1, r1, M1, G1, d, t, r, c⟩ => args_nil ?_) na) na rfl))
  cases d <;> first | exact False.elim c | skip
  rename_i xs
  cases xs with
  | nil => exact False.elim c
  | cons d0 ds =>
    obtain ⟨⟨sh, al⟩, pick⟩ := (show ((∀ y ∈ d0 :: ds, shN 60 y) ∧ PySem.W.AlikeAll (toPys (d0 :: ds))) ∧ ∀ d, d ∈ d0 :: ds → toPy d = PySem.W.minD (toPy d0) (toPys ds) → kE X.K true false M G H Q d M1 from c)
    obtain ⟨G2, g2, s2, rf⟩ := r.froz t.bas
    obtain ⟨l, vs, rfl, e1, rs⟩ := r.lst t.bas
    cases r1
    obtain ⟨its, rv, pl, hz⟩ := I1.list (SqL.of e1)
    have dps := rs.dps t.bas.sub sh
    obtain ⟨as, ra⟩ := Dp.readsAll I1 _ _ _ dps rv
    have dl := (shs_lay (d0 :: ds) 60 sh).2
    have hu := g.hu
    refine PySem.W.min_list_data (vs := its.toArray) (x := toPy d0) (xs := toPys ds) (as := as) (I1.ok.hd g.calm) pl.isList (by rw [List.toList_toArray]; exact ra) al (by show X.A.units + 1 + PyData.depthAll (toPys (d0 :: ds)) < cLine; omega) fun i v h' tk bs ev rd keep => ?_
    have ev : its[i]? = some v := by simpa using ev
    obtain ⟨w, ew, rw'⟩ := vals_at rv ev
    obtain ⟨dd, ed, rd'⟩ := rs.get ew
    have md := List.mem_of_getElem? ed
    obtain ⟨as2, rr⟩ := Dp.reads I1 _ _ _ (rd'.dp t.bas.sub (sh dd md)) rw'
    have rr' := PySem.W.reads_keeps keep rr
    have ee := rd_det dd rr' rd
    have I2 : Inv X pins σ H1 { s1 with heap := h', toks := tk } := I1.kept keep
    exact ⟨w, H1, I2, rw', pick dd md ee.symm w G1 H1 t (.rep rd' fun z => nomatch z)⟩
/-! ### sorted(set(pairs)) -/
theorem ltP_iff {p q : IP} : ltP p q = true ↔ p.1 < q.1 ∨ (p.1 = q.1 ∧ p.2 < q.2) := by
  simp [ltP]
theorem mem_insP {p x : IP} : ∀ {l : List IP}, x ∈ insP p l ↔ x = p ∨ x ∈ l
  | [] => by simp [insP]
  | q :: r => by
    unfold insP
    split
    · rename_i e
      subst e
      simp
    · split
      · simp
      · rw [List.mem_cons, mem_insP (l := r), List.mem_cons]
        constructor
        · rintro (h | h | h)
          · exact .inr (.inl h)
          · exact .inl h
          · exact .inr (.inr h)
        · rintro (h | h | h)
          · exact .inr (.inl h)
          · exact .inl h
          · exact .inr (.inr h)
theorem mem_sortP {x : IP} : ∀ {l : List IP}, x ∈ sortP l ↔ x ∈ l
  | [] => Iff.rfl
  | p :: r => by
    show x ∈ insP p (sortP r) ↔ _
    rw [mem_insP, mem_sortP (l := r), List.mem_cons]
theorem ltP_trans {p q r : IP} (h1 : ltP p q = true) (h2 : ltP q r = true) : ltP p r = true := by
  rw [ltP_iff] at *
  omega
theorem insP_sorted {p : IP} : ∀ {l : List IP}, l.Pairwise (fun a b => ltP a b = true) → (insP p l).Pairwise fun a b => ltP a b = true
  | [], _ => List.pairwise_singleton _ _
  | q :: r, h => by
    have h' := List.pairwise_cons.mp h
    unfold insP
    split
    · exact h
    · rename_i ne
      split
      · rename_i lt
        refine List.pairwise_cons.mpr ⟨fun x hx => ?_, h⟩
        rcases List.mem_cons.mp hx with rfl | hx
        · exact lt
        · exact ltP_trans lt (h'.1 x hx)
      · rename_i nlt
        refine List.pairwise_cons.mpr ⟨fun x hx => ?_, insP_sorted h'.2⟩
        rcases mem_insP.mp hx with rfl | hx
        · rw [ltP_iff]
          rw [ltP_iff] at nlt
          have : ¬ (x.1 = q.1 ∧ x.2 = q.2) := fun z => ne (Prod.ext z.1 z.2)
          omega
        · exact h'.1 x hx
theorem sortP_sorted : ∀ l : List IP, (sortP l).Pairwise fun a b => ltP a b = true
  | [] => List.Pairwise.nil
  | p :: r => insP_sorted (sortP_sorted r)
theorem sorted_uniq : ∀ {l m : List IP}, l.Pairwise (fun a b => ltP a b = true) → m.Pairwise (fun a b => ltP a b = true) → (∀ x, x ∈ l ↔ x ∈ m) → l = m
  | [], [], _, _, _ => rfl
  | [], b :: m, _, _, h => absurd ((h b).mpr List.mem_cons_self) (by simp)
  | a :: l, [], _, _, h => absurd ((h a).mp List.mem_cons_self) (by simp)
  | a :: l, b :: m, h1, h2, h => by
    have p1 := List.pairwise_cons.mp h1
    have p2 := List.pairwise_cons.mp h2
    have irr : ∀ x : IP, ¬ ltP x x = true := fun x z => by rw [ltP_iff] at z; omega
    have e : a = b := by
      rcases List.mem_cons.mp ((h a).mp List.mem_cons_self) with e | ha
      · exact e
      · rcases List.mem_cons.mp ((h b).mpr List.mem_cons_self) with e | hb
        · exact e.symm
        · exact absurd (ltP_trans (p2.1 a ha) (p1.1 b hb)) (irr b)
    subst e
    rw [sorted_uniq p1.2 p2.2 fun x => ?_]
    constructor
    · intro hx
      rcases List.mem_cons.mp ((h x).mp (List.mem_cons_of_mem _ hx)) with e | hx'
      · exact absurd (e ▸ p1.1 x hx) (irr a)
      · exact hx'
    · intro hx
      rcases List.mem_cons.mp ((h x).mpr (List.mem_cons_of_mem _ hx)) with e | hx'
      · exact absurd (e ▸ p2.1 x hx) (irr a)
      · exact hx'
def keyP (p : IP) : NestedKey := .tup [.num p.1, .num p.2]
theorem keyP_inj {p q : IP} (h : keyP p = keyP q) : p = q := by
  simp only [keyP, NestedKey.tup.injEq, List.cons.injEq, NestedKey.num.injEq, and_true] at h
  exact Prod.ext h.1 h.2
theorem pairs_els {X : Cx} {pins : List (Addr × Obj)} {σ : L2.St} {s : Shared} (I : Inv X pins σ H s) (g : Same G H) : ∀ {xs : List D} {vs : List V} {us : List Value} {ps : List IP}, Reps X.K G vs xs → Vals vs us → pairsF xs = some ps →
    ∃ L : List (El × IP), us = L.map (fun q => Value.ref q.1.1) ∧ L.map Prod.snd = ps ∧ ∀ q ∈ L, KAt s.heap q.1.2 q.1.1 ∧ q.1.2 = keyP q.2 ∧ Rep X.K G (.ref q.1.1) (pairD q.2)
  | [], _, _, _, .nil, .nil, e => by cases e; exact ⟨[], rfl, rfl, fun q h => nomatch h⟩
  | x :: r, _, _, _, .cons (v := v) rp rs, .cons q qs, e => by
    obtain ⟨a, b, rfl⟩ : ∃ a b, x = .tup [.int a, .int b] := by
      unfold pairsF at e
      split at e
      · rename_i h; cases h
      · rename_i h; injection h with h1 _; exact ⟨_, _, h1⟩
      · cases e
    cases e2 : pairsF r with
    | none => rw [pairsF, e2] at e; cases e
    | some ps =>
      rw [pairsF, e2] at e
      cases e
      obtain ⟨L, h1, h2, h3⟩ := pairs_els I g rs qs e2
      have kk := key_of I g rp q (show keyD (.tup [.int a, .int b]) = some (keyP (a, b)) from rfl)
      have rp' := rp
      cases rp' with
      | @tup c _ _ ea _ =>
        cases q
        refine ⟨((c, keyP (a, b)), (a, b)) :: L, by rw [h1]; rfl, by rw [List.map_cons, h2], fun q hq => ?_⟩
        cases hq with
        | head => exact ⟨⟨kk, Nat.le_of_ble_eq_true rfl⟩, rfl, rp⟩
        | tail _ hq => exact h3 q hq
def unkey : NestedKey → IP | .tup [.num a, .num b] => (a, b) | _ => (0, 0)
theorem distN_few : ∀ ks : List NestedKey, distN ks ≤ ks.length
  | [] => Nat.le_refl _
  | k :: r => by
    have := distN_few r
    unfold distN
    split
    · exact Nat.le_succ_of_le this
    · exact Nat.succ_le_succ this
theorem strict_of {l : List IP} (h : l.Pairwise fun a b => TS.code 64 (pr a) ≤ TS.code 64 (pr b)) (nd : l.Nodup) (bd : ∀ p ∈ l, 0 ≤ p.1 ∧ p.1 < 64 ∧ 0 ≤ p.2 ∧ p.2 < 64) : l.Pairwise fun a b => ltP a b = true := by
  refine List.Pairwise.imp_of_mem (R := fun a b => TS.code 64 (pr a) ≤ TS.code 64 (pr b) ∧ a ≠ b) (fun {a b} ha hb z => ?_) (List.Pairwise.and h nd)
  obtain ⟨a1, a2, a3, a4⟩ := bd a ha
  obtain ⟨b1, b2, b3, b4⟩ := bd b hb
  rw [ltP_iff]
  exact pair_lt (x := a.1) (y := a.2) (x' := b.1) (y' := b.2) z.1 (fun e => z.2 (by
    simp only [List.cons.injEq, and_true] at e
    exact Prod.ext e.1 e.2)) ⟨a1, a2⟩ ⟨a3, a4⟩ ⟨b1, b2⟩ ⟨b3, b4⟩
theorem e_sortset {p p2 q : Pos} (g : Good X W fn) (h1 : glbB X.env.scope "sorted" = true) (h2 : glbB X.env.scope "set" = true) (ho : ord y = true) (ha : PE X y (tE EX W X.K a)) : PE X (.Call (.Name "sorted" p) [.Call (.Name "set" p2) [y] [] q] [] pos) (tE EX W X.K (.sp1 .sortset a)) := by
  refine ⟨fun pins s σ H Q I ⟨ρ, M, G, b, en, run⟩ => ?_⟩
  have na : starEach [y] X.env = (false, eval y X.env) :: starEach [] X.env := star_of ho [] _
  refine Call_ (ld_blt I (glb_of h1) (g.nm _ (by decide)) boot_sorted (callWith_builtin1 (args_cons ?_ rfl) rfl rfl))
  refine Call_ (ld_blt I (glb_of h2) (g.nm _ (by decide)) boot_set (callWith_type1 (args_cons (thn (ha.run pins s σ H _ I (one_of b en (bo_run run) (fun _ _ z => z) (R := fun v H1 => ∃ M1 G1 d, Stp X.K M G H M1 G1 H1 ∧ Res X.K false false H M1 G1 H1 v d ∧ (sp1P .sortset d).run M1 (kE X.K true false M G H Q) (exW EX W X.K M G σ H)) fun d M1 v G1 H1 c t r => ⟨M1, G1, d, t, r, c⟩)) fun v s1 ⟨x, H1, I1, r1, M1, G1, d, t, r, c⟩ => args_nil ?_) na) na rfl))
  cases d <;> first | exact False.elim c | skip
  rename_i xs
  obtain ⟨ps, eps, c⟩ := opt_run (bo_run (show (sortsetP xs).run M1 _ _ from c))
  obtain ⟨⟨bd, few⟩, c⟩ := (show (_ ∧ _) ∧ _ from c)
  obtain ⟨l, vs, rfl, e1, rs⟩ := r.lst t.bas
  cases r1
  obtain ⟨its, rv, pl, hz⟩ := I1.list (SqL.of e1)
  obtain ⟨L, hL1, hL2, hL3⟩ := pairs_els I1 t.bas.sub rs rv eps
  have mem2 : ∀ z ∈ L, z.2 ∈ ps := fun z hz => by rw [← hL2]; exact List.mem_map.mpr ⟨z, hz, rfl⟩
  have few' : Few (L.map Prod.fst) := fun k nd sub => by
    refine Nat.lt_of_le_of_lt (Nat.le_trans (dist_ge ((sortP ps).map keyP) k nd fun x hx => ?_) (distN_few _)) (by rw [List.length_map]; exact few)
    obtain ⟨q0, hq0, e0⟩ := List.mem_map.mp (sub x hx)
    obtain ⟨z, hz, rfl⟩ := List.mem_map.mp hq0
    exact List.mem_map.mpr ⟨z.2, mem_sortP.mpr (mem2 z hz), by rw [← e0]; exact (hL3 z hz).2.1.symm⟩
  refine set_of (T := "list") (items := its.toArray) (L.map Prod.fst) (I1.ok.hd g.calm) (by rw [List.toList_toArray, hL1, List.map_map]; rfl) (fun q0 hq0 => by
    obtain ⟨z, hz, rfl⟩ := List.mem_map.mp hq0
    exact (hL3 z hz).1) few' (by have := g.hu; omega) (.inl ⟨rfl, pl.isList⟩) fun h' tk L' es ep t' T' hs keep => args_nil ?_
  have I2 : Inv X pins σ H1 { s1 with heap := h', toks := tk } := I1.kept keep
  have fr : ∀ q0 ∈ L', ∃ z ∈ L, z.1 = q0 ∧ q0.2 = keyP z.2 ∧ Rep X.K G1 (.ref q0.1) (pairD z.2) ∧ unkey q0.2 = z.2 := fun q0 hq0 => by
    obtain ⟨z, hz, rfl⟩ := List.mem_map.mp (List.mem_of_mem_take (hs.from_ q0 hq0))
    obtain ⟨_, k2, k3⟩ := hL3 z hz
    exact ⟨z, hz, rfl, k2, k3, by rw [k2]; rfl⟩
  refine sorted_pairs (s := { s1 with heap := h', toks := tk }) T' (I1.ok.hd g.calm) (fun q0 => unkey q0.2) (fun q0 hq0 => ?_) fun s' pa out cc L2 keep2 g2 o2 hpa hg hout pm pw => ?_
  · obtain ⟨z, hz, e0, k2, k3, k4⟩ := fr q0 hq0
    show TS.TupInts _ (.ref q0.1) (pr (unkey q0.2)) ∧ TS.Bd 64 (pr (unkey q0.2))
    rw [k4]
    obtain ⟨b1, b2, b3, b4⟩ := bd z.2 (mem2 z hz)
    refine ⟨?_, fun m hm => ?_⟩
    · cases k3 with
      | tup ea ra =>
        obtain ⟨ev, _⟩ := Reps.ofInts (ns := [z.2.1, z.2.2]) ra rfl
        refine tupInts_of (P := X.prog) (w := X.w) (I2.isT (k := pr z.2) ?_)
        have q := SqT.of (K := X.K) (t.bas.sub _ _ ea)
        rw [ev] at q
        exact q
    · simp only [pr, List.mem_cons, List.not_mem_nil, or_false] at hm
      rcases hm with rfl | rfl
      · exact ⟨b1, b2⟩
      · exact ⟨b3, b4⟩
  · have hn : H1 pa = none := I2.hok.fresh hpa
    have m2 : ∀ q0 ∈ L2, q0 ∈ L' := fun q0 hq0 => pm.mem_iff.mp hq0
    have hlen : (L2.map fun q0 => V.ref q0.1).length ≤ sizeLine := by rw [List.length_map, pm.length_eq, sizeLine_eq]; have := T'.small; omega
    have hv : Vals (L2.map fun q0 => V.ref q0.1) out.toList := by
      rw [hout]
      clear hout pw pm m2 hlen hg
      induction L2 with
      | nil => exact .nil
      | cons q0 r ih => exact .cons rfl ih
    have J : Inv X pins σ (upd H1 pa (.lst (L2.map fun q0 => V.ref q0.1))) s' :=
      I2.call' (ch := []) o2 (Un.laid keep2 hpa hn) (I2.hok.laid keep2 hpa ⟨hlen, out.toList, cc, hv, hg⟩) (by rw [g2]; exact I2.bare) (fun _ z => nomatch z)
    have es : sortP ps = L2.map fun q0 => unkey q0.2 := by
      refine sorted_uniq (sortP_sorted ps) (strict_of (List.pairwise_map.mpr pw) ?_ ?_) fun x => ?_
      · refine List.pairwise_map.mpr ?_
        have nd : (L2.map Prod.snd).Nodup := ((pm.map Prod.snd).nodup_iff).mpr T'.sep
        refine List.Pairwise.imp_of_mem (fun {u v} hu hv ne e0 => ne ?_) (List.pairwise_map.mp nd)
        obtain ⟨z1, _, _, k1, _, k1'⟩ := fr u (m2 u hu)
        obtain ⟨z2, _, _, k2, _, k2'⟩ := fr v (m2 v hv)
        rw [k1, k2, ← k1', ← k2', e0]
      · intro x hx
        obtain ⟨q0, hq0, rfl⟩ := List.mem_map.mp hx
        obtain ⟨z, hz, _, _, _, k4⟩ := fr q0 (m2 q0 hq0)
        rw [k4]
        exact bd z.2 (mem2 z hz)
      · rw [mem_sortP]
        constructor
        · intro hx
          rw [← hL2] at hx
          obtain ⟨z, hz, rfl⟩ := List.mem_map.mp hx
          have q1 := hs.all z.1 (by rw [List.take_length]; exact List.mem_map.mpr ⟨z, hz, rfl⟩)
          obtain ⟨q0, hq0, e0⟩ := List.mem_map.mp q1
          refine List.mem_map.mpr ⟨q0, pm.mem_iff.mpr hq0, ?_⟩
          rw [e0, (hL3 z hz).2.1]
          rfl
        · intro hx
          obtain ⟨q0, hq0, rfl⟩ := List.mem_map.mp hx
          obtain ⟨z, hz, _, _, _, k4⟩ := fr q0 (m2 q0 hq0)
          rw [k4]
          exact mem2 z hz
    have rr : Reps X.K G1 (L2.map fun q0 => V.ref q0.1) ((sortP ps).map pairD) := by
      rw [es, List.map_map]
      have go : ∀ l : List El, (∀ q0 ∈ l, q0 ∈ L') → Reps X.K G1 (l.map fun q0 => V.ref q0.1) (l.map (pairD ∘ fun q0 => unkey q0.2)) := fun l => by
        induction l with
        | nil => exact fun _ => .nil
        | cons q0 r ih =>
          intro hl
          obtain ⟨z, hz, _, _, k3, k4⟩ := fr q0 (hl q0 List.mem_cons_self)
          refine .cons ?_ (ih fun u hu => hl u (List.mem_cons_of_mem _ hu))
          show Rep X.K G1 (.ref q0.1) (pairD (unkey q0.2))
          rw [k4]
          exact k3
      exact go L2 m2
    exact ⟨.ref pa, _, J, rfl, kE_newL c t rr hn⟩
theorem e_pop {p2 p3 : Pos} (hd : dotOk y = true) (hl : (p2.endLine == p3.line) = true) (ha : PE X y (tE EX W X.K a)) : PE X (.Call (.Attribute y "pop" p2) [] [] p3) (tE EX W X.K (.sp1 .pop a)) := by
  have q : PE X (.Call (.Attribute y "pop" p2) [] [] p3) (tBM0 X.K "list" rPop (tE EX W X.K a)) := by
    cases y <;> first | exact Bool.noConfusion hd | skip
    all_goals exact pe_bm0 PySem.F.plainAttrs_list PySem.F.slot_list_pop PySem.F.type_list_pop mt_pop ha (by rfl) hl
  refine q.imp fun σ H Q ⟨ρ, M, G, b', en, run⟩ => ?_
  refine one_of b' en (bo_run run) (fun _ _ z => z) fun d M1 v G1 H1 c t r => ?_
  cases d <;> first | exact False.elim c | skip
  rename_i p
  cases r.nolst (fun _ z => nomatch z)
  obtain ⟨xs, e1, c1⟩ := opt_run (bo_run (show (PM.bind (.opt (listAt M1 p)) _).run M1 _ _ from c))
  obtain ⟨d, e2, c2⟩ := opt_run (bo_run c1)
  have em : M1 p = some (.lst xs) := by
    unfold listAt at e1
    split at e1
    · rename_i q; cases e1; exact q
    · cases e1
  obtain ⟨_, _, vs, eh, rs⟩ := t.bas.cells p _ em
  have hg : xs[xs.length - 1]? = some d := by rw [← List.getLast?_eq_getElem?]; exact e2
  obtain ⟨u, hu, ru⟩ := rs.get' hg
  rw [← rs.length] at hu
  refine ⟨.inl ⟨rfl, vs, SqL.of eh⟩, p, vs, u, rfl, rfl, eh, hu, ?_⟩
  have rd : Reps X.K G1 vs.dropLast xs.dropLast := by
    rw [List.dropLast_eq_take, List.dropLast_eq_take, rs.length]
    exact rs.take _
  exact (show kE X.K true false M G H Q d (M1.put p (.lst xs.dropLast)) from c2) u G1 _ (t.wr (by rw [em]; simp) (by rw [em]; simp) ⟨vs.dropLast, upd_same, rd⟩) (.rep ru fun z => nomatch z)
theorem e_sortint {p p2 q : Pos} (g : Good X W fn) (h1 : glbB X.env.scope "sorted" = true) (h2 : glbB X.env.scope "set" = true) (ho : ord y = true) (ha : PE X y (tE EX W X.K a)) : PE X (.Call (.Name "sorted" p) [.Call (.Name "set" p2) [y] [] q] [] pos) (tE EX W X.K (.sp1 .sortint a)) := by
  refine ⟨fun pins s σ H Q I ⟨ρ, M, G, b, en, run⟩ => ?_⟩
  have na : starEach [y] X.env = (false, eval y X.env) :: starEach [] X.env := star_of ho [] _
  refine Call_ (ld_blt I (glb_of h1) (g.nm _ (by decide)) boot_sorted (callWith_builtin1 (args_cons ?_ rfl) rfl rfl))
  refine Call_ (ld_blt I (glb_of h2) (g.nm _ (by decide)) boot_set (callWith_type1 (args_cons (thn (ha.run pins s σ H _ I (one_of b en (bo_run run) (fun _ _ z => z) (R := fun v H1 => ∃ M1 G1 d, Stp X.K M G H M1 G1 H1 ∧ Res X.K false false H M1 G1 H1 v d ∧ (sp1P .sortint d).run M1 (kE X.K true false M G H Q) (exW EX W X.K M G σ H)) fun d M1 v G1 H1 c t r => ⟨M1, G1, d, t, r, c⟩)) fun v s1 ⟨x, H1, I1, r1, M1, G1, d, t, r, c⟩ => args_nil ?_) na) na rfl))
  cases d <;> first | exact False.elim c | skip
  rename_i xs
  obtain ⟨ns, ens, c⟩ := opt_run (bo_run (show (PM.bind (.opt (intsF xs)) sortintP).run M1 _ _ from c))
  obtain ⟨few, c⟩ := (show ns.length ≤ 60 ∧ ∀ ms : List Int, ms.Pairwise (· < ·) → (∀ k : Int, k ∈ ms ↔ k ∈ ns) → kE X.K true false M G H Q (.lst (ms.map .int)) M1 from c)
  cases r.nolst (fun _ z => nomatch z) with
  | tup ex rs =>
    obtain ⟨ev, _⟩ := Reps.ofInts rs ens
    cases r1
    obtain ⟨its, rv, ht, hz⟩ := I1.tuple (SqT.of (K := X.K) (t.bas.sub _ _ ex))
    rw [ev] at rv
    refine call_set_tupI ns (I1.ok.hd g.calm) ht (Vals.ints rv) (by have : scanBound = scanBound := rfl; unfold scanBound; omega) fun h' tk cc R hc keep => args_nil ?_
    have I2 : Inv X pins σ H1 { s1 with heap := h', toks := tk } := I1.kept keep
    refine sorted_set R (I2.ok.hd g.calm) (by omega) fun s' pa out c2 ms k gg o hp hg hi hs hm hl => ?_
    have hlen : (ms.map V.int).length ≤ sizeLine := by rw [List.length_map, hl, sizeLine_eq]; omega
    have hn : H1 pa = none := I2.hok.fresh hp
    have J : Inv X pins σ (upd H1 pa (.lst (ms.map V.int))) s' :=
      I2.call' (ch := []) o (Un.laid k hp hn) (I2.hok.laid k hp ⟨hlen, out.toList, c2, vals_of_ints hi, hg⟩) (by rw [gg]; exact I2.bare) (fun _ z => nomatch z)
    refine ⟨.ref pa, _, J, rfl, ?_⟩
    refine kE_newL (c ms hs fun k => by rw [hm]; simp) t ?_ hn
    exact Reps.ints ms
theorem reps_rg {K : PySem.W.Frag} {G : Hp} : ∀ l : List Nat, Reps K G (l.map fun i => V.int (0 + (i : Nat))) (l.map fun (k : Nat) => D.int (0 + (k : Int)))
  | [] => .nil
  | _ :: r => .cons (.int _) (reps_rg r)
theorem e_lrange {p p2 q : Pos} (g : Good X W fn) (h1 : glbB X.env.scope "list" = true) (h2 : glbB X.env.scope "range" = true) (ho : ord y = true) (ha : PE X y (tE EX W X.K a)) : PE X (.Call (.Name "list" p) [.Call (.Name "range" p2) [y] [] q] [] pos) (tE EX W X.K (.sp1 .lrange a)) :=
  (pe_listRg g.calm (glb_of h1) (g.nm _ (by decide)) (prg_1 (glb_of h2) (g.nm _ (by decide)) ha (star_of ho [] _))).imp fun σ H Q ⟨ρ, M, G, b, en, run⟩ => by
    refine one_of b en (bo_run run) (fun _ _ z => z) fun d M1 v G1 H1 c t r => ?_
    cases d <;> first | exact False.elim c | skip
    case int j =>
      cases r.nolst (fun _ z => nomatch z)
      obtain ⟨⟨h1, h2⟩, k⟩ := c
      refine ⟨j, rfl, ⟨by omega, by omega, by omega, by omega, by omega⟩, fun p n => ?_⟩
      refine kE_newL (ds := rangeD 0 j.toNat) k t ?_ n
      unfold rgV rangeD
      rw [Int.sub_zero]
      exact reps_rg _
theorem sp1_ok {o : Sp1} (g : Good X W fn) (h : sp1X X.env.scope o x = some y) (ha : PE X y (tE EX W X.K a)) : PE X x (tE EX W X.K (.sp1 o a)) ∧ ∀ whole, isTrue x X.env whole = (do let v ← whole; standAt x.pos; holding [v] (truthy v)) := by
  unfold sp1X at h
  split at h
  · rename_i u p1 v p2 w' q p3
    split at h
    · rename_i hc
      cases h
      simp only [Bool.and_eq_true, decide_eq_true_eq] at hc
      obtain ⟨⟨⟨⟨rfl, rfl⟩, h1⟩, h2⟩, h3⟩ := hc
      exact ⟨e_lens g h1 h2 h3 ha, fun _ => rfl⟩
    · cases h
  · split at h
    · rename_i hc
      cases h
      simp only [Bool.and_eq_true, decide_eq_true_eq] at hc
      obtain ⟨⟨⟨⟨rfl, rfl⟩, h1⟩, h2⟩, h3⟩ := hc
      exact ⟨e_sortset g h1 h2 h3 ha, fun _ => rfl⟩
    · cases h
  · split at h
    · rename_i hc
      cases h
      simp only [Bool.and_eq_true, decide_eq_true_eq] at hc
      obtain ⟨⟨⟨⟨rfl, rfl⟩, h1⟩, h2⟩, h3⟩ := hc
      exact ⟨e_sortint g h1 h2 h3 ha, fun _ => rfl⟩
    · cases h
  · split at h
    · rename_i hc
      cases h
      simp only [Bool.and_eq_true, decide_eq_true_eq] at hc
      obtain ⟨⟨⟨⟨rfl, rfl⟩, h1⟩, h2⟩, h3⟩ := hc
      exact ⟨e_lrange g h1 h2 h3 ha, fun _ => rfl⟩
    · cases h
  · split at h
    · rename_i hc
      cases h
      simp only [Bool.and_eq_true, decide_eq_true_eq] at hc
      obtain ⟨⟨rfl, h1⟩, h3⟩ := hc
      exact ⟨e_minT g h1 h3 ha, fun _ => rfl⟩
    · cases h
  · split at h
    · rename_i hc
      cases h
      simp only [Bool.and_eq_true, decide_eq_true_eq] at hc
      obtain ⟨⟨rfl, h1⟩, h3⟩ := hc
      exact ⟨e_pop h1 h3 ha, fun _ => rfl⟩
    · cases h
  · cases h
    exact ⟨e_rev ha, fun _ => rfl⟩
  · cases h
/-! ### xs.index(x) -/
theorem idx_use {d : D} {v : V} {G : Hp} : ∀ {xs : List D} {vs : List V} {j : Nat}, Rep K G v d → Reps K G vs xs → flatD d = true → (∀ x ∈ xs, flatD x = true) → idxD d xs = some j → ∃ z, vs[j]? = some z ∧ eqV z v = true ∧ ∀ (m : Nat) (z' : V), m < j → vs[m]? = some z' → eqV z' v = false
  | [], _, _, _, _, _, _, e => by cases e
  | x :: r, _, j, rd, .cons (v := u) a rs, fd, fx, e => by
    have ee := eqV_py a rd (fx x List.mem_cons_self) fd
    unfold idxD at e
    split at e
    · rename_i h
      cases e
      exact ⟨u, rfl, by rw [ee]; exact h, fun m z' hm => by omega⟩
    · rename_i h
      cases q : idxD d r with
      | none => rw [q] at e; cases e
      | some j' =>
        rw [q] at e
        cases e
        obtain ⟨z, h1, h2, h3⟩ := idx_use rd rs fd (fun x hx => fx x (List.mem_cons_of_mem _ hx)) q
        refine ⟨z, h1, h2, fun m z' hm hz => ?_⟩
        have hm : m < j' + 1 := hm
        cases m with
        | zero => cases hz; rw [ee]; simpa using h
        | succ m => exact h3 m z' (by omega) hz
theorem e_index {p2 p3 : Pos} (hd : notDot y = true) (ho : ord z = true) (hl : (p2.endLine == p3.line) = true) (ha : PE X y (tE EX W X.K a)) (hb : PE X z (tE EX W X.K b)) : PE X (.Call (.Attribute y "index" p2) [z] [] p3) (tE EX W X.K (.sp2 .index a b)) := by
  have sx : starEach [z] X.env = [(false, eval z X.env)] := star_of ho [] _
  have q : PE X (.Call (.Attribute y "index" p2) [z] [] p3) (tBM X.K "list" (rIndex X.K) (tE EX W X.K a) (tCons (tE EX W X.K b) tNil)) := by
    cases y <;> first | exact Bool.noConfusion hd | skip
    exact pe_bm (cpos := p3) (apos := p2) PySem.F.plainAttrs_list PySem.F.slot_list_index PySem.F.type_list_index mt_index ha (pa_cons hb pa_nil sx) (by rfl) (by rw [sx]; rfl) hl (by rw [sx]; rfl) (by rfl)
  refine q.imp fun σ H Q ⟨ρ, M, G, b', en, run⟩ => ?_
  refine tE_of b' en (show (wp a ρ).run M (fun d M1 => (sp2G .index d).run M1 (fun _ M2 => (wp b ρ).run M2 (fun e M3 => (sp2P .index d e).run M3 (kE X.K true false M G H Q) (exW EX W X.K M G σ H)) (exW EX W X.K M G σ H)) (exW EX W X.K M G σ H)) (exW EX W X.K M G σ H) from run) (fun d M1 v G1 H1 c1 t1 en1 r1 => ?_) fun _ _ z => z
  cases d <;> first | exact False.elim c1 | skip
  rename_i xs
  obtain ⟨l, vs, rfl, e1, rs⟩ := r1.lst t1.bas
  refine ⟨.inl ⟨rfl, vs, SqL.of e1⟩, tE_of t1.bas en1 c1 (fun e M2 u G2 H2 c2 t2 _ r2 => ?_) fun k M' z => exW_after t1 z⟩
  obtain ⟨l', vs', el, e2, rs2⟩ := (r1.step t2).lst t2.bas
  cases el
  obtain ⟨⟨fe, fx⟩, c3⟩ := (show (flatD e = true ∧ xs.all flatD = true) ∧ _ from c2)
  obtain ⟨j, ej, c4⟩ := opt_run (bo_run c3)
  have fx' : ∀ x ∈ xs, flatD x = true := List.all_eq_true.mp fx
  have re : Rep X.K G2 u e := r2.nolst (fun z q => by rw [q] at fe; cases fe)
  obtain ⟨z0, h1, h2, h3⟩ := idx_use re rs2 fe fx' ej
  exact ⟨l, vs', u, j, z0, rfl, rfl, SqL.of e2, flat_V re fe, flats_V rs2 fx', h1, h2, h3, c4 _ G2 H2 (t1.trans t2) (.rep (.int _) fun _ _ z => nomatch z)⟩
/-! ### an own list lent as a cell -/
theorem flat_inj {G G' : Hp} : ∀ {xs : List D} {vs us : List V}, Reps K G vs xs → Reps K G' us xs → xs.all flatD = true → us = vs
  | [], _, _, .nil, .nil, _ => rfl
  | x :: r, _, _, .cons a rs, .cons b ss, f => by
    rw [List.all_cons, Bool.and_eq_true] at f
    rw [flat_inj rs ss f.2]
    cases x <;> first | cases f.1 | skip
    all_goals cases a; cases b; rfl
theorem e_lend {i : Nat} (h : PE X x (tE EX W X.K a)) : PE X x (tE EX W X.K (.lend i a)) := h.imp fun σ H Q ⟨ρ, M, G, b, en, q⟩ => by
  have q' : (match ρ[i]? with | some (.own xs) => PM.lend xs fun p => wp a (ρ.set i (.val (.cell p))) | _ => .fail).run M (kE X.K true false M G H Q) (exW EX W X.K M G σ H) := q
  cases e : ρ[i]? with
  | none => rw [e] at q'; exact False.elim q'
  | some s =>
    rw [e] at q'
    cases s with
    | unk => exact False.elim q'
    | val d => exact False.elim q'
    | own xs =>
      obtain ⟨p, vs, e1, h1, h2, h3, r⟩ := en.own e
      obtain ⟨fl, q2⟩ := (show xs.all flatD = true ∧ ∀ p, M p = none → (wp a (ρ.set i (.val (.cell p)))).run (M.put p (.lst xs)) (fun d M2 => M2 p = some (.lst xs) ∧ flatD d = true ∧ kE X.K true false M G H Q d (M2.del p)) (fun _ _ => False) from q')
      have ps : (M.put p (.lst xs)) p = some (.lst xs) := if_pos rfl
      have pn : ∀ c, c ≠ p → (M.put p (.lst xs)) c = M c := fun c n => if_neg n
      have b2 : Bas X.K (M.put p (.lst xs)) G H := {
        sub := b.sub
        cells := fun c x qq => by
          by_cases z : c = p
          · subst z
            rw [ps] at qq
            cases qq
            exact ⟨h2, by rw [h1]; simp, vs, h1, r⟩
          · rw [pn c z] at qq
            obtain ⟨k1, k2, k3⟩ := b.cells c x qq
            refine ⟨k1, k2, k3.grow (Same.refl _) (fun d u w _ => w) fun d w => ?_⟩
            rw [pn d fun y => by rw [y, h3] at w; cases w]; exact w }
      have en2 : EnvOk X.K (ρ.set i (.val (.cell p))) (M.put p (.lst xs)) G σ H := {
        len := by rw [List.length_set]; exact en.len
        slot := fun j s w => by
          by_cases z : i = j
          · subst z
            rw [List.getElem?_set_self' , e] at w
            cases w
            exact ⟨_, e1, .cell p⟩
          · rw [List.getElem?_set_ne z] at w
            cases s with
            | unk => trivial
            | val d => exact en.slot j _ w
            | own zs =>
              obtain ⟨b', ws, g1, g2, g3, g4, g5⟩ := en.slot j _ w
              have ne : b' ≠ p := fun y => en.dist i j _ _ e w z (by rw [e1, g1, y])
              exact ⟨b', ws, g1, g2, g3, by rw [pn _ ne]; exact g4, g5⟩
        dist := fun j l us ws w1 w2 n => by
          have n1 : i ≠ j := fun y => by subst y; rw [List.getElem?_set_self', e] at w1; cases w1
          have n2 : i ≠ l := fun y => by subst y; rw [List.getElem?_set_self', e] at w2; cases w2
          rw [List.getElem?_set_ne n1] at w1
          rw [List.getElem?_set_ne n2] at w2
          exact en.dist j l us ws w1 w2 n }
      refine tE_of b2 en2 (q2 p h3) (fun d M2 v G2 H2 c t en3 r2 => ?_) fun _ _ z => False.elim z
      obtain ⟨c1, c2, c3⟩ := c
      obtain ⟨g0, g1, us, g2, g3⟩ := t.bas.cells p _ c1
      have eu := flat_inj r g3 fl
      subst eu
      have rd : Rep X.K G2 v d := r2.nolst fun z y => by rw [y] at c2; cases c2
      refine c3 v G2 H2 ?_ (.rep rd fun z => nomatch z)
      refine ⟨t.gg, fun c o w n => ?_, t.ng, fun c n => ?_, fun c n => ?_, t.bas.sub, fun c x w => ?_⟩
      · by_cases z : c = p
        · subst z; rw [h1] at w; cases w; exact g2
        · exact t.keep c o w (by rw [pn c z]; exact n)
      · by_cases z : c = p
        · exact absurd (if_pos z) n
        · rcases t.nm c (fun y => n ((if_neg z).trans y)) with k | k
          · exact .inl (by rw [pn c z] at k; exact k)
          · exact .inr k
      · have z : c ≠ p := fun y => n (by rw [y]; exact h3)
        have k := t.mm c (by rw [pn c z]; exact n)
        exact fun y => k ((if_neg z).symm.trans y)
      · by_cases z : c = p
        · have w' : (if c = p then none else M2 c) = some x := w
          rw [if_pos z] at w'; cases w'
        · have w' : (if c = p then none else M2 c) = some x := w
          rw [if_neg z] at w'
          obtain ⟨k1, k2, k3⟩ := t.bas.cells c x w'
          refine ⟨k1, k2, k3.grow (Same.refl _) (fun d u y _ => y) fun d y => ?_⟩
          have nd : d ≠ p := fun yy => by rw [yy, c1] at y; cases y
          exact (if_neg nd).trans y
/-! ### a text's join, split -/
theorem strs_use {G : Hp} : ∀ {xs : List D} {vs : List V} {ys : List Str}, Reps K G vs xs → strsF xs = some ys → vs = ys.map V.str
  | [], _, _, .nil, e => by cases e; rfl
  | .str x :: r, _, ys, .cons a rs, e => by
    cases e2 : strsF r with
    | none => rw [strsF, e2] at e; cases e
    | some zs =>
      rw [strsF, e2] at e
      cases e
      cases a
      rw [strs_use rs e2]
      rfl
  | .non :: _, _, _, _, e => by cases e
  | .bl _ :: _, _, _, _, e => by cases e
  | .int _ :: _, _, _, _, e => by cases e
  | .tup _ :: _, _, _, _, e => by cases e
  | .lst _ :: _, _, _, _, e => by cases e
  | .cell _ :: _, _, _, _, e => by cases e
  | .scr _ :: _, _, _, _, e => by cases e
theorem Reps.strs {G : Hp} : ∀ ys : List Str, Reps K G (ys.map V.str) (ys.map D.str)
  | [] => .nil
  | y :: r => .cons (.str y) (Reps.strs r)
theorem e_join {p2 p3 : Pos} (hd : isLit y = true) (ho : ord z = true) (hl : (p2.endLine == p3.line) = true) (ha : PE X y (tE EX W X.K a)) (hb : PE X z (tE EX W X.K b)) : PE X (.Call (.Attribute y "join" p2) [z] [] p3) (tE EX W X.K (.sp2 .join a b)) := by
  have sx : starEach [z] X.env = [(false, eval z X.env)] := star_of ho [] _
  have q := pe_m1 (X := X) (o := y) (e := z) (apos := p2) (pos := p3) F.slot_str_join F.type_str_join mt_join ha hb sx (by cases y <;> first | exact Bool.noConfusion hd | rfl) hl
  refine q.imp fun σ H Q ⟨ρ, M, G, b', en, run⟩ => ?_
  refine tE_of b' en (show (wp a ρ).run M (fun d M1 => (sp2G .join d).run M1 (fun _ M2 => (wp b ρ).run M2 (fun e M3 => (sp2P .join d e).run M3 (kE X.K true false M G H Q) (exW EX W X.K M G σ H)) (exW EX W X.K M G σ H)) (exW EX W X.K M G σ H)) (exW EX W X.K M G σ H) from run) (fun d M1 v G1 H1 c1 t1 en1 r1 => ?_) fun _ _ z => z
  cases d <;> first | exact False.elim c1 | skip
  rename_i sep
  cases r1.nolst (fun _ z => nomatch z)
  refine ⟨⟨_, rfl⟩, tE_of t1.bas en1 c1 (fun e M2 u G2 H2 c2 t2 _ r2 => ?_) fun k M' z => exW_after t1 z⟩
  cases e <;> first | exact False.elim c2 | skip
  case lst xs =>
    obtain ⟨ys, ey, c3⟩ := opt_run (bo_run (show (joinP sep xs).run M2 _ _ from c2))
    obtain ⟨hz, c4⟩ := (show _ ∧ _ from c3)
    obtain ⟨l, vs, rfl, e2, rs⟩ := r2.lst t2.bas
    have ev := strs_use rs ey
    exact ⟨sep, l, ys, rfl, rfl, .inl (by rw [← ev]; exact SqL.of e2), hz, by rw [TL.join_eq]; exact c4 _ G2 H2 (t1.trans t2) (.rep (.str _) fun _ _ z => nomatch z)⟩
  case tup xs =>
    obtain ⟨ys, ey, c3⟩ := opt_run (bo_run (show (joinP sep xs).run M2 _ _ from c2))
    obtain ⟨hz, c4⟩ := (show _ ∧ _ from c3)
    cases r2.nolst (fun _ z => nomatch z) with
    | tup e1 rs =>
      have ev := strs_use rs ey
      exact ⟨sep, _, ys, rfl, rfl, .inr (by rw [← ev]; exact SqT.of (t2.bas.sub _ _ e1)), hz, by rw [TL.join_eq]; exact c4 _ G2 H2 (t1.trans t2) (.rep (.str _) fun _ _ z => nomatch z)⟩
theorem e_split {p2 p3 : Pos} (hd : notDot y = true) (ho : ord z = true) (hl : (p2.endLine == p3.line) = true) (ha : PE X y (tE EX W X.K a)) (hb : PE X z (tE EX W X.K b)) : PE X (.Call (.Attribute y "split" p2) [z] [] p3) (tE EX W X.K (.sp2 .splitOn a b)) := by
  have sx : starEach [z] X.env = [(false, eval z X.env)] := star_of ho [] _
  have q := pe_m1 (X := X) (o := y) (e := z) (apos := p2) (pos := p3) F.slot_str_split F.type_str_split mt_split ha hb sx (by cases y <;> first | exact Bool.noConfusion hd | rfl) hl
  refine q.imp fun σ H Q ⟨ρ, M, G, b', en, run⟩ => ?_
  refine tE_of b' en (show (wp a ρ).run M (fun d M1 => (sp2G .splitOn d).run M1 (fun _ M2 => (wp b ρ).run M2 (fun e M3 => (sp2P .splitOn d e).run M3 (kE X.K true false M G H Q) (exW EX W X.K M G σ H)) (exW EX W X.K M G σ H)) (exW EX W X.K M G σ H)) (exW EX W X.K M G σ H) from run) (fun d M1 v G1 H1 c1 t1 en1 r1 => ?_) fun _ _ z => z
  cases d <;> first | exact False.elim c1 | skip
  rename_i s
  cases r1.nolst (fun _ z => nomatch z)
  refine ⟨⟨_, rfl⟩, tE_of t1.bas en1 c1 (fun e M2 u G2 H2 c2 t2 _ r2 => ?_) fun k M' z => exW_after t1 z⟩
  cases e <;> first | exact False.elim c2 | skip
  rename_i sep
  cases r2.nolst (fun _ z => nomatch z)
  obtain ⟨⟨hb', hz⟩, c4⟩ := (show (_ ∧ _) ∧ _ from c2)
  exact ⟨s, sep, rfl, rfl, hb', hz, fun p n => kE_newL c4 (t1.trans t2) (Reps.strs _) n⟩
theorem sp2_ok {o : Sp2} (g : Good X W fn) (h : sp2X X.env.scope o x = some (y, z)) (ha : PE X y (tE EX W X.K a)) (hb : PE X z (tE EX W X.K b)) : PE X x (tE EX W X.K (.sp2 o a b)) ∧ ∀ whole, isTrue x X.env whole = (do let v ← whole; standAt x.pos; holding [v] (truthy v)) := by
  unfold sp2X at h
  split at h
  · split at h
    · rename_i hc
      cases h
      simp only [Bool.and_eq_true, decide_eq_true_eq] at hc
      obtain ⟨⟨⟨rfl, h1⟩, h2⟩, h3⟩ := hc
      exact ⟨e_index h1 h2 h3 ha hb, fun _ => rfl⟩
    · cases h
  · split at h
    · rename_i hc
      cases h
      simp only [Bool.and_eq_true, decide_eq_true_eq] at hc
      obtain ⟨⟨⟨rfl, h1⟩, h2⟩, h3⟩ := hc
      exact ⟨e_join h1 h2 h3 ha hb, fun _ => rfl⟩
    · cases h
  · split at h
    · rename_i hc
      cases h
      simp only [Bool.and_eq_true, decide_eq_true_eq] at hc
      obtain ⟨⟨⟨rfl, h1⟩, h2⟩, h3⟩ := hc
      exact ⟨e_split h1 h2 h3 ha hb, fun _ => rfl⟩
    · cases h
  · cases h
end
end PL
set_option Elab.async false
set_option linter.all false
set_option maxRecDepth 100000
set_option maxHeartbeats 1000000
namespace PL
open L2 PySem PyProof.Rows PySem.Spec

/-! ## words about an own object -/
section
variable {EX : Nat → Addr} {X : Cx} {W : WX} {fn : Str → Bool} {K : PySem.W.Frag} {ρ : Slots} {M M1 : Mem} {G H G1 H1 : Hp} {σ : L2.St} {a b : E} {x y z : Expr} {pos : Pos}
theorem ins_at {d : D} {fs : List (Str × D)} (h : insAt M d = some fs) : ∃ p, d = .cell p ∧ M p = some (.ins fs) := by
  unfold insAt at h
  split at h
  · rename_i p
    split at h
    · rename_i e; cases h; exact ⟨p, rfl, e⟩
    · cases h
  · cases h
theorem ins_use {d : D} {fs : List (Str × D)} {v0 f0 : Bool} {H0 : Hp} {v : V} (h : insAt M d = some fs) (bs : Bas K M G H) (r : Res K v0 f0 H0 M G H v d) : ∃ p dx vs, d = .cell p ∧ v = .ref p ∧ M p = some (.ins fs) ∧ H p = some (.ins (kC K) dx vs) ∧ FsOk K G vs fs := by
  obtain ⟨p, rfl, m⟩ := ins_at h
  cases r.nolst (fun _ z => nomatch z)
  obtain ⟨_, _, dx, vs, e, q⟩ := bs.cells p _ m
  exact ⟨p, dx, vs, rfl, rfl, m, e, q⟩
theorem dot_base {f : Str} (h : dotOk y = true) : attributeBase y f X.env (eval y X.env) = eval y X.env := by
  cases y <;> first | rfl | cases h
theorem e_attr {f : Str} (h : dotOk y = true) (ok : ObOk EX X.prog X.w X.K X.mg X.base X.A (.attr f)) (ha : PE X y (tE EX W X.K a)) : PE X (.Attribute y f pos) (tE EX W X.K (.ob (.attr f) a .nil)) :=
  (pe_fld ha (dot_base h)).imp fun σ H Q ⟨ρ, M, G, b', en, run⟩ => by
    refine one_of b' en (bo_run run) (fun _ _ z => z) fun d M1 v G1 H1 c t r => ?_
    obtain ⟨fs, e1, c1⟩ := opt_run (bo_run (show (PM.bind (.opt (insAt M1 d)) _).run M1 _ _ from c))
    obtain ⟨d', e2, c2⟩ := opt_run c1
    obtain ⟨p, dx, vs, rfl, rfl, m, e, q⟩ := ins_use e1 t.bas r
    obtain ⟨u, hu, ru⟩ := q.get e2
    exact ⟨p, kC X.K, dx, vs, u, rfl, e, ok.1, ok.2, hu, c2 u G1 H1 t (.rep ru fun z => nomatch z)⟩

/-! ### calls of methods -/
def tMethS' (C : Addr) (m : Str) (sp : Sp) (E : L2.St → XK) (ta : TE) (t : TA) : TE := fun σ H Q => ta σ H fun x H1 => ∃ a dx fs, x = .ref a ∧ H1 a = some (.ins C dx fs) ∧ fs.lookup m = none ∧ t σ H1 fun vs H2 => sp (x :: vs) H2 Q (E σ)
section
variable {CX : CXT} {k : Nat} {f C : Addr} {fd : FuncData} {ps : List Str} {sp : Sp} {E : L2.St → XK} {m : Str} {p apos : Pos} {o e : Expr} {es : List Expr} {ta : TE} {t : TA}
theorem meth_wp {M : Model} {A : Around} {E : Value → Shared → Prop} {s : Shared} {env : Env} {args : List Expr} {Q : Value → Shared → Prop} (hbase : attributeBase o m env (eval o env) = eval o env) (hform : methodCallForm (args.length + ([] : List Keyword).length) (backTo pos (starEach args env)) (backToKw pos (keywordEach [] env)) = true)
    (hline : (apos.endLine == pos.line) = true) (h : wpAny M A (eval o env) (fun ov s1 => wpAny M A (getMethod ov m (do return (← importBound o env).getD true)) (fun fx s2 => wpAny M A (callWith pos fx.1 fx.2 (backTo pos (starEach args env)) []) Q E s2) E s1) E s) :
    wpAny M A (eval (.Call (.Attribute o m apos) args [] pos) env) Q E s := by
  have hpos : methodCallPos true o env apos pos = pure pos := by unfold methodCallPos; simp [hline]
  rw [arm_eval_Call, hbase]
  refine wpAny_bind (wpAny_mono h (fun ov s1 h1 => wpAny_bind (wpAny_standAt ?_)) fun _ _ z => z)
  unfold methodCall
  rw [hform]
  exact wpAny_bind (wpAny_holding (wpAny_mono h1 (fun fx s2 h2 => wpAny_bind (wpAny_of_eq hpos h2)) fun _ _ z => z))
theorem ords_form {p : Pos} : ∀ {ys : List Expr} {env : Env}, (ys.all ord) = true → (backTo p (starEach ys env)).all (fun x => !x.1) = true
  | [], _, _ => rfl
  | y :: ys, env, h => by
    obtain ⟨h1, h2⟩ := Bool.and_eq_true_iff.mp (show (ord y && ys.all ord) = true from h)
    rw [star_of h1]
    show (true && (backTo p (starEach ys env)).all (fun x => !x.1)) = true
    rw [ords_form h2]
    rfl
theorem form_of {ys : List Expr} {env : Env} {p : Pos} (h : (ys.all ord) = true) (hl : ys.length < 20) : methodCallForm (ys.length + ([] : List Keyword).length) (backTo p (starEach ys env)) (backToKw p (keywordEach [] env)) = true := by
  show ((backTo p (starEach ys env)).all (fun x => !x.1) && true && decide (ys.length + 0 + 0 < 30)) = true
  rw [ords_form h, decide_eq_true (by omega)]
  rfl
theorem pe_methE (he : PE X o ta) (c : Cls X.K C) (hm : Meth X.K C m f) (F : FnOk X.prog X.w X.K X.mg X.base CX k f fd ps sp) (hr : Room k X.A) (hb : Binds X.K fd ps []) (hx : ∀ σ, PassesAt CX X σ (E σ)) (ha : PA X (e :: es) t) (hd : dotOk o = true)
    (ho : (e :: es).all ord = true) (hlen : (e :: es).length < 20) (hline : (apos.endLine == pos.line) = true) :
    PE X (.Call (.Attribute o m apos) (e :: es) [] pos) (tMethS' C m sp E ta t) := by
  have ho' := ho
  rw [List.all_cons, Bool.and_eq_true] at ho'
  refine ⟨fun pins s σ H Q I h => ?_⟩
  refine meth_wp (dot_base hd) (form_of ho hlen) hline (thn (he.run pins s σ H _ I h) fun u s1 ⟨x, H1, I1, rx, a, dx, fs, ex, ea, l, q⟩ => ?_)
  subst ex
  obtain rfl : u = Value.ref a := rx
  refine getmeth_ok I1 ea c hm l (PySem.W.callWith_K (first := [.ref a]) (h₀ := X.base) I1.ok.mod.kin hm.kp ?_ (star_of ho'.1 _ _) (ords_back ho'.2))
  refine thn (ha.run pos pins s1 σ H1 _ I1 q) fun us s2 ⟨vs, H2, I2, r, q2⟩ => ⟨I2.kIn, ?_⟩
  exact run_fnS (us := .ref a :: us) (vs := .ref a :: vs) F hr hb (hx σ) I2 (.cons rfl r) q2
theorem pe_methE0 (he : PE X o ta) (c : Cls X.K C) (hm : Meth X.K C m f) (F : FnOk X.prog X.w X.K X.mg X.base CX k f fd ps sp) (hr : Room k X.A) (hb : Binds X.K fd ps []) (hx : ∀ σ, PassesAt CX X σ (E σ)) (hd : dotOk o = true) (hline : (apos.endLine == pos.line) = true) :
    PE X (.Call (.Attribute o m apos) [] [] pos) (tMethS' C m sp E ta tNil) := by
  refine ⟨fun pins s σ H Q I h => ?_⟩
  refine meth_wp (dot_base hd) (form_of rfl (by decide)) hline (thn (he.run pins s σ H _ I h) fun u s1 ⟨x, H1, I1, rx, a, dx, fs, ex, ea, l, q⟩ => ?_)
  subst ex
  obtain rfl : u = Value.ref a := rx
  refine getmeth_ok I1 ea c hm l (PySem.W.callWith_K0 (first := [.ref a]) I1.kIn hm.kp ?_)
  exact run_fnS (us := [.ref a]) (vs := [.ref a]) F hr hb (hx σ) I1 (.cons rfl .nil) q
end
theorem ocall_run {F : FS} {ds : List D} {Q : VK} {C : D → Mem → Prop} (t : Stp K M G H M1 G1 H1) (c : (PM.call F ds).run M1 C (exW EX W K M G σ H)) (hC : ∀ d M', C d M' → ∀ v G' H', Stp K M1 G1 H1 M' G' H' → Rep K G' v d → Q v H') :
    (PM.call F ds).run M1 (fun d M' => ∀ v G' H', Stp K M1 G1 H1 M' G' H' → Rep K G' v d → Q v H') (fun k M' => ∀ G' H', Stp K M1 G1 H1 M' G' H' → WE W σ (.ref (EX k)) none H') :=
  (PM.call F ds).mono (fun d M' h => hC d M' h) (fun k M' h G' H' u => h G' H' (t.trans u)) c
theorem e_meth {m : Str} {F : FS} {p2 : Pos} {zs : List Expr} (g : Good X W fn) (ok : ObOk EX X.prog X.w X.K X.mg X.base X.A (.meth m F)) (hd : dotOk y = true) (ho : zs.all ord = true) (hlen : zs.length < 20) (hline : (p2.endLine == pos.line) = true) (hz : zs = [] → b = .nil) (ha : PE X y (tE EX W X.K a)) (hs : PA X zs (tA EX W X.K b)) :
    PE X (.Call (.Attribute y m p2) zs [] pos) (tE EX W X.K (.ob (.meth m F) a b)) := by
  obtain ⟨cl, f, fd, ps, k, hm, Fk, hr, hb⟩ := ok
  have red : ∀ {tt : TA}, (∀ σ H R, tA EX W X.K b σ H R → tt σ H R) → ∀ σ H Q, tE EX W X.K (.ob (.meth m F) a b) σ H Q → tMethS' (kC X.K) m (spF EX X.K F) (WE W) (tE EX W X.K a) tt σ H Q := fun {tt} hh σ H Q ⟨ρ, M, G, b', en, run⟩ => by
    refine tE_of b' en (bo_run run) (fun d M1 v G1 H1 c t en1 r => ?_) fun _ _ z => z
    obtain ⟨fs, e1, c1⟩ := opt_run (bo_run (show (PM.bind (.opt (insAt M1 d)) fun fs => .need (fs.lookup m = none)).run M1 (fun _ M2 => (PM.bind (wp b ρ) fun t => .bind (obL (.meth m F) t) fun ds => obP (.meth m F) d ds).run M2 (kE X.K true false M G H Q) (exW EX W X.K M G σ H)) (exW EX W X.K M G σ H) from c))
    obtain ⟨hn, c2⟩ := (show fs.lookup m = none ∧ (PM.bind (wp b ρ) fun t => .bind (obL (.meth m F) t) fun ds => obP (.meth m F) d ds).run M1 (kE X.K true false M G H Q) (exW EX W X.K M G σ H) from c1)
    obtain ⟨p, dx, vs, rfl, rfl, mm, e, q⟩ := ins_use e1 t.bas r
    refine ⟨p, dx, vs, rfl, e, q.no hn, hh _ _ _ ?_⟩
    refine tA_of t.bas en1 (bo_run c2) (fun ds M2 us G2 H2 c3 t2 _ rs => ?_) fun k M' z => exW_after t z
    refine ⟨.cell p :: ds, M2, G2, t2.bas, .cons (.cell p) rs, ?_⟩
    exact ocall_run (t.trans t2) (show (PM.call F (.cell p :: ds)).run M2 (kE X.K true false M G H Q) (exW EX W X.K M G σ H) from c3) fun d M' h v G' H' u rp => h v G' H' ((t.trans t2).trans u) (.rep rp fun z => nomatch z)
  cases zs with
  | nil =>
    have eb := hz rfl
    subst eb
    exact (pe_methE0 (E := WE W) ha cl hm Fk hr hb (fun σ => passAt g.tk σ) hd hline).imp (red fun σ H R ⟨ρ, M, G, b', en, run⟩ => run [] [] G H rfl (.refl b') .nil)
  | cons z zs =>
    exact (pe_methE (E := WE W) ha cl hm Fk hr hb (fun σ => passAt g.tk σ) hs hd ho hlen hline).imp (red fun _ _ _ q => q)

/-! ### a new object -/
section
variable {CX : CXT} {k : Nat} {f C : Addr} {fd : FuncData} {ps : List Str} {sp : Sp} {E : L2.St → XK} {c : Str} {p : Pos} {e : Expr} {es : List Expr} {t : TA}
def tMakeS (C : Addr) (sp : Sp) (E : L2.St → XK) (t : TA) : TE := fun σ H Q => t σ H fun vs H1 => ∀ x dx, H1 x = none → H1 dx = none → dx ≠ x → sp (.ref x :: vs) (upd (upd H1 dx (.own x)) x (.ins C dx [])) (fun v H2 => v = .non ∧ Q (.ref x) H2) (E σ)
theorem run_makeS {pins : List (Addr × Obj)} {s : Shared} {Q : VK} {us : List Value} {vs : List V} (mk : Mk X.K C f) (F : FnOk X.prog X.w X.K X.mg X.base CX k f fd ps sp) (hr : Room (k + 1) X.A) (hb : Binds X.K fd ps []) (hx : PassesAt CX X σ (E σ)) (I : Inv X pins σ H s) (r : Vals vs us)
    (h : ∀ x dx, H x = none → H dx = none → dx ≠ x → sp (.ref x :: vs) (upd (upd H dx (.own x)) x (.ins C dx [])) (fun v H2 => v = .non ∧ Q (.ref x) H2) (E σ)) : wpAny (model X.prog X.w) X.A (call (.ref C) us) (EP X pins σ Q) X.xe s := by
  have q0 := h _ _ (I.hok.fresh (Nat.le_succ s.heap.objs.size)) (I.hok.fresh (Nat.le_refl s.heap.objs.size)) (Nat.ne_of_lt (Nat.lt_succ_self _))
  have I2 := Inv.made (C := C) I
  have rr : Vals (V.ref (s.heap.objs.size + 1) :: vs) (Value.ref (s.heap.objs.size + 1) :: us) := .cons rfl r
  have ll : (Value.ref (s.heap.objs.size + 1) :: us).length = ps.length := by rw [← rr.length]; exact F.len _ _ _ _ q0
  have bb := hb _ (Value.ref (s.heap.objs.size + 1) :: us) I2.kIn (by rw [List.append_nil]; exact ll)
  rw [List.append_nil] at bb
  have body := F.run _ X.stack _ _ ⟨Value.ref (s.heap.objs.size + 1) :: us, []⟩ _ _ _ (E σ) (hr.make C us []) (I2.env0.make C us []) bb rr q0
  refine wpAny_call (make_map (f := f) I.kIn mk.makes mk.init (beq_iff_eq.mp mk.fn) (codeAny_mono body fun res s' z => ?_))
  cases res with
  | error e => exact hx pins _ _ e s' I2 z
  | ok fl =>
    cases fl with
    | ret u =>
      obtain ⟨v, H', I3, rv, ev, q3⟩ := I2.after z
      subst ev
      exact ⟨rv, V.ref (s.heap.objs.size + 1), H', I3, rfl, q3⟩
    | next => exact False.elim z
    | brk => exact False.elim z
    | cont => exact False.elim z
theorem pe_makeS (mk : Mk X.K C f) (F : FnOk X.prog X.w X.K X.mg X.base CX k f fd ps sp) (hr : Room (k + 1) X.A) (hg : Gl X c) (hm : X.mg c = some (.ref C)) (hb : Binds X.K fd ps []) (hx : ∀ σ, PassesAt CX X σ (E σ))
    (ha : PA X (e :: es) t) (hdb : (c == ("__debug__" : Str)) = false) (he : starEach (e :: es) X.env = (false, eval e X.env) :: starEach es X.env) (hpl : (backTo pos (starEach es X.env)).any (·.1) = false) :
    PE X (.Call (.Name c p) (e :: es) [] pos) (tMakeS C sp E t) := ⟨fun pins s σ H Q I h => by
  refine wpAny_Call_Name_kw (ld_glob I hg hm (PySem.W.callWith_K (h₀ := X.base) I.ok.mod.kin mk.kp ?_ he hpl) hdb)
  refine thn (ha.run pos pins s σ H _ I h) fun us s1 ⟨vs, H1, I1, r, q⟩ => ⟨I1.kIn, ?_⟩
  exact run_makeS mk F hr hb (hx σ) I1 r q⟩
end
theorem e_make {c : Str} {F : FS} {p : Pos} {zs : List Expr} (g : Good X W fn) (ok : ObOk EX X.prog X.w X.K X.mg X.base X.A (.make c F)) (hn : (c == ("__debug__" : Str)) = false) (hg : glbB X.env.scope c = true) (ho : ord z = true) (hos : zs.all ord = true) (hs : PA X (z :: zs) (tA EX W X.K b)) :
    PE X (.Call (.Name c p) (z :: zs) [] pos) (tE EX W X.K (.ob (.make c F) .nil b)) := by
  obtain ⟨f, fd, ps, k, mk, Fk, hr, hm, hb⟩ := ok
  refine (pe_makeS (E := WE W) mk Fk hr (glb_of hg) hm hb (fun σ => passAt g.tk σ) hs hn (star_of ho _ _) (ords_back hos)).imp fun σ H Q ⟨ρ, M, G, b', en, run⟩ => ?_
  refine tA_of b' en (show (wp b ρ).run M (fun t M1 => (PM.bind (tupP t) fun ds => .make F ds).run M1 (kE X.K true false M G H Q) (exW EX W X.K M G σ H)) (exW EX W X.K M G σ H) from run) (fun ds M1 us G1 H1 c1 t1 _ rs => ?_) fun k M' z => z
  intro x dx nx nd ne
  have u1 := Stp.new (o := .own x) t1.bas nd
  have nx' : upd H1 dx (.own x) x = none := by rw [upd_ne ne.symm]; exact nx
  have u2 := u1.trans (Stp.new (o := .ins (kC X.K) dx []) u1.bas nx')
  have fx := t1.bas.free nx
  have u3 : Stp X.K M1 G1 H1 (M1.put x (.ins [])) G1 (upd (upd H1 dx (.own x)) x (.ins (kC X.K) dx [])) := u2.newc upd_same fx.1 fx.2 nx ⟨dx, [], upd_same, .nil⟩
  refine ⟨.cell x :: ds, _, G1, u3.bas, .cons (.cell x) rs, ?_⟩
  have c2 := (show ∀ a, M1 a = none → (PM.call F (.cell a :: ds)).run (M1.put a (.ins [])) (fun d M' => d = .non ∧ kE X.K true false M G H Q (.cell a) M') (exW EX W X.K M G σ H) from c1) x fx.2
  refine ocall_run (t1.trans u3) c2 fun d M' hh v G' H' u rp => ?_
  obtain ⟨e, hh⟩ := hh
  subst e
  cases rp
  exact ⟨rfl, hh (.ref x) G' H' ((t1.trans u3).trans u) (.rep (.cell x) fun z => nomatch z)⟩
/-- a new list becomes a cell -/
theorem e_newl (hv : vOk a = true) (hf : frOk a = true) (ha : PE X x (tE EX W X.K a)) : PE X x (tE EX W X.K (.ob .newl a .nil)) :=
  ha.imp fun σ H Q ⟨ρ, M, G, b', en, run⟩ => by
    refine ⟨ρ, M, G, b', en, (wp a ρ).mono (fun d M1 c v G1 H1 t r => ?_) (fun _ _ z => z) (bo_run run)⟩
    rw [hv, hf] at r
    cases d <;> first | exact False.elim c | skip
    rename_i xs
    rcases r with ⟨_, n⟩ | ⟨p, us, ys, rfl, e, h1, h2, h3, rr, n⟩
    · exact absurd rfl (n rfl xs)
    · cases e
      exact (show ∀ p, M1 p = none → kE X.K true false M G H Q (.cell p) (M1.put p (.lst xs)) from c) p h3 (.ref p) G1 H1 (t.newc h1 h2 h3 (n rfl) ⟨us, h1, rr⟩) (.rep (.cell p) fun z => nomatch z)

/-! ### len, ==, != by own methods -/
abbrev never : XK := fun _ _ _ => False
theorem never_pass {s s' : Shared} {e : Value} : L2.CX X.prog X.w X.stack H s never e s' → X.xe e s' := by
  rintro ⟨_, _, _, _, _, _, _, _, _, _, _, _, z⟩
  exact False.elim z
section
variable {pins : List (Addr × Obj)} {s : Shared} {k : Nat} {f : Addr} {fd : FuncData} {ps : List Str} {sp : Sp} {us : List Value} {vs : List V} {Q : VK} {A : Around}
/-- a call of a def under another ring -/
theorem run_at (F : FnOk X.prog X.w X.K X.mg X.base (L2.CX X.prog X.w) k f fd ps sp) (hr : Room k A) (hf : A.frames = X.A.frames) (hb : Binds X.K fd ps []) (I : Inv X pins σ H s) (r : Vals vs us) (h : sp vs H Q never) : wpAny (model X.prog X.w) A (call (.ref f) us) (EP X pins σ Q) X.xe s := by
  have e := I.env0
  have e0 : Env0 X.prog X.w X.K X.mg X.base A X.stack s H := { e with frames := hf.trans e.frames }
  have ll : us.length = ps.length := by rw [← r.length]; exact F.len _ _ _ _ h
  have bb := hb s us I.kIn (by rw [List.append_nil]; exact ll)
  rw [List.append_nil] at bb
  refine wpAny_call (codeAny_mono (F.run A X.stack s H ⟨us, []⟩ us vs Q never hr e0 bb r h) fun res s' z => ?_)
  cases res with
  | error e => exact never_pass z
  | ok fl =>
    cases fl with
    | ret u => exact I.after z
    | next => exact False.elim z
    | brk => exact False.elim z
    | cont => exact False.elim z
end
def rLenO (K : PySem.W.Frag) (sp : Sp) : List V → Hp → VK → Prop := fun xs H Q => ∃ p dx fs, xs = [.ref p] ∧ H p = some (.ins (kC K) dx fs) ∧ sp [.ref p] H (fun v H' => ∃ n, v = .int n ∧ (0 ≤ n ∧ n < 2 ^ 63) ∧ Q (.int n) H') never
theorem call_lenO {k : Nat} {f : Addr} {fd : FuncData} {ps : List Str} {sp : Sp} (hm : Meth X.K (kC X.K) "__len__" f) (F : FnOk X.prog X.w X.K X.mg X.base (L2.CX X.prog X.w) k f fd ps sp) (hr : Room (k + 1) X.A) (hb : Binds X.K fd ps []) : CallR X (.builtin "len") (rLenO X.K sp) := by
  intro pins s σ H xs us Q I r h
  obtain ⟨p, dx, fs, rfl, e, q⟩ := h
  obtain ⟨u, rfl, ru⟩ := Vals.one r
  cases ru
  obtain ⟨mA, J, _⟩ := ins_get I.hok e
  obtain ⟨od, J, _⟩ := J.look
  obtain ⟨m, hF⟩ := I.fr
  refine PySem.W.len_K hF I.ok.mod.kin J hm.at_ hm.fn (wpAny_mono (run_at F hr.in1 rfl hb I r q) (fun u s' z => ?_) fun _ _ z => z)
  obtain ⟨v, H', I', rv, n, rfl, hn, q'⟩ := z
  obtain ⟨t, rfl⟩ := (show ∃ t, u = Value.int n t from rv)
  exact ⟨hn, .int n, H', I'.tok _, ⟨_, rfl⟩, q'⟩
theorem e_lenO {F : FS} {p : Pos} (g : Good X W fn) (ok : ObOk EX X.prog X.w X.K X.mg X.base X.A (.lenO F)) (hg : glbB X.env.scope "len" = true) (ho : ord y = true) (ha : PE X y (tE EX W X.K a)) : PE X (.Call (.Name "len" p) [y] [] pos) (tE EX W X.K (.ob (.lenO F) a .nil)) := by
  obtain ⟨f, fd, ps, k, hm, Fk, hr, hb⟩ := ok
  refine (pe_callB (call_lenO hm Fk hr hb) (glb_of hg) (g.nm _ (by decide)) PySem.boot_len (pa_cons ha pa_nil (star_of ho _ _)) (by decide) (by decide) (star_of ho _ _) rfl).imp fun σ H Q ⟨ρ, M, G, b', en, run⟩ => ?_
  refine one_of b' en (bo_run run) (fun _ _ z => z) fun d M1 v G1 H1 c t r => ?_
  obtain ⟨fs, e1, c1⟩ := opt_run (bo_run (show (PM.bind (.opt (insAt M1 d)) _).run M1 _ _ from c))
  obtain ⟨p, dx, vs, rfl, rfl, mm, e, q⟩ := ins_use e1 t.bas r
  refine ⟨p, dx, vs, rfl, e, [.cell p], M1, G1, t.bas, .one (.cell p), ?_⟩
  refine (PM.call F [.cell p]).mono (fun d M' hh v G' H' u rp => ?_) (fun _ _ z => False.elim z) (show (PM.call F [.cell p]).run M1 (fun d M' => (match d with | .int n => PM.bind (.need (0 ≤ n ∧ n < 2 ^ 63)) fun _ => .pure (.int n) | _ => .fail : PM D).run M' (kE X.K true false M G H Q) (exW EX W X.K M G σ H)) (fun _ _ => False) from c1)
  cases d <;> first | exact False.elim hh | skip
  rename_i n
  cases rp
  exact ⟨n, rfl, hh.1, hh.2 _ G' H' (t.trans u) (.rep (.int n) fun _ _ z => nomatch z)⟩

/-- the other side of == -/
def rightOk (K : PySem.W.Frag) (H : Hp) (y : V) : Prop := ∃ p, y = .ref p ∧ ((∃ dx fs, H p = some (.ins (kC K) dx fs)) ∨ ∃ xs, H p = some (.tup xs))
theorem right_look {pins : List (Addr × Obj)} {s : Shared} {u : V} {w : Value} (hs : PySem.W.subIn X.K (.type "tuple") (.ref (kC X.K)) = some false) (I : Inv X pins σ H s) (r : RelV u w) (h : rightOk X.K H u) : ∃ tb, PySem.W.Looks (model X.prog X.w) s.heap (typeOf w) tb ∧ PySem.W.notFirst X.K (kC X.K) tb = true := by
  obtain ⟨p, rfl, ⟨dx, fs, e⟩ | ⟨xs, e⟩⟩ := h
  · cases r
    obtain ⟨mA, J, _⟩ := ins_get I.hok e
    obtain ⟨od, J, _⟩ := J.look
    exact ⟨_, J.type, by simp [PySem.W.notFirst]⟩
  · cases (show w = Value.ref p from r)
    obtain ⟨_, _, _, o, h1, h2, _⟩ := (show ObjOk X.prog X.w H s.heap p (.tup xs) from I.hok p _ e)
    exact ⟨.type "tuple", by rw [← h2]; exact (PySem.W.Looks.ld h1).andThen .now, by unfold PySem.W.notFirst; rw [hs]; simp⟩
def rEqO (K : PySem.W.Frag) (sp : Sp) (neg : Bool) : R2 := fun x y H Q => (∃ p dx fs, x = .ref p ∧ H p = some (.ins (kC K) dx fs)) ∧ rightOk K H y ∧ sp [x, y] H (fun v H' => ∃ b, v = .bl b ∧ Q (.bl (b != neg)) H') never
section
variable {k : Nat} {f : Addr} {fd : FuncData} {ps : List Str} {sp : Sp}
theorem op_eqO (hs : PySem.W.subIn X.K (.type "tuple") (.ref (kC X.K)) = some false) (hm : Meth X.K (kC X.K) "__eq__" f) (F : FnOk X.prog X.w X.K X.mg X.base (L2.CX X.prog X.w) k f fd ps sp) (hr : Room (k + 1) X.A) (hb : Binds X.K fd ps []) : OpR X (compareOp .Eq) (rEqO X.K sp false) := by
  intro pins s σ H x y v u Q I rx ry h
  obtain ⟨⟨p, dx, fs, rfl, e⟩, ho, q⟩ := h
  obtain ⟨tb, l1, l2⟩ := right_look hs I ry ho
  cases rx
  obtain ⟨mA, J, _⟩ := ins_get I.hok e
  obtain ⟨od, J, _⟩ := J.look
  obtain ⟨m, hF⟩ := I.fr
  show wpAny (model X.prog X.w) X.A (richCompare .Eq _ _) (EP X pins σ Q) X.xe s
  refine PySem.W.cmp_K (op := .Eq) hr.units0 hF I.ok.mod.kin J l1 l2 hm.at_ hm.fn (wpAny_mono (run_at F (hr.mono (Nat.le_succ k)) rfl hb I (show Vals [V.ref p, y] [Value.ref p, u] from .cons rfl (.cons ry .nil)) q) (fun w s' z => ?_) fun _ _ z => z)
  obtain ⟨v', H', I', rv, b, rfl, q'⟩ := z
  cases rv
  exact ⟨.bl (b != false), H', I', by cases b <;> rfl, q'⟩
theorem csif {M : Model} {A : Around} {E : Value → Shared → Prop} {s : Shared} {self : Value} {name : Str} {id : String} {args : List Value} {Q : Option Value → Shared → Prop} (sp : PySem.W.Looks M s.heap (specialOf self name) (some (.builtin id))) (hb : bindSpecial (.builtin id) self = pure (.builtin id, [self]))
    (hc : wpAny M A (call (.builtin id) (self :: args)) (fun v => Q (some v)) E s) : wpAny M A (callSpecialIfBound? self name args) Q E s := by
  unfold callSpecialIfBound? bindSpecialIfBound?
  refine wpAny_holding (wpAny_bind (wpAny_bind (sp.here ?_)))
  simp only [hb]
  have fin : wpAny M A (call (.builtin id) ([self] ++ args) >>= fun r => pure (some r)) Q E s := wpAny_bind (wpAny_mono hc (fun r z k => wpAny_pure k) fun _ _ k => k)
  refine wpAny_bind (wpAny_askSetting (wpAny_ite ?_))
  split
  · exact wpAny_bind (wpAny_pure (wpAny_pure fin))
  · exact wpAny_tryCatch (wpAny_bind (wpAny_pure (wpAny_pure fin)))
theorem objNe_run {prog : Program} {w : World} {A : Around} {E : Value → Shared → Prop} {s : Shared} {K : PySem.W.Frag} {x C : Addr} {ox : Obj} {od : Option Obj} {b : Value} {Q : Fin → Shared → Prop} (X0 : K.In s.heap) (J : PySem.W.InstAt s.heap x ox C od) (hu : A.units < cLine)
    (hs : PySem.W.findIn K (.ref C) "__eq__" = some (some (.ref f))) (hf : PySem.W.isFn K (.ref f) = true) (h : wpAny (model prog w) A (call (.ref f) [.ref x, b]) (fun v s' => ∃ r, v = .bool r ∧ Q (.done (.ret (.bool (!r)))) s') E s) :
    wpAny (model prog w) A (Builtin.«object.__ne__» ⟨[.ref x, b], []⟩) Q E s := by
  unfold Builtin.«object.__ne__»
  repeat (first
    | with_reducible refine wpAny_cRoomFor hu ?_
    | (refine wpAny_bind (m := callSpecialIfBound? (.ref x) (Str.ofString "__eq__") [b]) (PySem.W.ifBound_K X0 J hs hf (wpAny_mono h (fun v s' hr => ?_) fun _ _ e => e)))
    | wp_step)
  obtain ⟨r, rfl, hq⟩ := hr
  repeat (first | exact hq | exact wpAny_pure hq | exact wpAny_truthy_bool hq | (refine wpAny_bind (m := truthy (.bool _)) (wpAny_truthy_bool ?_)) | wp_step)
theorem op_neO (hmo : PySem.W.mroIn X.K (kC X.K) (.type "object") = some true) (hs : PySem.W.subIn X.K (.type "tuple") (.ref (kC X.K)) = some false) (hne : PySem.W.findIn X.K (.ref (kC X.K)) "__ne__" = some (some (.builtin "object.__ne__")))
    (hm : Meth X.K (kC X.K) "__eq__" f) (F : FnOk X.prog X.w X.K X.mg X.base (L2.CX X.prog X.w) k f fd ps sp) (hr : Room (k + 1) X.A) (hb : Binds X.K fd ps []) : OpR X (compareOp .NotEq) (rEqO X.K sp true) := by
  intro pins s σ H x y v u Q I rx ry h
  obtain ⟨⟨p, dx, fs, rfl, e⟩, ho, q⟩ := h
  obtain ⟨tb, l1, l2⟩ := right_look hs I ry ho
  cases rx
  obtain ⟨mA, J, _⟩ := ins_get I.hok e
  obtain ⟨od, J, _⟩ := J.look
  have hun : X.A.units + 1 < cLine := by have := hr.un; omega
  show wpAny (model X.prog X.w) X.A (richCompare .NotEq _ _) (EP X pins σ Q) X.xe s
  have one : wpAny (model X.prog X.w) X.A (tryCompare (.ref p) "__ne__" u) (fun r s' => ∃ b, r = some (.bool b) ∧ EP X pins σ Q (.bool b) s') X.xe s := by
    simp only [tryCompare]
    have sp0 : PySem.W.Looks (model X.prog X.w) s.heap (specialOf (.ref p) "__ne__") (some (.builtin "object.__ne__")) := J.type.andThen (PySem.W.looks_findIn I.kIn hne)
    have isO : PySem.W.Looks (model X.prog X.w) s.heap (isInstance (.ref p) (.type "object")) true := J.type.andThen (PySem.W.looks_mroIn I.kIn hmo)
    refine wpAny_bind (csif sp0 (PySem.F.cmp_object.ne.bind _) (wpAny_call (codeAny_call_builtin PySem.F.cmp_object.ne.plain PySem.F.cmpEntry_ne (PySem.W.check_slot PySem.F.cmpKind_ne PySem.F.cmpSplit_ne isO (PySem.F.cmpArgs_ne _ _)
      (objNe_run (A := X.A.in1) I.kIn J hun hm.at_ hm.fn (wpAny_mono (run_at F hr.in1 rfl hb I (show Vals [V.ref p, y] [Value.ref p, u] from .cons rfl (.cons ry .nil)) q) (fun w s' z => ?_) fun _ _ z => z))))))
    obtain ⟨v', H', I', rv, b, rfl, q'⟩ := z
    cases rv
    have fin : EP X pins σ Q (.bool (!b)) s' := ⟨.bl (b != true), H', I', by cases b <;> rfl, q'⟩
    exact ⟨b, rfl, wpAny_pure ⟨_, rfl, fin⟩⟩
  unfold richCompare
  simp only [oneThing_ref]
  refine wpAny_holding (wpAny_bind (wpAny_cRoomFor hr.units0 ?_))
  refine wpAny_bind (J.type.here (wpAny_bind (l1.here ?_)))
  have tail : wpAny (model X.prog X.w) X.A (tryCompare (.ref p) "__ne__" u) (fun r s' => ∃ b, r = some (.bool b) ∧ EP X pins σ Q (.bool b) s') X.xe s := one
  split
  · rename_i qd
    have es : PySem.W.subIn X.K tb (.ref (kC X.K)) = some false := by
      rcases Bool.or_eq_true_iff.mp l2 with w | w
      · rw [beq_iff_eq.mp w] at qd; simp at qd
      · exact beq_iff_eq.mp w
    refine wpAny_bind ((PySem.W.looks_subIn I.kIn es).here ?_)
    simp only [Bool.false_eq_true, if_false]
    refine wpAny_bind (wpAny_mono tail (fun r s' z => ?_) fun _ _ z => z)
    obtain ⟨b, rfl, hq⟩ := z
    exact wpAny_pure hq
  · refine wpAny_bind (wpAny_pure ?_)
    simp only [Bool.false_eq_true, if_false]
    refine wpAny_bind (wpAny_mono tail (fun r s' z => ?_) fun _ _ z => z)
    obtain ⟨b, rfl, hq⟩ := z
    exact wpAny_pure hq
end
theorem eqO_use {neg : Bool} {F : FS} {d e : D} {v u : V} {C : D → Mem → Prop} {E0 : EK} {G2 H2 : Hp} {M2 : Mem} {v1 f1 v2 f2 : Bool} {Ha Hb : Hp} {Q : VK} (t : Stp X.K M G H M2 G2 H2) (r1 : Res X.K v1 f1 Ha M2 G2 H2 v d) (r2 : Res X.K v2 f2 Hb M2 G2 H2 u e)
    (c : (obP (.eqO neg F) d [e]).run M2 C E0) (fin : ∀ bb M' G' H', C (.bl bb) M' → Stp X.K M G H M' G' H' → Q (.bl bb) H') : rEqO X.K (spF EX X.K F) neg v u H2 Q := by
  obtain ⟨fs, e1, c1⟩ := opt_run (bo_run (show (PM.bind (.opt (insAt M2 d)) _).run M2 _ _ from c))
  obtain ⟨hc, c2⟩ := (show ((insAt M2 e).isSome = true ∨ ∃ xs, e = .tup xs) ∧ _ from c1)
  obtain ⟨p, dx, vs, rfl, rfl, mm, eh, q⟩ := ins_use e1 t.bas r1
  have hh : rightOk X.K H2 u ∧ Rep X.K G2 u e := by
    rcases hc with hc | ⟨xs, rfl⟩
    · cases q2 : insAt M2 e with
      | none => rw [q2] at hc; cases hc
      | some gs =>
        obtain ⟨p2, dx2, vs2, rfl, rfl, mm2, eh2, _⟩ := ins_use q2 t.bas r2
        exact ⟨⟨p2, rfl, .inl ⟨dx2, vs2, eh2⟩⟩, .cell p2⟩
    · have rr := r2.nolst fun _ z => nomatch z
      cases rr with
      | tup e4 r4 => exact ⟨⟨_, rfl, .inr ⟨_, t.bas.sub _ _ e4⟩⟩, .tup e4 r4⟩
  refine ⟨⟨p, dx, vs, rfl, eh⟩, hh.1, [.cell p, e], M2, G2, t.bas, .cons (.cell p) (.one hh.2), ?_⟩
  refine (PM.call F [.cell p, e]).mono (fun d M' hh v G' H' w rp => ?_) (fun _ _ z => False.elim z) (show (PM.call F [.cell p, e]).run M2 (fun d M' => (match d with | .bl b => PM.pure (.bl (b != neg)) | _ => .fail : PM D).run M' C E0) (fun _ _ => False) from c2)
  cases d <;> first | exact False.elim hh | skip
  rename_i n
  cases rp
  exact ⟨n, rfl, fin _ _ G' H' hh (t.trans w)⟩
theorem e_eqO {neg : Bool} {F : FS} (ok : ObOk EX X.prog X.w X.K X.mg X.base X.A (.eqO neg F)) (ho : ord z = true) (ha : PE X x (tE EX W X.K a)) (hb : PE X z (tE EX W X.K b)) :
    PE X (.Compare x [eqOp neg] [z] pos) (tE EX W X.K (.ob (.eqO neg F) a b)) ∧ PT X (.Compare x [eqOp neg] [z] pos) (tT EX W X.K (.ob (.eqO neg F) a b)) := by
  obtain ⟨hmo, hs, hne, f, fd, ps, k, hm, Fk, hr, hbd⟩ := ok
  have op : OpR X (compareOp (eqOp neg)) (rEqO X.K (spF EX X.K F) neg) := by
    cases neg with
    | true => exact op_neO hmo hs hne hm Fk hr hbd
    | false => exact op_eqO hs hm Fk hr hbd
  constructor
  · refine (pe_cmpR op ha hb (mark_of ho _)).imp fun σ H Q ⟨ρ, M, G, b', en, q⟩ => two_of b' en (show (wp a ρ).run M (fun d M1 => (wp b ρ).run M1 (fun e M2 => (obP (.eqO neg F) d [e]).run M2 (kE X.K true false M G H Q) (exW EX W X.K M G σ H)) (exW EX W X.K M G σ H)) (exW EX W X.K M G σ H) from q) (fun _ _ z => z) fun d e M2 v u G2 H2 c t r1 r2 => ?_
    exact eqO_use t r1 r2 c fun bb M' G' H' hq w => hq _ G' H' w (.rep (.bl bb) fun _ _ z => nomatch z)
  · refine (pt_cmpR op ha hb (mark_of ho _)).imp fun σ H Q ⟨ρ, M, G, b', en, q⟩ => two_of b' en (show (wp a ρ).run M (fun d M1 => (wp b ρ).run M1 (fun e M2 => (obP (.eqO neg F) d [e]).run M2 (fun d M3 => (truP d).run M3 (kT X.K M G H Q) (exW EX W X.K M G σ H)) (exW EX W X.K M G σ H)) (exW EX W X.K M G σ H)) (exW EX W X.K M G σ H) from q) (fun _ _ z => z) fun d e M2 v u G2 H2 c t r1 r2 => ?_
    exact eqO_use t r1 r2 c fun bb M' G' H' hq w => ⟨bb, rfl, hq.2 G' H' w⟩
/-- isinstance(x, C) -/
theorem e_isk {c : Str} {p p2 : Pos} (g : Good X W fn) (ok : ObOk EX X.prog X.w X.K X.mg X.base X.A (.isk c)) (hg : glbB X.env.scope "isinstance" = true) (hgz : glbB X.env.scope c = true) (hn : nmB c = true) (ho : ord y = true) (ha : PE X y (tE EX W X.K a)) :
    PE X (.Call (.Name "isinstance" p) [y, .Name c p2] [] pos) (tE EX W X.K (.ob (.isk c) a .nil)) := by
  obtain ⟨hc, cl, kp, a1, a2, a3, a4, a5, a6⟩ := ok
  unfold nmB at hn
  simp only [Bool.and_eq_true, Bool.not_eq_true'] at hn
  have hT : PE X (.Name c p2) (tC (.ref (kC X.K))) := pe_glob (glb_of hgz) hc rfl hn.1
  refine (pe_callB call_isi (glb_of hg) (g.nm _ (by decide)) boot_isinstance (pa_cons ha (pa_cons hT pa_nil) (star_of ho _ _)) (by decide) (by decide) (star_of ho _ _) rfl).imp fun σ H Q ⟨ρ, M, G, b', en, run⟩ => ?_
  refine one_of b' en (bo_run run) (fun _ _ z => z) fun d M1 v G1 H1 cc t r => ?_
  cases d <;> first | exact False.elim cc | skip
  case cell q =>
    obtain ⟨fs, e1, c1⟩ := opt_run (bo_run (show (PM.bind (.opt (insAt M1 (.cell q))) _).run M1 _ _ from cc))
    obtain ⟨p', dx, vs, e2, rfl, mm, eh, _⟩ := ins_use e1 t.bas r
    exact ⟨.ref p', .ref (kC X.K), .ref (kC X.K), .ref (kC X.K), true, rfl, .own _, .base (.ins eh cl a1 a2 a3 a4), a5, (show kE X.K true false M G H Q (.bl true) M1 from c1) _ G1 H1 t (.rep (.bl _) fun _ _ z => nomatch z)⟩
  case tup xs =>
    cases r.nolst (fun _ z => nomatch z) with
    | tup e4 r4 =>
      exact ⟨_, .ref (kC X.K), .type "tuple", .ref (kC X.K), false, rfl, .own _, .base (.tup (t.bas.sub _ _ e4)), a6, (show kE X.K true false M G H Q (.bl false) M1 from cc) _ G1 H1 t (.rep (.bl _) fun _ _ z => nomatch z)⟩

/-! ### a written dict of texts -/
def dlT : List (Str × Int × Int) → List (TE × TE)
  | [] => []
  | (k, u, w) :: r => (tC (.str k), tTup (tCons (tC (.int u)) (tCons (tC (.int w)) tNil))) :: dlT r
theorem dlB_cons {k : Str} {u w : Int} {r : List (Str × Int × Int)} {as : List (Option Expr)} {bs : List Expr} (h : dlB ((k, u, w) :: r) as bs = true) : ∃ j p as' j1 p1 j2 p2 j3 p3 bs', as = some (.Constant (.str k) j p) :: as' ∧ bs = .Tuple [.Constant (.int u) j1 p1, .Constant (.int w) j2 p2] j3 p3 :: bs' ∧ r.lookup k = none ∧ dlB r as' bs' = true := by
  unfold dlB at h
  split at h
  case h_1 => exact nomatch ‹(k, u, w) :: r = []›
  case h_3 => cases h
  case h_2 e =>
    cases e
    simp only [Bool.and_eq_true, decide_eq_true_eq] at h
    obtain ⟨⟨⟨rfl, rfl, rfl⟩, hn⟩, h⟩ := h
    exact ⟨_, _, _, _, _, _, _, _, _, _, rfl, rfl, Option.isNone_iff_eq_none.mp hn, h⟩
theorem dl_pps {pos : Pos} : ∀ {ks : List (Str × Int × Int)} {as : List (Option Expr)} {bs : List Expr}, dlB ks as bs = true → PPs X pos as bs (dlT ks)
  | [], [], [], _ => pps_nil
  | (k, u, w) :: r, as, bs, h => by
    obtain ⟨_, _, _, _, _, _, _, _, _, _, rfl, rfl, _, h⟩ := dlB_cons h
    exact pps_cons pe_str (pe_tup (pa_cons pe_int (pa_cons pe_int pa_nil))) (dl_pps h)
  | [], _ :: _, bs, h => by simp [dlB] at h
  | [], [], _ :: _, h => by simp [dlB] at h
theorem dlB_len : ∀ {ks : List (Str × Int × Int)} {as : List (Option Expr)} {bs : List Expr}, dlB ks as bs = true → as.length = ks.length ∧ bs.length = ks.length ∧ as.all (·.isSome) = true
  | [], [], [], _ => ⟨rfl, rfl, rfl⟩
  | (k, u, w) :: r, as, bs, h => by
    obtain ⟨_, _, _, _, _, _, _, _, _, _, rfl, rfl, _, h⟩ := dlB_cons h
    obtain ⟨h1, h2, h3⟩ := dlB_len h
    exact ⟨by rw [List.length_cons, List.length_cons, h1], by rw [List.length_cons, List.length_cons, h2], by rw [List.all_cons, h3]; rfl⟩
  | [], _ :: _, bs, h => by simp [dlB] at h
  | [], [], _ :: _, h => by simp [dlB] at h
def DkL (K : PySem.W.Frag) (G : Hp) : List (Key × V) → List (Str × Int × Int) → Prop
  | [], [] => True
  | (k', v) :: r, (k, u, w) :: s => k' = .inr k ∧ Rep K G v (.tup [.int u, .int w]) ∧ DkL K G r s
  | _, _ => False
theorem DkL.mono {K : PySem.W.Frag} {G G' : Hp} : ∀ {kv : List (Key × V)} {ks : List (Str × Int × Int)}, DkL K G kv ks → Same G G' → DkL K G' kv ks
  | [], [], _, _ => trivial
  | (k', v) :: r, (k, u, w) :: s, h, g => ⟨h.1, h.2.1.mono g, h.2.2.mono g⟩
  | [], _ :: _, h, _ => False.elim h
  | _ :: _, [], h, _ => False.elim h
theorem DkL.at_ {K : PySem.W.Frag} {G : Hp} : ∀ {kv : List (Key × V)} {ks : List (Str × Int × Int)}, DkL K G kv ks → DkOk K G kv ks
  | [], [], _ => fun x => trivial
  | (k', v) :: r, (k, u, w) :: s, h => fun x => by
    obtain ⟨rfl, h1, h2⟩ := h
    by_cases e : k = x
    · subst e
      rw [valV_pos rfl, List.lookup_cons_self]
      exact h1
    · rw [valV_neg (fun z => e (by injection z)), List.lookup_cons, show (x == k) = false from beq_eq_false_iff_ne.mpr fun z => e z.symm]
      exact h2.at_ x
  | [], _ :: _, h => False.elim h
  | _ :: _, [], h => False.elim h
def NdK : List (Key × V) → Prop | [] => True | (k, _) :: r => valV r k = none ∧ NdK r
theorem DkL.nd {K : PySem.W.Frag} {G : Hp} : ∀ {kv : List (Key × V)} {ks : List (Str × Int × Int)} {as : List (Option Expr)} {bs : List Expr}, DkL K G kv ks → dlB ks as bs = true → NdK kv
  | [], [], _, _, _, _ => trivial
  | (k', v) :: r, (k, u, w) :: s, as, bs, h, hb => by
    obtain ⟨_, _, _, _, _, _, _, _, _, _, rfl, rfl, hn, hb⟩ := dlB_cons hb
    obtain ⟨rfl, h1, h2⟩ := h
    refine ⟨?_, h2.nd hb⟩
    have q := h2.at_ k
    rw [hn] at q
    cases e : valV r (.inr k) with
    | none => rfl
    | some z => rw [e] at q; exact False.elim q
  | [], _ :: _, _, _, h, _ => False.elim h
  | _ :: _, [], _, _, h, _ => False.elim h
theorem merge_val (j : Key) : ∀ (kv acc : List (Key × V)), NdK kv → valV (mergeK acc kv) j = (valV kv j).or (valV acc j)
  | [], acc, _ => rfl
  | (k, v) :: r, acc, h => by
    show valV (mergeK (putK acc k v) r) j = _
    rw [merge_val j r _ h.2, valV_put]
    by_cases e : j = k
    · subst e
      rw [h.1, if_pos rfl, valV_pos rfl]
      rfl
    · rw [if_neg e, valV_neg (fun z => e z.symm)]
theorem dl_walk {σ : L2.St} : ∀ (ks : List (Str × Int × Int)) {C : List (V × V) → Hp → Prop} {G1 H1 : Hp}, Bas X.K M G1 H1 → (∀ kv G2 H2, DkL X.K G2 kv ks → kv.length = ks.length → Stp X.K M G1 H1 M G2 H2 → C (kv.map fun kv => (kV kv.1, kv.2)) H2) → tPairs (dlT ks) σ H1 C
  | [], _, _, _, t, h => h [] _ _ trivial rfl (Stp.refl t)
  | (k, u, w) :: r, C, G1, H1, t, h => by
    show (2 : Nat) ≤ sizeLine ∧ ∀ q, H1 q = none → tPairs (dlT r) σ (upd H1 q (.tup [.int u, .int w])) fun ps H3 => C ((.str k, .ref q) :: ps) H3
    refine ⟨by rw [sizeLine_eq]; omega, fun q n => dl_walk r (Stp.newF t n (o := .tup [.int u, .int w])).bas fun kv G2 H2 d l t2 => ?_⟩
    refine h ((.inr k, .ref q) :: kv) G2 H2 ⟨rfl, ?_, d⟩ (by rw [List.length_cons, List.length_cons, l]) ((Stp.newF t n).trans t2)
    exact (Rep.tup (ds := [.int u, .int w]) (vs := [.int u, .int w]) upd_same (.cons (.int _) (.one (.int _)))).mono t2.gg
theorem Stp.ownK {K : PySem.W.Frag} {M0 M : Mem} {G0 G H0 H : Hp} (t : Stp K M0 G0 H0 M G H) {a : Addr} {o : HO} (g : G a = none) (m : M a = none) (n : H0 a = none) (hb : Bas K M G (upd H a o)) : Stp K M0 G0 H0 M G (upd H a o) :=
  ⟨t.gg, fun c u e q => by rw [upd_ne (ne_of_none e n)]; exact t.keep c u e q, t.ng, t.nm, t.mm, hb⟩
theorem Bas.ownK {K : PySem.W.Frag} {M : Mem} {G H : Hp} (b : Bas K M G H) {a : Addr} {o : HO} (g : G a = none) (m : M a = none) : Bas K M G (upd H a o) where
  sub := fun c u e => by rw [upd_ne (fun z => by rw [z, g] at e; cases e)]; exact b.sub c u e
  cells := fun c x e => by
    obtain ⟨h1, h2, h3⟩ := b.cells c x e
    have ne : c ≠ a := fun z => by rw [z, m] at e; cases e
    refine ⟨h1, by rw [upd_ne ne]; exact h2, h3.grow (Same.refl _) (fun d u q z => ?_) fun _ z => z⟩
    rcases z with rfl | z
    · rw [upd_ne ne]; exact q
    · rw [upd_ne (fun y => by rw [y, m] at z; cases z)]; exact q
theorem e_dlit {ks : List (Str × Int × Int)} {as : List (Option Expr)} {bs : List Expr} (h0 : as ≠ []) (hd : dlB ks as bs = true) (h15 : ks.length ≤ 15) : PE X (.Dict as bs pos) (tE EX W X.K (.ob (.dlit ks) .nil .nil)) := by
  obtain ⟨l1, l2, l3⟩ := dlB_len hd
  refine (pe_disp (dl_pps hd) l3 (by rw [l1, l2]) h0 (by omega)).imp fun σ H Q ⟨ρ, M, G, b', en, run⟩ => ?_
  have run : ∀ p, M p = none → kE X.K true false M G H Q (.cell p) (M.put p (.dct ks)) := run
  intro p n
  have t0 : Stp X.K M G H M G (upd H p (.dK [])) := Stp.new b' n
  refine dl_walk ks t0.bas fun kv G2 H2 d l tw => ?_
  have m := (b'.free n).2
  have e2 : H2 p = some (.dK []) := tw.keep p _ upd_same m
  refine ⟨e2, kv, rfl, by omega, ?_⟩
  have g2 : G2 p = none := by
    cases q : G2 p with
    | none => rfl
    | some u =>
      rcases tw.ng p (by rw [q]; simp) with z | z
      · exact absurd (b'.free n).1 z
      · rw [upd_same] at z; cases z
  have t3 := (t0.trans tw).ownK (o := .dK (mergeK [] kv)) g2 m n ((t0.trans tw).bas.ownK g2 m)
  refine run p m (.ref p) G2 _ (t3.newc upd_same g2 m n ⟨_, upd_same, fun x => ?_⟩) (.rep (.cell p) fun _ _ z => nomatch z)
  have q := merge_val (.inr x) kv [] (d.nd hd)
  rw [q, show valV ([] : List (Key × V)) (.inr x) = none from rfl, Option.or_none]
  exact d.at_ x
theorem dct_use {d : D} {v : V} {ks : List (Str × Int × Int)} {G2 H2 : Hp} {M2 : Mem} {v1 f1 : Bool} {Ha : Hp} (e : dctAt M2 d = some ks) (b : Bas X.K M2 G2 H2) (r : Res X.K v1 f1 Ha M2 G2 H2 v d) : ∃ p kv, v = .ref p ∧ H2 p = some (.dK kv) ∧ DkOk X.K G2 kv ks := by
  unfold dctAt at e
  split at e
  · rename_i p
    split at e
    · rename_i m
      cases e
      cases r.nolst (fun _ z => nomatch z)
      obtain ⟨_, _, kv, h1, h2⟩ := b.cells p _ m
      exact ⟨p, kv, rfl, h1, h2⟩
    · cases e
  · cases e
theorem noSl_of {y : Expr} (h : noSlB y = true) : NoSl y := by
  cases y <;> first | exact fun _ _ => rfl | (cases h; done) | skip
theorem e_dget (g : Good X W fn) (ho : ord y = true) (hs : noSlB y = true) (ha : PE X x (tE EX W X.K a)) (hb : PE X y (tE EX W X.K b)) : PE X (.Subscript x y pos) (tE EX W X.K (.ob .dget a b)) :=
  (pe_dget (by have := g.hu; omega) ha hb (noSl_of hs)).imp fun σ H Q ⟨ρ, M, G, b', en, q⟩ => two_of b' en (show (wp a ρ).run M (fun d M1 => (wp b ρ).run M1 (fun e M2 => (obP .dget d [e]).run M2 (kE X.K true false M G H Q) (exW EX W X.K M G σ H)) (exW EX W X.K M G σ H)) (exW EX W X.K M G σ H) from q) (fun _ _ z => z) fun d e M2 v u G2 H2 c t r1 r2 => by
    cases e <;> first | (exfalso; cases d <;> exact c; done) | skip
    rename_i k
    cases r2.nolst (fun _ z => nomatch z)
    obtain ⟨ks, e1, c1⟩ := opt_run (bo_run (show (PM.bind .get fun M => .bind (.opt (dctAt M d)) fun ks => .bind (.opt (ks.lookup k)) fun uv => .pure (.tup [.int uv.1, .int uv.2]) : PM D).run M2 _ _ from (by cases d <;> exact c)))
    obtain ⟨uv, e2, c2⟩ := opt_run (bo_run c1)
    obtain ⟨p, kv, rfl, h1, h2⟩ := dct_use e1 t.bas r1
    have q2 := h2 k
    rw [e2] at q2
    cases e3 : valV kv (.inr k) with
    | none => rw [e3] at q2; exact False.elim q2
    | some w =>
      rw [e3] at q2
      refine ⟨p, w, rfl, ?_, (show kE X.K true false M G H Q (.tup [.int uv.1, .int uv.2]) M2 from c2) w G2 H2 t (.rep q2 fun _ _ z => nomatch z)⟩
      rw [← e3]
      exact DGet.k (k := .inr k) h1
theorem dnin_use {d e : D} {v u : V} {C : D → Mem → Prop} {E0 : EK} {G2 H2 : Hp} {M2 : Mem} {v1 f1 v2 f2 : Bool} {Ha Hb : Hp} {Q : VK} (b : Bas X.K M2 G2 H2) (r1 : Res X.K v1 f1 Ha M2 G2 H2 v d) (r2 : Res X.K v2 f2 Hb M2 G2 H2 u e)
    (c : (obP .dnin d [e]).run M2 C E0) (fin : ∀ bb, C (.bl bb) M2 → Q (.bl bb) H2) : ∃ a o, u = .ref a ∧ DGet H2 a v o ∧ Q (.bl (!o.isSome)) H2 := by
  cases d <;> first | exact False.elim c | skip
  rename_i k
  cases r1.nolst (fun _ z => nomatch z)
  obtain ⟨ks, e1, c1⟩ := opt_run (bo_run (show (PM.bind .get fun M => .bind (.opt (dctAt M e)) fun ks => .pure (.bl (ks.lookup k).isNone) : PM D).run M2 _ _ from c))
  obtain ⟨p, kv, rfl, h1, h2⟩ := dct_use e1 b r2
  refine ⟨p, _, rfl, DGet.k (k := .inr k) h1, fin _ ?_⟩
  have q2 := h2 k
  have e4 : (!(valV kv (.inr k)).isSome) = (ks.lookup k).isNone := by
    cases e3 : valV kv (.inr k) with
    | none => rw [e3] at q2; cases e5 : ks.lookup k with
      | none => rfl
      | some z => rw [e5] at q2; exact False.elim q2
    | some w => rw [e3] at q2; cases e5 : ks.lookup k with
      | none => rw [e5] at q2; exact False.elim q2
      | some z => rfl
  rw [e4]
  exact c1
theorem e_dnin (g : Good X W fn) (ho : ord y = true) (ha : PE X x (tE EX W X.K a)) (hb : PE X y (tE EX W X.K b)) :
    PE X (.Compare x [.NotIn] [y] pos) (tE EX W X.K (.ob .dnin a b)) ∧ PT X (.Compare x [.NotIn] [y] pos) (tT EX W X.K (.ob .dnin a b)) := by
  have hu : X.A.units + 1 < cLine := by have := g.hu; omega
  constructor
  · refine (pe_cmp (pc_dnotin hu ha hb) (mark_of ho _)).imp fun σ H Q ⟨ρ, M, G, b', en, q⟩ => two_of b' en (show (wp a ρ).run M (fun d M1 => (wp b ρ).run M1 (fun e M2 => (obP .dnin d [e]).run M2 (kE X.K true false M G H Q) (exW EX W X.K M G σ H)) (exW EX W X.K M G σ H)) (exW EX W X.K M G σ H) from q) (fun _ _ z => z) fun d e M2 v u G2 H2 c t r1 r2 => ?_
    exact dnin_use t.bas r1 r2 c fun bb hq => hq _ G2 H2 t (.rep (.bl bb) fun _ _ z => nomatch z)
  · refine (pt_cmp (pc_dnotin hu ha hb) (mark_of ho _)).imp fun σ H Q ⟨ρ, M, G, b', en, q⟩ => two_of b' en (show (wp a ρ).run M (fun d M1 => (wp b ρ).run M1 (fun e M2 => (obP .dnin d [e]).run M2 (fun d M3 => (truP d).run M3 (kT X.K M G H Q) (exW EX W X.K M G σ H)) (exW EX W X.K M G σ H)) (exW EX W X.K M G σ H)) (exW EX W X.K M G σ H) from q) (fun _ _ z => z) fun d e M2 v u G2 H2 c t r1 r2 => ?_
    exact dnin_use (Q := fun x H1 => ∃ c, x = .bl c ∧ Q c H1) t.bas r1 r2 c fun bb hq => ⟨bb, rfl, hq.2 G2 H2 t⟩
/-! ### together -/
theorem ob_ok {o : Ob} {ys zs : List Expr} (g : Good X W fn) (ok : ObOk EX X.prog X.w X.K X.mg X.base X.A o) (h : obX X.env.scope o x = some (ys, zs)) (hA : obA o a = true) (hz : zs = [] → isL b = true → b = .nil) (ha0 : isL a = true → ys = [] → a = .nil) (hB : obB o b = true)
    (ha : isX a = true → ∀ e, ys = [e] → PE X e (tE EX W X.K a)) (hb : isL b = true → PA X zs (tA EX W X.K b)) (hb1 : isX b = true → ∀ e, zs = [e] → PE X e (tE EX W X.K b)) :
    PE X x (tE EX W X.K (.ob o a b)) ∧ (obT o = true → PT X x (tT EX W X.K (.ob o a b))) := by
  have fin : ∀ {e : Expr}, PE X e (tE EX W X.K (.ob o a b)) → (∀ whole, isTrue e X.env whole = (do let v ← whole; standAt e.pos; holding [v] (truthy v))) → PE X e (tE EX W X.K (.ob o a b)) ∧ (obT o = true → PT X e (tT EX W X.K (.ob o a b))) := fun q hp => ⟨q, fun _ => pt_of q hp⟩
  unfold obX at h
  split at h
  · split at h
    · rename_i hc
      cases h
      simp only [Bool.and_eq_true, decide_eq_true_eq] at hc
      obtain ⟨rfl, h1⟩ := hc
      cases hz rfl hB
      exact fin (e_attr h1 ok (ha hA _ rfl)) fun _ => rfl
    · cases h
  · split at h
    · rename_i hc
      cases h
      simp only [Bool.and_eq_true, decide_eq_true_eq] at hc
      obtain ⟨⟨⟨⟨rfl, h1⟩, h2⟩, h3⟩, h4⟩ := hc
      exact fin (e_meth g ok h1 h2 h4 h3 (fun q => hz q hB) (ha hA _ rfl) (hb hB)) fun _ => rfl
    · cases h
  · split at h
    · rename_i hc
      cases h
      simp only [Bool.and_eq_true, decide_eq_true_eq, List.all_cons] at hc
      obtain ⟨⟨⟨rfl, h1⟩, h2⟩, h3, h4⟩ := hc
      cases ha0 hA rfl
      unfold nmB at h1
      simp only [Bool.and_eq_true, Bool.not_eq_true'] at h1
      exact fin (e_make g ok h1.1 h2 h3 h4 (hb hB)) fun _ => rfl
    · cases h
  · cases h
    cases hz rfl hB
    have hA' : (isX a && vOk a && frOk a) = true := hA
    simp only [Bool.and_eq_true] at hA'
    exact ⟨e_newl hA'.1.2 hA'.2 (ha hA'.1.1 _ rfl), fun z => nomatch z⟩
  · split at h
    · rename_i hc
      cases h
      simp only [Bool.and_eq_true, decide_eq_true_eq] at hc
      obtain ⟨⟨rfl, h1⟩, h2⟩ := hc
      cases hz rfl hB
      exact fin (e_lenO g ok h1 h2 (ha hA _ rfl)) fun _ => rfl
    · cases h
  · split at h
    · rename_i hc
      cases h
      simp only [Bool.and_eq_true, decide_eq_true_eq] at hc
      obtain ⟨rfl, h1⟩ := hc
      have q := e_eqO (pos := by assumption) ok h1 (ha hA _ rfl) (hb1 hB _ rfl)
      exact ⟨q.1, fun _ => q.2⟩
    · cases h
  · split at h
    · rename_i hc
      cases h
      simp only [Bool.and_eq_true, decide_eq_true_eq, Bool.not_eq_true'] at hc
      obtain ⟨⟨h0, h1⟩, h2⟩ := hc
      cases hz rfl hB
      cases ha0 hA rfl
      exact ⟨e_dlit (by rintro rfl; cases h0) h1 h2, fun z => nomatch z⟩
    · cases h
  · split at h
    · rename_i hc
      cases h
      simp only [Bool.and_eq_true] at hc
      exact ⟨e_dget g hc.1 hc.2 (ha hA _ rfl) (hb1 hB _ rfl), fun z => nomatch z⟩
    · cases h
  · split at h
    · rename_i hc
      cases h
      have q := e_dnin (pos := by assumption) g hc (ha hA _ rfl) (hb1 hB _ rfl)
      exact ⟨q.1, fun _ => q.2⟩
    · cases h
  · split at h
    · rename_i hc
      cases h
      simp only [Bool.and_eq_true, decide_eq_true_eq] at hc
      obtain ⟨⟨⟨⟨⟨rfl, rfl⟩, h1⟩, h2⟩, h3⟩, h4⟩ := hc
      cases hz rfl hB
      exact fin (e_isk g ok h1 h2 h3 h4 (ha hA _ rfl)) fun _ => rfl
    · cases h
  · cases h
end
end PL
set_option Elab.async false
set_option linter.all false
set_option maxRecDepth 100000
set_option maxHeartbeats 1000000
namespace PL
open L2 PySem PyProof.Rows PySem.Spec

/-! ### comprehensions -/
section
variable {EX : Nat → Addr} {X : Cx} {W : WX} {fn : Str → Bool} {K : PySem.W.Frag} {ρ : Slots} {M M0 M1 : Mem} {G H G0 H0 G1 H1 : Hp} {σ : L2.St}
/-- an object that nothing else knows is written -/
theorem Bas.own (b : Bas K M G H) {a : Addr} {o : HO} (g : G a = none) (m : M a = none) : Bas K M G (upd H a o) where
  sub := fun c u e => by
    have ne : c ≠ a := fun z => by rw [z, g] at e; cases e
    rw [upd_ne ne]
    exact b.sub c u e
  cells := fun c x e => by
    obtain ⟨h1, h2, h3⟩ := b.cells c x e
    have ne : ∀ {d : Addr}, M d ≠ none → d ≠ a := fun h z => h (by rw [z, m])
    have nc : c ≠ a := ne (by rw [e]; simp)
    refine ⟨h1, by rw [upd_ne nc]; exact h2, h3.grow (Same.refl _) (fun d u q hd => ?_) fun _ z => z⟩
    rw [upd_ne (hd.elim (fun z => by rw [z]; exact nc) fun z => ne (by rw [z]; simp))]
    exact q
theorem Stp.own (t : Stp K M0 G0 H0 M G H) {a : Addr} {o : HO} (g : G a = none) (m : M a = none) (n : H0 a = none) : Stp K M0 G0 H0 M G (upd H a o) :=
  ⟨t.gg, fun c u e q => by rw [upd_ne (ne_of_none e n)]; exact t.keep c u e q, t.ng, t.nm, t.mm, t.bas.own g m⟩
abbrev noW : WX := fun _ _ _ _ => False
theorem good_blk (g : Good X W fn) (s : Shared) (H : Hp) (scope : Scope) (cenv : Env) (fp : List Addr) : Good (X.blk s H scope cenv fp) noW (fun x => scope.names.lookup x == some .cell) :=
  ⟨g.calm, g.nd, takes0, g.hu, g.nm, rfl⟩
/-- one turn -/
def stepP (tg : Tg) (ρ0 : Slots) (t elt : E) (x : D) : PM (Option D) := PM.noex (.bind (tgP tg x ρ0) fun ρ1 => .bind (wp t ρ1) fun d => .bind (truP d) fun b => if b then .bind (wp elt ρ1) fun y => .pure (some y) else .pure none)
theorem wp_comp {elt it t : E} {tg : Tg} {own : List Nat} : wp (.comp elt tg it t own) ρ = .bind (wp it ρ) fun u => .bind (tupP u) fun xs => .bind (.need (xs.length ≤ sizeLine)) fun _ => .bind (compGo (stepP tg (wipeS ρ own) t elt) xs []) fun ys => .pure (.lst ys) := rfl
theorem compGo_cons {f : D → PM (Option D)} {x : D} {xs acc : List D} {C : List D → Mem → Prop} {E0 : EK} (h : (compGo f (x :: xs) acc).run M C E0) : (f x).run M (fun o M' => (compGo f xs (match o with | some y => acc ++ [y] | none => acc)).run M' C E0) E0 := by
  refine (f x).mono (fun o M' q => ?_) (fun _ _ z => z) (bo_run h)
  cases o with
  | some y => exact q
  | none => exact q
theorem lc_of {elt it t : E} {tg : Tg} {own : List Nat} {scope : Scope} {ifs : List Expr} {own' : List (Str × Nat)} (eo : own'.map (·.2) = own)
    (hin : ∀ i ∈ tgNames tg, i ∈ own) (ht : (ifs = [] ∧ t = .bl true) ∨ ∃ c, ifs = [c] ∧ ∀ (s : Shared) (H : Hp) (C : Addr) (cl : List (Str × Addr)) (fp : List Addr), PT (X.blk s H scope (compEnvC scope cl C X.env) fp) c (tT EX noW X.K t)) (hv : vOk elt = true) :
    ∃ tt : TT, (∀ (s : Shared) (H : Hp) (C : Addr) (cl : List (Str × Addr)) (fp : List Addr), PTs (X.blk s H scope (compEnvC scope cl C X.env) fp) ifs tt) ∧ ∀ σ H Q, tE EX W X.K (.comp elt tg it t own) σ H Q → tLc (tI EX W X.K it) (gT X.K tg) tt (tE EX noW X.K elt) (own'.map (·.2)) σ H Q := by
  -- the tests, in one reading
  obtain ⟨tt, htt, htu⟩ : ∃ tt : TT, (∀ (s : Shared) (H : Hp) (C : Addr) (cl : List (Str × Addr)) (fp : List Addr), PTs (X.blk s H scope (compEnvC scope cl C X.env) fp) ifs tt) ∧
      ∀ {ρ : Slots} {M : Mem} {G : Hp} {σ : L2.St} {H : Hp} {C : Bool → Mem → Prop} {Q : Bool → Hp → Prop}, Bas X.K M G H → EnvOk X.K ρ M G σ H → (testP t ρ).run M C (fun _ _ => False) →
        (∀ b M' G' H', C b M' → Stp X.K M G H M' G' H' → EnvOk X.K ρ M' G' σ H' → Q b H') → tt σ H Q := by
    rcases ht with ⟨rfl, rfl⟩ | ⟨c, rfl, hc⟩
    · refine ⟨tYes, fun _ _ _ _ _ => pts_nil, fun {ρ M G σ H C Q} b en h hC => ?_⟩
      exact hC true M G H h.2 (.refl b) en
    · refine ⟨tT EX noW X.K t, fun s H C cl fp => pts_one (hc s H C cl fp), fun {ρ M G σ H C Q} b en h hC => ?_⟩
      exact tT_of b en h hC fun _ _ z => False.elim z
  refine ⟨tt, htt, fun σ H Q ⟨ρ, M, G, b, en, q⟩ => ?_⟩
  rw [wp_comp] at q
  rw [eo]
  refine ⟨ρ, M, G, b, en, (wp it ρ).mono (fun u M1 c ds J G1 H1 pins e t1 po wk D nD => ?_) (fun _ _ z => z) (bo_run q)⟩
  subst e
  obtain ⟨hlen, c⟩ := (show ds.length ≤ sizeLine ∧ (compGo (stepP tg (wipeS ρ own) t elt) ds []).run M1 (fun ys M' => kE X.K true true M G H Q (.lst ys) M') (exW EX W X.K M G σ H) from c)
  have fD := t1.bas.free nD
  refine ⟨fun i m Hc => ∃ M' G' accD accV, Stp X.K M1 G1 H1 M' G' Hc ∧ Hc D = some (.lst accV) ∧ G' D = none ∧ M' D = none ∧ Reps X.K G' accV accD ∧ accV.length ≤ i ∧ i ≤ ds.length ∧ m = ds.length - i ∧
      (compGo (stepP tg (wipeS ρ own) t elt) (ds.drop i) accD).run M' (fun ys M' => kE X.K true true M G H Q (.lst ys) M') (exW EX W X.K M G σ H),
    ⟨ds.length, M1, G1, [], [], Stp.new t1.bas nD, upd_same, fD.1, fD.2, .nil, Nat.zero_le _, Nat.zero_le _, rfl, c⟩, fun i m Hc hW => ?_⟩
  obtain ⟨M', G', accD, accV, t2, eD, gD, mD, rr, hl, hi', rfl, run⟩ := hW
  have wk' := wk G' Hc t2.gg t2.bas.sub fun p hp => by
    obtain ⟨h1, h2, h3⟩ := po p hp
    exact t2.keep _ _ h1 h2
  by_cases hlt : i < ds.length
  · have ed : ds[i]? = some ds[i] := List.getElem?_eq_getElem hlt
    obtain ⟨go, yl⟩ := wk'.1 i _ ed
    refine .inr ⟨go, fun Hn => ∃ M' G' accD accV, Stp X.K M1 G1 H1 M' G' Hn ∧ Hn D = some (.lst accV) ∧ G' D = none ∧ M' D = none ∧ Reps X.K G' accV accD ∧ accV.length ≤ i + 1 ∧ i + 1 ≤ ds.length ∧
      (compGo (stepP tg (wipeS ρ own) t elt) (ds.drop (i + 1)) accD).run M' (fun ys M' => kE X.K true true M G H Q (.lst ys) M') (exW EX W X.K M G σ H), fun Hn hN => ?_, fun xv H' hy => ?_⟩
    · obtain ⟨a1, a2, a3, a4, a5, a6, a7, a8, a9, a10, a11, a12⟩ := hN
      exact ⟨ds.length - (i + 1), by omega, a1, a2, a3, a4, a5, a6, a7, a8, a9, a10, a11, rfl, a12⟩
    · -- the item, kept
      obtain ⟨G'', t3, hD', gD', rx⟩ : ∃ G'', Stp X.K M' G' Hc M' G'' H' ∧ H' D = some (.lst accV) ∧ G'' D = none ∧ Rep X.K G'' xv ds[i] := by
        rcases yl xv H' hy with ⟨rfl, rp⟩ | ⟨T, vs, es, rfl, nT, rfl, e2, rs⟩
        · exact ⟨G', .refl t2.bas, eD, gD, rp⟩
        · have ne : D ≠ T := fun z => by rw [z, nT] at eD; cases eD
          refine ⟨_, Stp.newF t2.bas nT, by rw [upd_ne ne]; exact eD, by rw [upd_ne ne]; exact gD, ?_⟩
          rw [e2]
          exact .tup upd_same (rs.mono (Same.upd (t2.bas.free nT).1))
      rw [List.drop_eq_getElem_cons hlt] at run
      have run1 := compGo_cons run
      have t23 := t2.trans t3
      have en' := ((en.step (t1.trans t23)).wiped own)
      refine tg_use (show (tgP tg ds[i] (wipeS ρ own)).run M' _ _ from run1) t3.bas en' rx fun ρ1 σ2 c1 en1 hw => ?_
      refine ⟨by rw [hw own hin, wipe_idem], ?_⟩
      refine htu t3.bas en1 (show (testP t ρ1).run M' _ _ from c1) fun bb M4 G4 H4 c4 t4 en4 => ?_
      have k4 : H4 D = some (.lst accV) ∧ G4 D = none ∧ M4 D = none := by
        obtain ⟨a, vs, z1, z2, z3, z4, z5⟩ := SlOk.step (s := .own accD) (o := some (some (.ref D))) ⟨D, accV, rfl, hD', gD', mD, rr.mono t3.gg⟩ t4
        cases z1
        have z6 := t4.keep _ _ hD' mD
        exact ⟨z6, z3, z4⟩
      cases bb with
      | false =>
        refine iteF ?_
        exact ⟨M4, G4, accD, accV, t23.trans t4, k4.1, k4.2.1, k4.2.2, (rr.mono t3.gg).mono t4.gg, by omega, by omega, c4⟩
      | true =>
        refine iteT ?_
        refine tE_val hv t4.bas en4 (show (wp elt ρ1).run M4 _ _ from c4) (fun dy M5 yv G5 H5 c5 t5 en5 ry => ?_) fun _ _ z => False.elim z
        have k5 : H5 D = some (.lst accV) ∧ G5 D = none ∧ M5 D = none := by
          obtain ⟨a, vs, z1, z2, z3, z4, z5⟩ := SlOk.step (s := .own accD) (o := some (some (.ref D))) ⟨D, accV, rfl, k4.1, k4.2.1, k4.2.2, (rr.mono t3.gg).mono t4.gg⟩ t5
          cases z1
          exact ⟨t5.keep _ _ k4.1 k4.2.2, z3, z4⟩
        have r5 : Reps X.K G5 accV accD := ((rr.mono t3.gg).mono t4.gg).mono t5.gg
        refine ⟨accV, k5.1, by omega, M5, G5, accD ++ [dy], accV ++ [yv], ((t23.trans t4).trans t5).own k5.2.1 k5.2.2 nD, upd_same, k5.2.1, k5.2.2, r5.append (.one ry), ?_, by omega, c5⟩
        rw [List.length_append]
        show accV.length + 1 ≤ i + 1
        omega
  · have ei : i = ds.length := by omega
    subst ei
    refine .inl ⟨wk'.2, ?_⟩
    rw [List.drop_length] at run
    exact (show kE X.K true true M G H Q (.lst accD) M' from run) _ G' Hc (t1.trans t2) (.inr ⟨D, accV, accD, rfl, rfl, eD, gD, mD, rr, fun _ => t1.old nD⟩)
theorem e_comp {elt it t : E} {tg : Tg} {own : List Nat} {scope : Scope} {pos : Pos} {x tx ix : Expr} {ifs : List Expr} {own' : List (Str × Nat)} (g : Good X W fn) (hi : PI X tx ix (tI EX W X.K it)) (ho : ord ix = true) (ok : BlkOk X.N X.env.scope scope own') (eo : own'.map (·.2) = own)
    (hin : ∀ i ∈ tgNames tg, i ∈ own) (hg : ∀ (s : Shared) (H : Hp) (C : Addr) (cl : List (Str × Addr)) (fp : List Addr), PG (X.blk s H scope (compEnvC scope cl C X.env) fp) tx (gT X.K tg))
    (ht : (ifs = [] ∧ t = .bl true) ∨ ∃ c, ifs = [c] ∧ ∀ (s : Shared) (H : Hp) (C : Addr) (cl : List (Str × Addr)) (fp : List Addr), PT (X.blk s H scope (compEnvC scope cl C X.env) fp) c (tT EX noW X.K t)) (hv : vOk elt = true)
    (he : ∀ (s : Shared) (H : Hp) (C : Addr) (cl : List (Str × Addr)) (fp : List Addr), PE (X.blk s H scope (compEnvC scope cl C X.env) fp) x (tE EX noW X.K elt)) :
    PE X (.ListComp x [⟨tx, ix, ifs, 0⟩] scope pos) (tE EX W X.K (.comp elt tg it t own)) := by
  have hs : ∀ u, foldedSetIterable ix X.env u = pure u := fun u => by cases ix <;> first | rfl | cases ho
  obtain ⟨tt, htt, hq⟩ := lc_of (W := W) (it := it) (elt := elt) eo hin ht hv
  exact (pe_lc g.calm g.nd hi ok hg htt he hs).imp hq
end

/-! ### everything -/
def SndX (EX : Nat → Addr) (X : Cx) (W : WX) (p : E) (es : List Expr) : Prop :=
  (isL p = true → PA X es (tA EX W X.K p) ∧ es.all ord = true) ∧ (isX p = true → ∀ e, es = [e] → PE X e (tE EX W X.K p) ∧ (tst p = true → PT X e (tT EX W X.K p))) ∧
    (isI p = true → ∀ e, es = [e] → ∀ tg, (needsTup p = true → isTupX tg = true) → PI X tg e (tI EX W X.K p))
section
variable {EX : Nat → Addr} {X : Cx} {W : WX} {p : E} {e : Expr}
theorem SndX.mk (hl : isL p = false) (hi : isI p = false) (h : PE X e (tE EX W X.K p)) (ht : tst p = true → PT X e (tT EX W X.K p)) : SndX EX X W p [e] :=
  ⟨(fun z => by rw [hl] at z; cases z), (fun _ e' q => by cases q; exact ⟨h, ht⟩), (fun z => by rw [hi] at z; cases z)⟩
theorem SndX.plain (hl : isL p = false) (hi : isI p = false) (h : PE X e (tE EX W X.K p)) (hp : ∀ whole, isTrue e X.env whole = (do let v ← whole; standAt e.pos; holding [v] (truthy v))) : SndX EX X W p [e] :=
  .mk hl hi h fun _ => pt_of h hp
theorem SndX.it (hi : isI p = true) (hl : isL p = false) (hx : isX p = false) (h : ∀ tg, (needsTup p = true → isTupX tg = true) → PI X tg e (tI EX W X.K p)) : SndX EX X W p [e] :=
  ⟨(fun z => by rw [hl] at z; cases z), (fun z => by rw [hx] at z; cases z), (fun _ e' q tg ht => by cases q; exact h tg ht)⟩
end
def isYes : E → Bool | .bl true => true | _ => false
def tstB (f : List Expr → Bool) (t : E) : List Expr → Bool | [] => isYes t | [c] => isX t && tst t && f [c] | _ => false
theorem chk_comp {N : List Str} {elt it t : E} {tg : Tg} {own : List Nat} {sc : Scope} {fn : Str → Bool} {x : Expr} {gs : List Comprehension} {scope : Scope} {pos : Pos} (h : chk N (.comp elt tg it t own) sc fn [.ListComp x gs scope pos] = true) :
    ∃ tx ix ifs, gs = [⟨tx, ix, ifs, 0⟩] ∧ (isI it && ord ix && (!needsTup it || isTupX tx) && chk N it sc fn [ix] && blkC N sc scope (ownNames N own) && decide ((ownNames N own).map (·.2) = own) && ((tgNames tg).all fun i => own.contains i) &&
      chkTg N (relS scope sc) (fun x => scope.names.lookup x == some .cell) tg tx &&
      tstB (chk N t (relS scope sc) (fun x => scope.names.lookup x == some .cell)) t ifs &&
      (isX elt && vOk elt && chk N elt (relS scope sc) (fun x => scope.names.lookup x == some .cell) [x])) = true := by
  rcases gs with _ | ⟨⟨tx, ix, ifs, n⟩, _ | ⟨g2, gs⟩⟩
  · exact Bool.noConfusion (show false = true from h)
  · rcases n with (_ | n) | n
    · exact ⟨tx, ix, ifs, rfl, h⟩
    · exact Bool.noConfusion (show false = true from h)
    · exact Bool.noConfusion (show false = true from h)
  · rcases n with (_ | n) | n
    · exact Bool.noConfusion (show false = true from h)
    · exact Bool.noConfusion (show false = true from h)
    · exact Bool.noConfusion (show false = true from h)
theorem nil_of {N : List Str} {b : E} {sc : Scope} {fn : Str → Bool} (h : isL b = true) (c : chk N b sc fn [] = true) : b = .nil := by
  cases b <;> first | rfl | (exact Bool.noConfusion h) | (rw [chk.eq_def] at c; exact Bool.noConfusion c)
theorem tst_ob {o : Ob} {a b : E} (h : tst (.ob o a b) = true) : obT o = true := by
  cases o <;> first | rfl | exact h
theorem snd (EX : Nat → Addr) (N : List Str) (p : E) (sc : Scope) (fn : Str → Bool) (es : List Expr) :
    ∀ (X : Cx) (W : WX), X.N = N → X.env.scope = sc → Good X W fn → CallsX EX X p → chk N p sc fn es = true → SndX EX X W p es := by
  induction p, sc, fn, es using chk.induct with
  | case1 i sc fn n pos =>
    rintro X W rfl rfl g co h
    exact .plain rfl rfl (e_var h) fun _ => rfl
  | case2 i sc fn n pos =>
    rintro X W rfl rfl g co h
    exact .plain rfl rfl (e_brw h) fun _ => rfl
  | case3 i sc fn j k pos =>
    rintro X W rfl rfl g co h
    obtain rfl : i = j := of_decide_eq_true h
    exact .plain rfl rfl (e_lit (fun _ => rfl) rfl (fun _ => .int i) pe_int) fun _ => rfl
  | case4 i sc fn j k pos =>
    rintro X W rfl rfl g co h
    obtain rfl : i = j := of_decide_eq_true h
    exact .plain rfl rfl (e_lit (fun _ => rfl) rfl (fun _ => .bl i) pe_bl) fun _ => rfl
  | case5 i sc fn j k pos =>
    rintro X W rfl rfl g co h
    obtain rfl : i = j := of_decide_eq_true h
    exact .plain rfl rfl (e_lit (fun _ => rfl) rfl (fun _ => .str i) pe_str) fun _ => rfl
  | case6 sc fn k pos =>
    rintro X W rfl rfl g co h
    exact .plain rfl rfl (e_lit (fun _ => rfl) rfl (fun _ => .non) pe_non) fun _ => rfl
  | case7 sc fn =>
    rintro X W rfl rfl g co h
    exact ⟨fun _ => ⟨a_nil, rfl⟩, (fun z => nomatch z), (fun z => nomatch z)⟩
  | case8 e es sc fn x xs ih1 ih2 =>
    rintro X W rfl rfl g co h
    simp only [chk, Bool.and_eq_true] at h
    obtain ⟨⟨⟨⟨h1, h2⟩, h3⟩, h4⟩, h5, h6⟩ := h
    obtain ⟨q1, q2⟩ := (ih2 X W rfl rfl g co.2 h6).1 h5
    exact ⟨fun _ => ⟨a_cons h2 h3 ((ih1 X W rfl rfl g co.1 h4).2.1 h1 x rfl).1 q1, by rw [List.all_cons, h3, q2]; rfl⟩, (fun z => nomatch z), (fun z => nomatch z)⟩
  | case9 es sc fn xs k pos ih =>
    rintro X W rfl rfl g co h
    simp only [chk, Bool.and_eq_true] at h
    exact .plain rfl rfl (e_tup ((ih X W rfl rfl g co h.2).1 h.1).1) fun _ => rfl
  | case10 es sc fn xs pos ih =>
    rintro X W rfl rfl g co h
    simp only [chk, Bool.and_eq_true] at h
    exact .plain rfl rfl (e_lst ((ih X W rfl rfl g co h.2).1 h.1).1) fun _ => rfl
  | case11 a sc fn op x pos ih =>
    rintro X W rfl rfl g co h
    simp only [chk, Bool.and_eq_true, decide_eq_true_eq] at h
    obtain ⟨⟨rfl, h1⟩, h2⟩ := h
    exact .plain rfl rfl (e_neg ((ih X W rfl rfl g co h2).2.1 h1 x rfl).1) fun _ => rfl
  | case12 o a b sc fn x op y pos ih1 ih2 =>
    rintro X W rfl rfl g co h
    simp only [chk, Bool.and_eq_true, decide_eq_true_eq] at h
    obtain ⟨⟨rfl, h1, h2⟩, h3, h4⟩ := h
    exact .plain rfl rfl (e_bin ((ih1 X W rfl rfl g co.1 h2).2.1 h1 x rfl).1 ((ih2 X W rfl rfl g co.2 h4).2.1 h3 y rfl).1) fun _ => rfl
  | case13 o a b sc fn x op y pos ih1 ih2 =>
    rintro X W rfl rfl g co h
    simp only [chk, Bool.and_eq_true, decide_eq_true_eq] at h
    obtain ⟨⟨⟨rfl, h0⟩, h1, h2⟩, h3, h4⟩ := h
    have q := e_cmp (o := o) (pos := pos) g.hu h0 ((ih1 X W rfl rfl g co.1 h2).2.1 h1 x rfl).1 ((ih2 X W rfl rfl g co.2 h4).2.1 h3 y rfl).1
    exact .mk rfl rfl q.1 fun _ => q.2
  | case14 o o' a b c sc fn x op op' y z pos ih1 ih2 ih3 =>
    rintro X W rfl rfl g co h
    simp only [chk, Bool.and_eq_true, decide_eq_true_eq] at h
    obtain ⟨⟨⟨⟨⟨rfl, rfl⟩, h0⟩, h1, h2⟩, h3, h4⟩, h5, h6⟩ := h
    have q := e_chain (o := o) (o' := o') (pos := pos) g.hu h0 ((ih1 X W rfl rfl g co.1 h2).2.1 h1 x rfl).1 ((ih2 X W rfl rfl g co.2.1 h4).2.1 h3 y rfl).1 ((ih3 X W rfl rfl g co.2.2 h6).2.1 h5 z rfl).1
    exact .mk rfl rfl q.1 fun _ => q.2
  | case15 a sc fn x op k pos pos' ih =>
    rintro X W rfl rfl g co h
    simp only [chk, Bool.and_eq_true, decide_eq_true_eq] at h
    obtain ⟨⟨rfl, h1⟩, h2⟩ := h
    have q := e_isN (j := k) (p2 := pos) (pos := pos') ((ih X W rfl rfl g co h2).2.1 h1 x rfl).1
    exact .mk rfl rfl q.1 fun _ => q.2
  | case16 a sc fn x op k pos pos' ih =>
    rintro X W rfl rfl g co h
    simp only [chk, Bool.and_eq_true, decide_eq_true_eq] at h
    obtain ⟨⟨rfl, h1⟩, h2⟩ := h
    have q := e_notN (j := k) (p2 := pos) (pos := pos') ((ih X W rfl rfl g co h2).2.1 h1 x rfl).1
    exact .mk rfl rfl q.1 fun _ => q.2
  | case17 a b sc fn op x y r pos ih1 ih2 =>
    rintro X W rfl rfl g co h
    simp only [chk, Bool.and_eq_true, decide_eq_true_eq] at h
    obtain ⟨⟨rfl, h1, h2⟩, h3, h4⟩ := h
    have q1 := (ih1 X W rfl rfl g co.1 h2).2.1 h1 x rfl
    have q2 := (ih2 X W rfl rfl g co.2 h4).2.1 h3 _ rfl
    exact .mk rfl rfl (e_and q1.1 q2.1) fun z => t_and (q1.2 (Bool.and_eq_true_iff.mp z).1) (q2.2 (Bool.and_eq_true_iff.mp z).2)
  | case18 a b sc fn op x y r pos ih1 ih2 =>
    rintro X W rfl rfl g co h
    simp only [chk, Bool.and_eq_true, decide_eq_true_eq] at h
    obtain ⟨⟨rfl, h1, h2⟩, h3, h4⟩ := h
    have q1 := (ih1 X W rfl rfl g co.1 h2).2.1 h1 x rfl
    have q2 := (ih2 X W rfl rfl g co.2 h4).2.1 h3 _ rfl
    exact .mk rfl rfl (e_or q1.1 q2.1) fun z => t_or (q1.2 (Bool.and_eq_true_iff.mp z).1) (q2.2 (Bool.and_eq_true_iff.mp z).2)
  | case19 a sc fn op x pos ih =>
    rintro X W rfl rfl g co h
    simp only [chk, Bool.and_eq_true, decide_eq_true_eq] at h
    obtain ⟨⟨rfl, h1⟩, h2⟩ := h
    have q := (ih X W rfl rfl g co h2).2.1 h1 x rfl
    exact .mk rfl rfl (e_not q.1) fun z => t_not (q.2 z)
  | case20 c a b sc fn t x y pos ih1 ih2 ih3 =>
    rintro X W rfl rfl g co h
    simp only [chk, Bool.and_eq_true, decide_eq_true_eq] at h
    obtain ⟨⟨⟨⟨h0, h1⟩, h2⟩, h3, h4⟩, h5, h6⟩ := h
    exact .mk rfl rfl (e_ite (((ih1 X W rfl rfl g co.1 h2).2.1 h0 t rfl).2 h1) ((ih2 X W rfl rfl g co.2.1 h4).2.1 h3 x rfl).1 ((ih3 X W rfl rfl g co.2.2 h6).2.1 h5 y rfl).1) fun z => nomatch z
  | case21 f F es sc fn x pos y ys pos' ih =>
    rintro X W rfl rfl g co h
    simp only [chk, Bool.and_eq_true, decide_eq_true_eq] at h
    obtain ⟨⟨⟨⟨rfl, h1⟩, h2⟩, h3⟩, h4⟩ := h
    unfold nmB at h1
    simp only [Bool.and_eq_true, Bool.not_eq_true'] at h1
    obtain ⟨q1, q2⟩ := (ih X W rfl rfl g co.2 h4).1 h3
    rw [List.all_cons, Bool.and_eq_true] at q2
    exact .plain rfl rfl (e_call g co.1 h1.1 h2 q2.1 q2.2 q1) fun _ => rfl
  | case22 a t sc fn x pos y z pos' pos2 ih =>
    rintro X W rfl rfl g co h
    simp only [chk, Bool.and_eq_true, decide_eq_true_eq] at h
    obtain ⟨⟨⟨⟨⟨⟨rfl, h1⟩, h2⟩, h3⟩, h4⟩, h5⟩, h6⟩ := h
    exact .plain rfl rfl (e_isi g h1 h2 h3 h4 ((ih X W rfl rfl g co h6).2.1 h5 y rfl).1) fun _ => rfl
  | case23 o a sc fn x pos y pos' ih =>
    rintro X W rfl rfl g co h
    simp only [chk, Bool.and_eq_true, decide_eq_true_eq] at h
    obtain ⟨⟨⟨⟨⟨h0, rfl⟩, h1⟩, h2⟩, h3⟩, h4⟩ := h
    exact .plain rfl rfl (e_b1 g h0 h1 h2 ((ih X W rfl rfl g co h4).2.1 h3 y rfl).1) fun _ => rfl
  | case24 o a b sc fn x pos y z pos' ih1 ih2 =>
    rintro X W rfl rfl g co h
    simp only [chk, Bool.and_eq_true, decide_eq_true_eq] at h
    obtain ⟨⟨⟨⟨⟨rfl, h1⟩, h2⟩, h3⟩, h4, h5⟩, h6, h7⟩ := h
    exact .plain rfl rfl (e_b2 g h1 h2 h3 ((ih1 X W rfl rfl g co.1 h5).2.1 h4 y rfl).1 ((ih2 X W rfl rfl g co.2 h7).2.1 h6 z rfl).1) fun _ => rfl
  | case25 a i sc fn x y pos ih1 ih2 =>
    rintro X W rfl rfl g co h
    simp only [chk, Bool.and_eq_true, decide_eq_true_eq] at h
    obtain ⟨⟨h1, h2, h3⟩, h4, h5⟩ := h
    exact .plain rfl rfl (e_ix h1 ((ih1 X W rfl rfl g co.1 h3).2.1 h2 x rfl).1 ((ih2 X W rfl rfl g co.2 h5).2.1 h4 y rfl).1) fun _ => rfl
  | case26 bl bh a lo hi sc fn x l h' pos pos' ih1 ih2 ih3 =>
    rintro X W rfl rfl g co h
    simp only [chk, Bool.and_eq_true, decide_eq_true_eq] at h
    obtain ⟨⟨⟨h1, h2⟩, h3⟩, h4⟩ := h
    have po1 : PO X l (tO EX W X.K bl lo) := by
      split at h3
      · exact po_nil
      · rw [Bool.and_eq_true] at h3
        exact po_of ((ih2 _ X W rfl rfl g co.2.1 h3.2).2.1 h3.1 _ rfl).1
      · cases h3
    have po2 : PO X h' (tO EX W X.K bh hi) := by
      split at h4
      · exact po_nil
      · rw [Bool.and_eq_true] at h4
        exact po_of ((ih3 _ X W rfl rfl g co.2.2 h4.2).2.1 h4.1 _ rfl).1
      · cases h4
    exact .plain rfl rfl (e_cut ((ih1 X W rfl rfl g co.1 h2).2.1 h1 x rfl).1 po1 po2) fun _ => rfl
  | case27 a sc fn x ih =>
    rintro X W rfl rfl g co h
    simp only [chk, Bool.and_eq_true, decide_eq_true_eq] at h
    exact .it rfl rfl rfl fun tg _ => i_seq ((ih X W rfl rfl g co h.2).2.1 h.1.1 x rfl).1 tg
  | case28 a sc fn z pos y pos' ih =>
    rintro X W rfl rfl g co h
    simp only [chk, Bool.and_eq_true, decide_eq_true_eq] at h
    obtain ⟨⟨⟨⟨rfl, h1⟩, h2⟩, h3⟩, h4⟩ := h
    exact .it rfl rfl rfl fun tg _ => i_range1 g h1 h2 ((ih X W rfl rfl g co h4).2.1 h3 y rfl).1 tg
  | case29 a sc fn z pos y pos' ih =>
    rintro X W rfl rfl g co h
    simp only [chk, Bool.and_eq_true, decide_eq_true_eq] at h
    obtain ⟨⟨⟨⟨rfl, h1⟩, h2⟩, h3⟩, h4⟩ := h
    exact .it rfl rfl rfl fun tg ht => i_enum g h1 h2 ((ih X W rfl rfl g co h4).2.1 h3 y rfl).1 (ht rfl)
  | case30 k a sc fn x n1 n2 n3 =>
    rintro X W rfl rfl g co h
    exfalso
    simp only [chk] at h
    cases h
  | case31 k a b sc fn z pos x y pos' ih1 ih2 =>
    rintro X W rfl rfl g co h
    simp only [chk, Bool.and_eq_true, decide_eq_true_eq] at h
    obtain ⟨⟨⟨⟨⟨h0, h1⟩, h2⟩, h3⟩, h4, h5⟩, h6, h7⟩ := h
    have q1 := ((ih1 X W rfl rfl g co.1 h5).2.1 h4 x rfl).1
    have q2 := ((ih2 X W rfl rfl g co.2 h7).2.1 h6 y rfl).1
    cases k with
    | range =>
      obtain rfl : z = "range" := of_decide_eq_true h0
      exact .it rfl rfl rfl fun tg _ => i_range2 g h1 h2 h3 q1 q2 tg
    | zip =>
      obtain rfl : z = "zip" := of_decide_eq_true h0
      exact .it rfl rfl rfl fun tg ht => i_zip g h1 h2 h3 q1 q2 (ht rfl)
  | case32 a b c sc fn z pos x y u pos' ih1 ih2 ih3 =>
    rintro X W rfl rfl g co h
    simp only [chk, Bool.and_eq_true, decide_eq_true_eq] at h
    obtain ⟨⟨⟨⟨⟨⟨⟨rfl, h1⟩, h2⟩, h3⟩, h4⟩, h5, h6⟩, h7, h8⟩, h9, h10⟩ := h
    exact .it rfl rfl rfl fun tg _ => i_range3 g h1 h2 h3 h4 ((ih1 X W rfl rfl g co.1 h6).2.1 h5 x rfl).1 ((ih2 X W rfl rfl g co.2.1 h8).2.1 h7 y rfl).1 ((ih3 X W rfl rfl g co.2.2 h10).2.1 h9 u rfl).1 tg
  | case33 elt tg it t own sc fn x tx ix ifs scope pos ih1 ih2 ih3 =>
    rintro X W rfl rfl g co h
    rw [chk.eq_def] at h
    simp only [Bool.and_eq_true, decide_eq_true_eq, List.all_eq_true, Bool.or_eq_true, Bool.not_eq_true'] at h
    obtain ⟨⟨⟨⟨⟨⟨⟨⟨⟨h1, h2⟩, h3⟩, h4⟩, h5⟩, h6⟩, h7⟩, h8⟩, h9⟩, ⟨h10, h11⟩, h12⟩ := h
    have pi := (ih1 X W rfl rfl g co.2.1 h4).2.2 h1 ix rfl tx fun z => by
      rcases h3 with q | q
      · rw [q] at z; cases z
      · exact q
    refine .plain rfl rfl (e_comp g pi h2 (blkOk_by h5) h6 (fun i hi => by simpa using h7 i hi) (fun s H C cl fp => ?_) ?_ h11 fun s H C cl fp => ?_) fun _ => rfl
    · exact pg_tg (X := X.blk s H scope (compEnvC scope cl C X.env) fp) g.calm g.nd rfl h8
    · split at h9
      · refine .inl ⟨rfl, ?_⟩
        split at h9
        · rfl
        · cases h9
      · rename_i c
        rw [Bool.and_eq_true, Bool.and_eq_true] at h9
        exact .inr ⟨c, rfl, fun s H C cl fp => ((ih2 c (X.blk s H scope (compEnvC scope cl C X.env) fp) noW rfl rfl (good_blk g s H scope _ fp) co.2.2 h9.2).2.1 h9.1.1 c rfl).2 h9.1.2⟩
      · cases h9
    · exact ((ih3 (X.blk s H scope (compEnvC scope cl C X.env) fp) noW rfl rfl (good_blk g s H scope _ fp) co.1 h12).2.1 h10 x rfl).1
  | case34 o a sc fn x y e ih =>
    rintro X W rfl rfl g co h
    rw [chk.eq_def] at h
    simp only [e, Bool.and_eq_true] at h
    have q := sp1_ok g e ((ih X W rfl rfl g co h.2).2.1 h.1 y rfl).1
    exact .plain rfl rfl q.1 q.2
  | case35 o a sc fn x e =>
    rintro X W rfl rfl g co h
    rw [chk.eq_def] at h
    simp only [e] at h
    cases h
  | case36 o a b sc fn x y z e ih1 ih2 =>
    rintro X W rfl rfl g co h
    rw [chk.eq_def] at h
    simp only [e, Bool.and_eq_true] at h
    have q := sp2_ok g e ((ih1 X W rfl rfl g co.1 h.1.2).2.1 h.1.1 y rfl).1 ((ih2 X W rfl rfl g co.2 h.2.2).2.1 h.2.1 z rfl).1
    exact .plain rfl rfl q.1 q.2
  | case37 o a b sc fn x e =>
    rintro X W rfl rfl g co h
    rw [chk.eq_def] at h
    simp only [e] at h
    cases h
  | case38 o a b c sc fn x y z u e ih1 ih2 ih3 =>
    rintro X W rfl rfl g co h
    cases e
  | case39 o a b c sc fn x e =>
    rintro X W rfl rfl g co h
    rw [chk.eq_def] at h
    simp only [e] at h
    cases h
  | case40 o a b sc fn x ys zs e ih1 ih2 =>
    rintro X W rfl rfl g co h
    rw [chk.eq_def] at h
    simp only [e, Bool.and_eq_true] at h
    have q1 := ih1 X W rfl rfl g co.2.1 h.1.2
    have q2 := ih2 X W rfl rfl g co.2.2 h.2.2
    have q := ob_ok g co.1 e h.1.1 (fun hz hb => nil_of hb (hz ▸ h.2.2)) (fun hb hz => nil_of hb (hz ▸ h.1.2)) h.2.1 (fun hx u hu => (q1.2.1 hx u hu).1) (fun hl => (q2.1 hl).1) (fun hx u hu => (q2.2.1 hx u hu).1)
    exact .mk rfl rfl q.1 fun z => q.2 (tst_ob z)
  | case41 o a b sc fn x e =>
    rintro X W rfl rfl g co h
    rw [chk.eq_def] at h
    simp only [e] at h
    cases h
  | case42 i a sc fn f as ks p ih =>
    rintro X W rfl rfl g co h
    rw [chk.eq_def] at h
    simp only [Bool.and_eq_true] at h
    exact .plain rfl rfl (e_lend ((ih X W rfl rfl g co h.2).2.1 h.1 _ rfl).1) fun _ => rfl
  | case43 =>
    rintro X W rfl rfl g co h
    exfalso
    rw [chk.eq_def] at h
    split at h
    all_goals first | (cases h; done) | (exfalso; solve_by_elim)
end PL
set_option Elab.async false
set_option linter.all false
set_option maxRecDepth 100000
set_option maxHeartbeats 1000000
namespace PL
open L2 PySem PyProof.Rows PySem.Spec

/-! ## statements: what stays true of the slots -/
/-- the lists that the slots own came after H0 -/
def OwnNew (H0 : Hp) (ρ : Slots) (σ : L2.St) : Prop := ∀ (i : Nat) (xs : List D) (a : Addr), ρ[i]? = some (.own xs) → σ[i]? = some (some (.ref a)) → H0 a = none
section
variable {K : PySem.W.Frag} {ρ : Slots} {M M0 M1 M' : Mem} {G G0 G1 G' H H0 H1 H' : Hp} {σ : L2.St}
theorem set_at {α : Type} {l : List α} {i j : Nat} {x y : α} (e : (l.set i x)[j]? = some y) : (i = j ∧ y = x) ∨ (i ≠ j ∧ l[j]? = some y) := by
  rw [List.getElem?_set] at e
  by_cases h : i = j
  · rw [if_pos h] at e
    by_cases hl : i < l.length
    · rw [if_pos hl] at e; cases e; exact .inl ⟨h, rfl⟩
    · rw [if_neg hl] at e; cases e
  · rw [if_neg h] at e
    exact .inr ⟨h, e⟩
theorem OwnNew.set (h : OwnNew H0 ρ σ) (i : Nat) (d : D) (v : V) : OwnNew H0 (ρ.set i (.val d)) (σ.set i (some v)) := fun j xs a e1 e2 => by
  rcases set_at e1 with ⟨_, z⟩ | ⟨n, e⟩
  · cases z
  · rcases set_at e2 with ⟨z, _⟩ | ⟨_, e'⟩
    · exact absurd z n
    · exact h j xs a e e'
theorem OwnNew.setOwn (h : OwnNew H0 ρ σ) (i : Nat) (ys : List D) {b : Addr} (n : H0 b = none) : OwnNew H0 (ρ.set i (.own ys)) (σ.set i (some (.ref b))) := fun j xs a e1 e2 => by
  rcases set_at e2 with ⟨_, z⟩ | ⟨m, e'⟩
  · cases z; exact n
  · rcases set_at e1 with ⟨z, _⟩ | ⟨_, e⟩
    · exact absurd z m
    · exact h j xs a e e'
/-- the same list, longer or otherwise written -/
theorem OwnNew.same (h : OwnNew H0 ρ σ) {i : Nat} {xs : List D} (e : ρ[i]? = some (.own xs)) (s : Sl) : OwnNew H0 (ρ.set i s) σ := fun j zs a e1 e2 => by
  rcases set_at e1 with ⟨z, _⟩ | ⟨_, e'⟩
  · subst z; exact h _ xs a e e2
  · exact h j zs a e' e2
theorem OwnNew.setSame (h : OwnNew H0 ρ σ) {i : Nat} {d : D} : OwnNew H0 (ρ.set i (.val d)) σ := fun j zs a e1 e2 => by
  rcases set_at e1 with ⟨_, z⟩ | ⟨_, e'⟩
  · cases z
  · exact h j zs a e' e2
theorem EnvOk.setOwn (en : EnvOk K ρ M G σ H) (i : Nat) {a : Addr} {us : List V} {ys : List D} (e : H a = some (.lst us)) (g : G a = none) (m : M a = none) (r : Reps K G us ys)
    (n : ∀ (j : Nat) xs, ρ[j]? = some (.own xs) → i ≠ j → σ[j]? ≠ some (some (.ref a))) : EnvOk K (ρ.set i (.own ys)) M G (σ.set i (some (.ref a))) H where
  len := by rw [List.length_set, List.length_set]; exact en.len
  slot := fun j s q => by
    have hj : j < ρ.length := by
      have := (List.getElem?_eq_some_iff.mp q).1
      rwa [List.length_set] at this
    rcases set_at q with ⟨rfl, rfl⟩ | ⟨ne, q⟩
    · refine ⟨a, us, ?_, e, g, m, r⟩
      rw [List.getElem?_set, if_pos rfl, if_pos (by rw [← en.len]; exact hj)]
    · rw [List.getElem?_set, if_neg ne]
      exact en.slot j s q
  dist := fun j k xs zs q1 q2 ne => by
    have hj : ∀ {l : Nat} {s : Sl}, (ρ.set i (.own ys))[l]? = some s → l < ρ.length := fun {l s} q => by
      have := (List.getElem?_eq_some_iff.mp q).1
      rwa [List.length_set] at this
    have at_i : (σ.set i (some (.ref a)))[i]? = some (some (V.ref a)) ∨ ¬ i < ρ.length := by
      by_cases hl : i < ρ.length
      · exact .inl (by rw [List.getElem?_set, if_pos rfl, if_pos (by rw [← en.len]; exact hl)])
      · exact .inr hl
    have l1 := hj q1
    have l2 := hj q2
    rcases set_at q1 with ⟨z1, _⟩ | ⟨n1, q1'⟩
    · subst z1
      rcases set_at q2 with ⟨z2, _⟩ | ⟨n2, q2'⟩
      · exact absurd z2 ne
      · rcases at_i with z | z
        · rw [z, List.getElem?_set, if_neg n2]
          exact fun w => n k _ q2' n2 w.symm
        · exact absurd l1 z
    · rcases set_at q2 with ⟨z2, _⟩ | ⟨n2, q2'⟩
      · subst z2
        rcases at_i with z | z
        · rw [z, List.getElem?_set, if_neg n1]
          exact n j _ q1' n1
        · exact absurd l2 z
      · rw [List.getElem?_set, List.getElem?_set, if_neg n1, if_neg n2]
        exact en.dist j k _ _ q1' q2' ne
/-- an own list is written -/
theorem EnvOk.write (en : EnvOk K ρ M G σ H) {i : Nat} {xs ys : List D} {a : Addr} {us : List V} (e : ρ[i]? = some (.own xs)) (ea : σ[i]? = some (some (.ref a))) (g : G a = none) (m : M a = none) (r : Reps K G us ys) : EnvOk K (ρ.set i (.own ys)) M G σ (upd H a (.lst us)) where
  len := by rw [List.length_set]; exact en.len
  slot := fun j s q => by
    rcases set_at q with ⟨rfl, rfl⟩ | ⟨ne, q⟩
    · exact ⟨a, us, ea, upd_same, g, m, r⟩
    · cases s with
      | unk => trivial
      | val d => exact en.slot j _ q
      | own zs =>
        obtain ⟨b, ws, h1, h2, h3, h4, h5⟩ := en.slot j _ q
        refine ⟨b, ws, h1, ?_, h3, h4, h5⟩
        rw [upd_ne]
        · exact h2
        · intro z
          subst z
          exact en.dist i j _ _ e q ne (by rw [ea, h1])
  dist := fun j k zs ws q1 q2 ne => by
    have f : ∀ {l : Nat} {us : List D}, (ρ.set i (.own ys))[l]? = some (.own us) → ∃ us', ρ[l]? = some (.own us') := fun {l us} q => by
      rcases set_at q with ⟨z, _⟩ | ⟨_, q⟩
      · subst z; exact ⟨_, e⟩
      · exact ⟨_, q⟩
    obtain ⟨_, q1⟩ := f q1
    obtain ⟨_, q2⟩ := f q2
    exact en.dist j k _ _ q1 q2 ne
/-- an own list is kept for good -/
theorem EnvOk.keep (en : EnvOk K ρ M G σ H) {i : Nat} {xs : List D} {a : Addr} {us : List V} (e : ρ[i]? = some (.own xs)) (ea : σ[i]? = some (some (.ref a))) (h : H a = some (.lst us)) (g : G a = none) (r : Reps K G us xs) : EnvOk K (ρ.set i (.val (.lst xs))) M (upd G a (.lst us)) σ H where
  len := by rw [List.length_set]; exact en.len
  slot := fun j s q => by
    rcases set_at q with ⟨rfl, rfl⟩ | ⟨ne, q⟩
    · exact ⟨_, ea, .lst upd_same (r.mono (Same.upd g))⟩
    · cases s with
      | unk => trivial
      | val d => obtain ⟨v, h1, h2⟩ := en.slot j _ q; exact ⟨v, h1, h2.mono (Same.upd g)⟩
      | own zs =>
        obtain ⟨b, ws, h1, h2, h3, h4, h5⟩ := en.slot j _ q
        refine ⟨b, ws, h1, h2, ?_, h4, h5.mono (Same.upd g)⟩
        rw [upd_ne]
        · exact h3
        · intro z
          subst z
          exact en.dist i j _ _ e q ne (by rw [ea, h1])
  dist := fun j k zs ws q1 q2 ne => by
    have f : ∀ {l : Nat} {us' : List D}, (ρ.set i (.val (.lst xs)))[l]? = some (.own us') → ρ[l]? = some (.own us') := fun {l us'} q => by
      rcases set_at q with ⟨_, z⟩ | ⟨_, q⟩
      · cases z
      · exact q
    exact en.dist j k _ _ (f q1) (f q2) ne
/-- a cell is written -/
theorem Bas.putc (b : Bas K M G H) {a : Addr} {us : List V} {xs ys : List D} (e : M a = some (.lst xs)) (r : Reps K G us ys) : Bas K (M.put a (.lst ys)) G (upd H a (.lst us)) where
  sub := fun c u q => by
    have ne : c ≠ a := fun z => by rw [z, (b.cells a _ e).1] at q; cases q
    rw [upd_ne ne]; exact b.sub c u q
  cells := fun c x q => by
    by_cases z : c = a
    · subst z
      have : x = .lst ys := by
        have : (M.put c (.lst ys)) c = some (.lst ys) := by simp [Mem.put]
        rw [this] at q; exact (Option.some.inj q).symm
      subst this
      exact ⟨(b.cells c _ e).1, by rw [upd_same]; simp, us, upd_same, r⟩
    · have q' : M c = some x := by
        have : (M.put a (.lst ys)) c = M c := by simp [Mem.put, z]
        rw [this] at q; exact q
      obtain ⟨h1, h2, h3⟩ := b.cells c x q'
      refine ⟨h1, by rw [upd_ne z]; exact h2, h3.grow (Same.refl _) (fun d u w hd => ?_) fun d w => ?_⟩
      · have nd : d ≠ a := by
          rcases hd with hd | hd
          · rw [hd]; exact z
          · intro y; rw [y, e] at hd; cases hd
        rw [upd_ne nd]; exact w
      · have nd : d ≠ a := fun y => by rw [y, e] at w; cases w
        have : (M.put a (.lst ys)) d = M d := by simp [Mem.put, nd]
        rw [this]; exact w
theorem Mem.put_same (M : Mem) (a : Addr) (c : Cell) : (M.put a c) a = some c := by simp [Mem.put]
theorem Mem.put_ne (M : Mem) {a b : Addr} (c : Cell) (n : b ≠ a) : (M.put a c) b = M b := by simp [Mem.put, n]
theorem Stp.putc (t : Stp K M0 G0 H0 M G H) {a : Addr} {us : List V} {xs ys : List D} (e : M a = some (.lst xs)) (r : Reps K G us ys) : Stp K M0 G0 H0 (M.put a (.lst ys)) G (upd H a (.lst us)) :=
  ⟨t.gg, fun c u q n => by
      have ne : c ≠ a := fun z => by
        subst z
        rcases t.nm c (by rw [e]; simp) with w | w
        · exact absurd n w
        · rw [q] at w; cases w
      rw [upd_ne ne]; exact t.keep c u q n,
    t.ng, fun c h => by
      by_cases z : c = a
      · subst z; exact t.nm c (by rw [e]; simp)
      · rw [Mem.put_ne _ _ z] at h; exact t.nm c h,
    fun c h => by
      by_cases z : c = a
      · rw [z, Mem.put_same]; simp
      · rw [Mem.put_ne _ _ z]; exact t.mm c h, t.bas.putc e r⟩
theorem EnvOk.putc (en : EnvOk K ρ M G σ H) {a : Addr} {us : List V} {xs ys : List D} (e : M a = some (.lst xs)) : EnvOk K ρ (M.put a (.lst ys)) G σ (upd H a (.lst us)) where
  len := en.len
  slot := fun j s q => by
    cases s with
    | unk => trivial
    | val d => exact en.slot j _ q
    | own zs =>
      obtain ⟨b, ws, h1, h2, h3, h4, h5⟩ := en.slot j _ q
      have ne : b ≠ a := fun z => by rw [z, e] at h4; cases h4
      exact ⟨b, ws, h1, by rw [upd_ne ne]; exact h2, h3, by rw [Mem.put_ne _ _ ne]; exact h4, h5⟩
  dist := en.dist
/-- a list becomes a cell -/
theorem Bas.cell (b : Bas K M G H) {a : Addr} {us : List V} {ys : List D} (e : H a = some (.lst us)) (g : G a = none) (m : M a = none) (r : Reps K G us ys) : Bas K (M.put a (.lst ys)) G H where
  sub := b.sub
  cells := fun c x q => by
    by_cases z : c = a
    · subst z
      rw [Mem.put_same] at q
      cases q
      exact ⟨g, by rw [e]; simp, us, e, r⟩
    · rw [Mem.put_ne _ _ z] at q
      obtain ⟨h1, h2, h3⟩ := b.cells c x q
      refine ⟨h1, h2, h3.grow (Same.refl _) (fun d u w _ => w) fun d w => ?_⟩
      have nd : d ≠ a := fun y => by rw [y, m] at w; cases w
      rw [Mem.put_ne _ _ nd]; exact w
theorem Stp.cell (t : Stp K M0 G0 H0 M G H) {a : Addr} {us : List V} {ys : List D} (e : H a = some (.lst us)) (g : G a = none) (m : M a = none) (n : H0 a = none) (r : Reps K G us ys) : Stp K M0 G0 H0 (M.put a (.lst ys)) G H :=
  ⟨t.gg, t.keep, t.ng, fun c h => by
      by_cases z : c = a
      · subst z; exact .inr n
      · rw [Mem.put_ne _ _ z] at h; exact t.nm c h,
    fun c h => by
      by_cases z : c = a
      · rw [z, Mem.put_same]; simp
      · rw [Mem.put_ne _ _ z]; exact t.mm c h, t.bas.cell e g m r⟩
theorem EnvOk.cell (en : EnvOk K ρ M G σ H) {a : Addr} {ys : List D} (n : ∀ (j : Nat) xs, ρ[j]? = some (.own xs) → σ[j]? ≠ some (some (.ref a))) : EnvOk K ρ (M.put a (.lst ys)) G σ H where
  len := en.len
  slot := fun j s q => by
    cases s with
    | unk => trivial
    | val d => exact en.slot j _ q
    | own zs =>
      obtain ⟨b, ws, h1, h2, h3, h4, h5⟩ := en.slot j _ q
      have ne : b ≠ a := fun z => n j _ q (by rw [h1, z])
      exact ⟨b, ws, h1, h2, h3, by rw [Mem.put_ne _ _ ne]; exact h4, h5⟩
  dist := en.dist
/-- the ground of a step, with more that stays -/
theorem Stp.base (t : Stp K M0 G0 H0 M G H) : Stp K M0 G H0 M G H := ⟨Same.refl _, t.keep, fun _ h => .inl h, t.nm, t.mm, t.bas⟩
theorem Stp.over (t : Stp K M0 G0 H0 M1 G1 H1) (u : Stp K M0 G1 H0 M G H) : Stp K M0 G0 H0 M G H := ⟨t.gg.trans u.gg, u.keep, fun a h => (u.ng a h).elim (t.ng a) .inr, u.nm, u.mm, u.bas⟩
end

/-! ## readings of statements -/
structure Aims (EX : Nat → Addr) (W : WX) (K : PySem.W.Frag) (M0 : Mem) (G0 H0 : Hp) (Q : Post) (D' : Ends) : Prop where
  nx : ∀ ρ M G σ H, Q.nx ρ M → Stp K M0 G0 H0 M G H → EnvOk K ρ M G σ H → OwnNew H0 ρ σ → D'.nx σ H
  rt : ∀ d M v G H, Q.rt d M → Stp K M0 G0 H0 M G H → Rep K G v d → D'.rt v H
  ex : ∀ k M G σ H, Q.ex k M → Stp K M0 G0 H0 M G H → W (.ref (EX k)) none σ H
def tS (EX : Nat → Addr) (W : WX) (K : PySem.W.Frag) (p : S) : TS := fun D' σ H => ∃ ρ M G M0 G0 H0 Q, Stp K M0 G0 H0 M G H ∧ EnvOk K ρ M G σ H ∧ OwnNew H0 ρ σ ∧ (wpS p).run ρ M Q ∧ Aims EX W K M0 G0 H0 Q D'
theorem _root_.L2.PS.imp {X : Cx} {e : Stmt} {t t' : TS} (h : PS X e t) (hi : ∀ σ H Q, t' σ H Q → t σ H Q) : PS X e t' := ⟨fun pins s σ H Q I q => h.run pins s σ H Q I (hi _ _ _ q)⟩
theorem _root_.L2.PSs.imp {X : Cx} {e : List Stmt} {t t' : TS} (h : PSs X e t) (hi : ∀ σ H Q, t' σ H Q → t σ H Q) : PSs X e t' := ⟨fun pins s σ H Q I q => h.run pins s σ H Q I (hi _ _ _ q)⟩
section
variable {EX : Nat → Addr} {X : Cx} {W : WX} {fn : Str → Bool} {K : PySem.W.Frag} {ρ : Slots} {M M0 : Mem} {G G0 H H0 : Hp} {σ : L2.St} {D' : Ends} {Q : Post}
theorem Aims.exE (A : Aims EX W K M0 G0 H0 Q D') (t : Stp K M0 G0 H0 M G H) {σ : L2.St} : ∀ k M', Q.ex k M' → exW EX W K M G σ H k M' := fun k M' q G' H' u => A.ex k M' G' σ H' q (t.trans u)
theorem Aims.nxt (A : Aims EX W K M0 G0 H0 Q D') {N : Slots → Mem → Prop} {nx : L2.St → Hp → Prop} (h : ∀ ρ M G σ H, N ρ M → Stp K M0 G0 H0 M G H → EnvOk K ρ M G σ H → OwnNew H0 ρ σ → nx σ H) : Aims EX W K M0 G0 H0 { Q with nx := N } { D' with nx := nx } := ⟨h, A.rt, A.ex⟩

/-! ### the small ones -/
theorem s_nil : PSs X [] (tS EX W X.K .nop) := pss_nil.imp fun D' σ H ⟨ρ, M, G, M0, G0, H0, Q, st, en, on, run, A⟩ => A.nx _ _ _ _ _ run st en on
theorem s_pass {pos : Pos} : PS X (.Pass pos) (tS EX W X.K .nop) := ps_pass.imp fun D' σ H ⟨ρ, M, G, M0, G0, H0, Q, st, en, on, run, A⟩ => A.nx _ _ _ _ _ run st en on
theorem s_doc {x j pos pos'} : PS X (.Expr (.Constant (.str x) j pos) pos') (tS EX W X.K .nop) := ps_doc.imp fun D' σ H ⟨ρ, M, G, M0, G0, H0, Q, st, en, on, run, A⟩ => A.nx _ _ _ _ _ run st en on
theorem s_seq {s t : S} {x : Stmt} {xs : List Stmt} (h1 : PS X x (tS EX W X.K s)) (h2 : PSs X xs (tS EX W X.K t)) : PSs X (x :: xs) (tS EX W X.K (.seq s t)) :=
  (pss_cons h1 h2).imp fun D' σ H ⟨ρ, M, G, M0, G0, H0, Q, st, en, on, run, A⟩ => ⟨ρ, M, G, M0, G0, H0, _, st, en, on, run, A.nxt fun ρ M G σ H n t' e' o' => ⟨ρ, M, G, M0, G0, H0, Q, t', e', o', n, A⟩⟩
theorem own_at {i : Nat} {xs : List D} (h : ownAt ρ i = some xs) : ρ[i]? = some (.own xs) := by
  unfold ownAt at h
  split at h
  · rename_i e; cases h; exact e
  · cases h
theorem cell_at {i : Nat} {b : Addr} {xs : List D} (h : cellAt ρ M i = some (b, xs)) : ρ[i]? = some (.val (.cell b)) ∧ M b = some (.lst xs) := by
  unfold cellAt at h
  split at h
  · rename_i e
    split at h
    · rename_i e2; cases h; exact ⟨e, e2⟩
    · cases h
  · cases h
theorem s_frz {i : Nat} {t : S} {xs : List Stmt} (h : PSs X xs (tS EX W X.K t)) : PSs X xs (tS EX W X.K (.seq (.frz i) t)) :=
  h.imp fun D' σ H ⟨ρ, M, G, M0, G0, H0, Q, st, en, on, run, A⟩ => by
    obtain ⟨ys, e, run⟩ := (show ∃ xs, ownAt ρ i = some xs ∧ (wpS t).run (ρ.set i (.val (.lst xs))) M Q from run)
    have e' := own_at e
    obtain ⟨a, vs, e1, h1, h2, h3, r⟩ := en.own e'
    exact ⟨_, M, _, M0, G0, H0, Q, st.frz h1 h3 h2 (on i ys a e' e1), en.keep e' e1 h1 h2 r, on.setSame, run, A⟩
theorem s_set {a : E} {i : Nat} {n : Str} {x : Expr} {pos pos' : Pos} (g : Good X W fn) (hi : X.N[i]? = some n) (hx : Loc X.env.scope n) (hf : X.fn n = true ∨ X.env.scope.names.lookup n = some .local) (hs : swapsWith x (some (.Name n pos')) pos.line X.env = pure false)
    (hv : vOk a = true) (ha : PE X x (tE EX W X.K a)) : PS X (.Assign [.Name n pos'] x pos) (tS EX W X.K (.set i a)) :=
  (ps_set g.nd hi hx ha hs hf).imp fun D' σ H ⟨ρ, M, G, M0, G0, H0, Q, st, en, on, run, A⟩ =>
    tE_val hv st.bas en (show (wp a ρ).run M _ _ from run) (fun d M' v G' H' c t en' r => A.nx _ M' G' _ H' c (st.trans t) (en'.set i r) (on.set i d v)) (A.exE st)
/-- what a new list gives -/
theorem new_use {d : D} {v : V} {M' : Mem} {G' H' : Hp} {C : List D → Prop} (st : Stp K M0 G0 H0 M G H) (en : EnvOk K ρ M G σ H) (on : OwnNew H0 ρ σ) (t : Stp K M G H M' G' H') (en' : EnvOk K ρ M' G' σ H') (r : Res K true true H M' G' H' v d) (h : ∃ xs, d = .lst xs ∧ C xs) :
    ∃ a us xs, v = .ref a ∧ C xs ∧ H' a = some (.lst us) ∧ G' a = none ∧ M' a = none ∧ Reps K G' us xs ∧ H a = none ∧ H0 a = none ∧ (∀ (j : Nat) ys, ρ[j]? = some (.own ys) → σ[j]? ≠ some (some (.ref a))) := by
  obtain ⟨xs, rfl, c⟩ := h
  rcases r with ⟨_, n⟩ | ⟨a, us, ys, rfl, e, h1, h2, h3, r, n⟩
  · exact absurd rfl (n rfl xs)
  · cases e
    refine ⟨a, us, xs, rfl, c, h1, h2, h3, r, n rfl, st.old (n rfl), fun j ys e q => ?_⟩
    obtain ⟨b, ws, w1, w2, _⟩ := en.own e
    rw [q] at w1
    cases w1
    rw [n rfl] at w2
    cases w2
theorem s_new {a : E} {i : Nat} {n : Str} {x : Expr} {pos pos' : Pos} (g : Good X W fn) (hi : X.N[i]? = some n) (hx : Loc X.env.scope n) (hf : X.fn n = true ∨ X.env.scope.names.lookup n = some .local) (hs : swapsWith x (some (.Name n pos')) pos.line X.env = pure false)
    (hv : vOk a = true) (hr : frOk a = true) (ha : PE X x (tE EX W X.K a)) : PS X (.Assign [.Name n pos'] x pos) (tS EX W X.K (.new i a)) :=
  (ps_set g.nd hi hx ha hs hf).imp fun D' σ H ⟨ρ, M, G, M0, G0, H0, Q, st, en, on, run, A⟩ =>
    tE_of st.bas en (show (wp a ρ).run M _ _ from run) (fun d M' v G' H' c t en' r => by
      rw [hv, hr] at r
      obtain ⟨p, us, xs, rfl, c, h1, h2, h3, rr, _, h0, ne⟩ := new_use st en on t en' r c
      exact A.nx _ M' G' _ H' c (st.trans t) (en'.setOwn i h1 h2 h3 rr fun j ys e _ => ne j ys e) (on.setOwn i xs h0)) (A.exE st)
theorem s_newcell {i : Nat} {n : Str} {pos pos' p : Pos} (g : Good X W fn) (hi : X.N[i]? = some n) (hx : Loc X.env.scope n) (hf : X.fn n = true ∨ X.env.scope.names.lookup n = some .local) :
    PS X (.Assign [.Name n pos'] (.List [] p) pos) (tS EX W X.K (.newcell i)) :=
  (ps_set g.nd hi hx (e_lst (EX := EX) (W := W) (a_nil)) rfl hf).imp fun D' σ H ⟨ρ, M, G, M0, G0, H0, Q, st, en, on, run, A⟩ =>
    tE_of (C := fun d M' => d = .lst [] ∧ M' = M) st.bas en (show (0 ≤ sizeLine ∧ (D.lst [] = .lst [] ∧ M = M)) from ⟨Nat.zero_le _, rfl, rfl⟩) (fun d M' v G' H' c t en' r => by
      obtain ⟨rfl, rfl⟩ := c
      obtain ⟨p, us, xs, rfl, c, h1, h2, h3, rr, _, h0, ne⟩ := new_use (C := fun xs => xs = []) st en on t en' r ⟨[], rfl, rfl⟩
      subst c
      exact A.nx _ _ G' _ H' ((show ∀ a, M' a = none → Q.nx (ρ.set i (.val (.cell a))) (M'.put a (.lst [])) from run) p h3) ((st.trans t).cell h1 h2 h3 h0 rr) ((en'.cell ne).set i (.cell p)) (on.set i _ _)) (A.exE st)
theorem vis_of {n : Str} (h : Loc X.env.scope n) : Vis X.env.scope n := h.elim .inl fun z => .inr (.inl z)
theorem s_app {a : E} {i : Nat} {n : Str} {x : Expr} {p1 p2 p3 pos : Pos} (g : Good X W fn) (hi : X.N[i]? = some n) (hx : Vis X.env.scope n) (hn : nmB n = true) (ho : ord x = true) (hl : (p2.endLine == p3.line) = true) (hv : vOk a = true) (ha : PE X x (tE EX W X.K a)) :
    PS X (.Expr (.Call (.Attribute (.Name n p1) "append" p2) [x] [] p3) pos) (tS EX W X.K (.app i a)) ∧ PS X (.Expr (.Call (.Attribute (.Name n p1) "append" p2) [x] [] p3) pos) (tS EX W X.K (.appc i a)) := by
  unfold nmB at hn
  simp only [Bool.and_eq_true, Bool.not_eq_true'] at hn
  have sx : starEach [x] X.env = [(false, eval x X.env)] := star_of ho [] _
  have base := ps_expr (pos := pos) (pe_bm (cpos := p3) (apos := p2) PySem.F.plainAttrs_list PySem.F.slot_list_append PySem.F.type_list_append mt_append (pe_var (pos := p1) hi hx hn.1 hn.2) (pa_cons ha pa_nil sx) (by rfl) (by rw [sx]; rfl) hl (by rw [sx]; rfl) (by rfl)) (by rfl)
  constructor
  · refine base.imp fun D' σ H ⟨ρ, M, G, M0, G0, H0, Q, st, en, on, run, A⟩ => ?_
    obtain ⟨xs, e, run⟩ := (show ∃ xs, ownAt ρ i = some xs ∧ (wp a ρ).run M (fun d M' => xs.length < sizeLine ∧ Q.nx (ρ.set i (.own (xs ++ [d]))) M') Q.ex from run)
    obtain ⟨b, us, e1, h1, h2, h3, r⟩ := en.own (own_at e)
    refine ⟨_, e1, .inl ⟨rfl, us, SqL.of h1⟩, tE_val hv st.bas en run (fun d M' v G' H' c t en' rv => ?_) (A.exE st)⟩
    obtain ⟨hl, c⟩ := c
    obtain ⟨b', us', e1', h1', h2', h3', r'⟩ := en'.own (own_at e)
    rw [e1] at e1'
    cases e1'
    refine ⟨b, us', v, rfl, rfl, h1', by rw [r'.length]; exact hl, ?_⟩
    exact A.nx _ M' G' σ _ c ((st.trans t).own h2' h3' (on i xs b (own_at e) e1)) (en'.write (own_at e) e1 h2' h3' (r'.append (.one rv))) (on.same (own_at e) _)
  · refine base.imp fun D' σ H ⟨ρ, M, G, M0, G0, H0, Q, st, en, on, run, A⟩ => ?_
    obtain ⟨b, zs, e, run⟩ := (show ∃ b zs, cellAt ρ M i = some (b, zs) ∧ (wp a ρ).run M (fun d M' => ∃ xs, M' b = some (.lst xs) ∧ xs.length < sizeLine ∧ Q.nx ρ (M'.put b (.lst (xs ++ [d])))) Q.ex from run)
    obtain ⟨e0, m⟩ := cell_at e
    obtain ⟨v, e1, rv⟩ := en.val e0
    cases rv
    obtain ⟨vs, h1, r⟩ := (st.bas.cells b _ m).2.2
    refine ⟨_, e1, .inl ⟨rfl, vs, SqL.of h1⟩, tE_val hv st.bas en run (fun d M' v G' H' c t en' rv => ?_) (A.exE st)⟩
    obtain ⟨xs, m', hl, c⟩ := c
    obtain ⟨us', h1', r'⟩ := (t.bas.cells b _ m').2.2
    refine ⟨b, us', v, rfl, rfl, h1', by rw [r'.length]; exact hl, ?_⟩
    exact A.nx _ _ G' σ _ c ((st.trans t).putc m' (r'.append (.one rv))) (en'.putc m') on
theorem s_ext {a : E} {i : Nat} {n : Str} {x : Expr} {p1 p2 p3 pos : Pos} (g : Good X W fn) (hi : X.N[i]? = some n) (hx : Vis X.env.scope n) (hn : nmB n = true) (ho : ord x = true) (hl : (p2.endLine == p3.line) = true) (ha : PE X x (tE EX W X.K a)) :
    PS X (.Expr (.Call (.Attribute (.Name n p1) "extend" p2) [x] [] p3) pos) (tS EX W X.K (.ext i a)) := by
  unfold nmB at hn
  simp only [Bool.and_eq_true, Bool.not_eq_true'] at hn
  have sx : starEach [x] X.env = [(false, eval x X.env)] := star_of ho [] _
  have base := ps_expr (pos := pos) (pe_bm (cpos := p3) (apos := p2) PySem.F.plainAttrs_list PySem.F.slot_list_extend PySem.F.type_list_extend mt_extend (pe_var (pos := p1) hi hx hn.1 hn.2) (pa_cons ha pa_nil sx) (by rfl) (by rw [sx]; rfl) hl (by rw [sx]; rfl) (by rfl)) (by rfl)
  refine base.imp fun D' σ H ⟨ρ, M, G, M0, G0, H0, Q, st, en, on, run, A⟩ => ?_
  obtain ⟨xs, e, run⟩ := (show ∃ xs, ownAt ρ i = some xs ∧ (wp a ρ).run M (fun d M' => ∃ ys, d = .lst ys ∧ xs.length + ys.length ≤ sizeLine ∧ Q.nx (ρ.set i (.own (xs ++ ys))) M') Q.ex from run)
  obtain ⟨b, us, e1, h1, h2, h3, r⟩ := en.own (own_at e)
  refine ⟨_, e1, .inl ⟨rfl, us, SqL.of h1⟩, tE_of st.bas en run (fun d M' v G' H' c t en' rv => ?_) (A.exE st)⟩
  obtain ⟨ys, rfl, hl, c⟩ := c
  obtain ⟨b', us', e1', h1', h2', h3', r'⟩ := en'.own (own_at e)
  rw [e1] at e1'
  cases e1'
  obtain ⟨p, ws, rfl, hp, rp⟩ := rv.lst t.bas
  refine ⟨b, p, us', ws, rfl, rfl, h1', hp, by rw [r'.length, rp.length]; exact hl, ?_⟩
  exact A.nx _ M' G' σ _ c ((st.trans t).own h2' h3' (on i xs b (own_at e) e1)) (en'.write (own_at e) e1 h2' h3' (r'.append rp)) (on.same (own_at e) _)
theorem sub_asg {o i : Expr} {p : Pos} (h : ord i = true) (env : Env) (v : Value) : assign (.Subscript o i p) env v = (do
      let ov ← holding [v] (eval o env)
      let iv ← holding [v, ov] (eval i env)
      standAt p
      holding [v, ov, iv] (setItem ov iv v)
      release [v, ov, iv] []) := by cases i <;> first | rfl | cases h
theorem s_put {a k : E} {i : Nat} {n : Str} {x y : Expr} {p1 p2 pos : Pos} (g : Good X W fn) (hi : X.N[i]? = some n) (hx : Vis X.env.scope n) (hn : nmB n = true) (ho : ord y = true) (hs : swapsWithSole [.Subscript (.Name n p1) y p2] x pos.line X.env = pure false) (hw : swappedStores [.Subscript (.Name n p1) y p2] x X.env = pure none)
    (hv : vOk a = true) (ha : PE X x (tE EX W X.K a)) (hk : PE X y (tE EX W X.K k)) :
    PS X (.Assign [.Subscript (.Name n p1) y p2] x pos) (tS EX W X.K (.put i k a)) ∧ PS X (.Assign [.Subscript (.Name n p1) y p2] x pos) (tS EX W X.K (.putc i k a)) := by
  unfold nmB at hn
  simp only [Bool.and_eq_true, Bool.not_eq_true'] at hn
  have base := ps_asg (pos := pos) ha (pg_sub (pos := p2) (pe_var (pos := p1) hi hx hn.1 hn.2) hk set_list (sub_asg ho X.env)) hs hw (by rfl)
  constructor
  · refine base.imp fun D' σ H ⟨ρ, M, G, M0, G0, H0, Q, st, en, on, run, A⟩ => ?_
    obtain ⟨xs, e, run⟩ := (show ∃ xs, ownAt ρ i = some xs ∧ (wp a ρ).run M (fun d M' => (wp k ρ).run M' (fun j M2 => ∃ z n, j = .int z ∧ ixN xs.length z = some n ∧ Q.nx (ρ.set i (.own (xs.set n d))) M2) Q.ex) Q.ex from run)
    refine tE_val hv st.bas en run (fun d M' v G' H' c t en' rv => ?_) (A.exE st)
    obtain ⟨b, us, e1, h1, h2, h3, r⟩ := en'.own (own_at e)
    refine ⟨_, e1, tE_of t.bas en' c (fun j M2 u G2 H2 c2 t2 en2 ru => ?_) (A.exE (st.trans t))⟩
    obtain ⟨z, m, rfl, hm, c2⟩ := c2
    cases ru.nolst (fun _ z => nomatch z)
    obtain ⟨b', us', e1', h1', h2', h3', r'⟩ := en2.own (own_at e)
    rw [e1] at e1'
    cases e1'
    refine ⟨b, us', z, m, rfl, rfl, h1', by rw [r'.length]; exact hm, ?_⟩
    exact A.nx _ M2 G2 σ _ c2 (((st.trans t).trans t2).own h2' h3' (on i xs b (own_at e) e1)) (en2.write (own_at e) e1 h2' h3' (Reps.set (rv.mono t2.gg) m r')) (on.same (own_at e) _)
  · refine base.imp fun D' σ H ⟨ρ, M, G, M0, G0, H0, Q, st, en, on, run, A⟩ => ?_
    obtain ⟨b, e, run⟩ := (show ∃ a', ρ[i]? = some (.val (.cell a')) ∧ (wp a ρ).run M (fun d M' => (wp k ρ).run M' (fun j M2 => ∃ xs z n, M2 a' = some (.lst xs) ∧ j = .int z ∧ ixN xs.length z = some n ∧ Q.nx ρ (M2.put a' (.lst (xs.set n d)))) Q.ex) Q.ex from run)
    refine tE_val hv st.bas en run (fun d M' v G' H' c t en' rv => ?_) (A.exE st)
    obtain ⟨w, e1, rw'⟩ := en'.val e
    cases rw'
    refine ⟨_, e1, tE_of t.bas en' c (fun j M2 u G2 H2 c2 t2 en2 ru => ?_) (A.exE (st.trans t))⟩
    obtain ⟨xs, z, m, mb, rfl, hm, c2⟩ := c2
    cases ru.nolst (fun _ z => nomatch z)
    obtain ⟨us', h1', r'⟩ := (t2.bas.cells b _ mb).2.2
    refine ⟨b, us', z, m, rfl, rfl, h1', by rw [r'.length]; exact hm, ?_⟩
    exact A.nx _ _ G2 σ _ c2 (((st.trans t).trans t2).putc mb (Reps.set (rv.mono t2.gg) m r')) (en2.putc mb) on
theorem s_aug {a : E} {i : Nat} {n : Str} {x : Expr} {pos pos' : Pos} (g : Good X W fn) (hi : X.N[i]? = some n) (hx : Loc X.env.scope n) (hf : X.fn n = true ∨ X.env.scope.names.lookup n = some .local) (ha : PE X x (tE EX W X.K a)) :
    PS X (.AugAssign (.Name n pos') .Add x pos) (tS EX W X.K (.aug i a)) :=
  (ps_aug g.nd hi hx ha ip_add hf).imp fun D' σ H ⟨ρ, M, G, M0, G0, H0, Q, st, en, on, run, A⟩ => by
    obtain ⟨z, e, run⟩ := (show ∃ x, ρ[i]? = some (.val (.int x)) ∧ (wp a ρ).run M (fun d M' => ∃ y, d = .int y ∧ Q.nx (ρ.set i (.val (.int (x + y)))) M') Q.ex from run)
    obtain ⟨w, e1, rw'⟩ := en.val e
    cases rw'
    refine ⟨_, e1, tE_of st.bas en run (fun d M' v G' H' c t en' rv => ?_) (A.exE st)⟩
    obtain ⟨y, rfl, c⟩ := c
    cases rv.nolst (fun _ z => nomatch z)
    exact ⟨z, y, rfl, rfl, A.nx _ M' G' _ H' c (st.trans t) (en'.set i (.int _)) (on.set i _ _)⟩
theorem s_ex {a : E} {x : Expr} {pos : Pos} (hs : swapsWith x none pos.line X.env = pure false) (ha : PE X x (tE EX W X.K a)) : PS X (.Expr x pos) (tS EX W X.K (.ex a)) :=
  (ps_expr ha hs).imp fun D' σ H ⟨ρ, M, G, M0, G0, H0, Q, st, en, on, run, A⟩ => tE_of st.bas en (show (wp a ρ).run M _ _ from run) (fun d M' v G' H' c t en' r => A.nx _ M' G' σ H' c (st.trans t) en' on) (A.exE st)
theorem s_ret {a : E} {x : Expr} {pos : Pos} (hv : vOk a = true) (ha : PE X x (tE EX W X.K a)) : PS X (.Return (some x) pos) (tS EX W X.K (.ret a)) :=
  (ps_ret ha).imp fun D' σ H ⟨ρ, M, G, M0, G0, H0, Q, st, en, on, run, A⟩ => tE_val hv st.bas en (show (wp a ρ).run M _ _ from run) (fun d M' v G' H' c t en' r => A.rt d M' v G' H' c (st.trans t) r) (A.exE st)
theorem s_if {c : E} {s t : S} {x : Expr} {xs ys : List Stmt} {pos : Pos} (hc : PT X x (tT EX W X.K c)) (h1 : PSs X xs (tS EX W X.K s)) (h2 : PSs X ys (tS EX W X.K t)) : PS X (.If x xs ys pos) (tS EX W X.K (.iff c s t)) :=
  (ps_if hc h1 h2).imp fun D' σ H ⟨ρ, M, G, M0, G0, H0, Q, st, en, on, run, A⟩ => tT_of st.bas en (show (testP c ρ).run M (fun t' M' => if t' then (wpS s).run ρ M' Q else (wpS t).run ρ M' Q) Q.ex from run) (fun b M' G' H' c' t' en' => by
    cases b with
    | true => exact iteT ⟨ρ, M', G', M0, G0, H0, Q, st.trans t', en', on, c', A⟩
    | false => exact iteF ⟨ρ, M', G', M0, G0, H0, Q, st.trans t', en', on, c', A⟩) (A.exE st)
theorem s_whl {c : E} {s : S} {x : Expr} {xs : List Stmt} {pos : Pos} (hp : PassesOwn (model X.prog X.w) X.A X.env X.xe) (hc : PT X x (tT EX W X.K c)) (h1 : PSs X xs (tS EX W X.K s)) : PS X (.While x xs [] pos) (tS EX W X.K (.whl c s)) :=
  (ps_while hp hc h1).imp fun D' σ H ⟨ρ, M, G, M0, G0, H0, Q, st, en, on, run, A⟩ => by
    obtain ⟨Wd, ⟨m, w0⟩, hw⟩ := (show whileGo (testP c) (wpS s) ρ M Q from run)
    refine ⟨fun m σ H => ∃ ρ M G, Stp X.K M0 G0 H0 M G H ∧ EnvOk X.K ρ M G σ H ∧ OwnNew H0 ρ σ ∧ Wd m ρ M, ⟨m, ρ, M, G, st, en, on, w0⟩, fun m σ H ⟨ρ, M, G, st, en, on, w⟩ => ?_⟩
    refine tT_of st.bas en (hw m ρ M w) (fun b M' G' H' c' t' en' => ?_) (A.exE st)
    cases b with
    | true =>
      refine iteT ⟨fun σ H => ∃ m' ρ M G, m' < m ∧ Stp X.K M0 G0 H0 M G H ∧ EnvOk X.K ρ M G σ H ∧ OwnNew H0 ρ σ ∧ Wd m' ρ M, fun σ' H' ⟨m', a1, a2, a3, a4, a5⟩ => ⟨m', a4, a1, a2, a3, a5⟩, ?_⟩
      exact ⟨ρ, M', G', M0, G0, H0, _, st.trans t', en', on, c', ⟨fun ρ M G σ H ⟨m', lt, w⟩ s' e' o' => ⟨m', ρ, M, G, lt, s', e', o', w⟩, A.rt, A.ex⟩⟩
    | false => exact iteF (A.nx _ M' G' σ H' c' (st.trans t') en' on)
end
end PL
set_option Elab.async false
set_option linter.all false
set_option maxRecDepth 100000
set_option maxHeartbeats 1000000
namespace PL
open PySem L2 PyProof.Rows PySem.Spec
section
variable {EX : Nat → Addr} {X : Cx} {W : WX} {fn : Str → Bool} {K : PySem.W.Frag} {ρ : Slots} {M M0 : Mem} {G G0 H H0 : Hp} {σ : L2.St} {D' : Ends} {Q : Post}
theorem nms_put : ∀ {is : List Nat} {vs : List V} {ds : List D} {ρ : Slots} {σ : L2.St} {Q : L2.St → Hp → Prop}, ds.length = is.length → Reps K G vs ds → EnvOk K ρ M G σ H → OwnNew H0 ρ σ →
    (∀ σ', EnvOk K (setAll ρ is ds) M G σ' H → OwnNew H0 (setAll ρ is ds) σ' → Q σ' H) → gNms is vs σ H Q
  | [], _, [], ρ, σ, Q, _, .nil, en, on, h => ⟨rfl, h σ en on⟩
  | i :: is, _, d :: ds, ρ, σ, Q, hl, .cons r rs, en, on, h => ⟨_, _, rfl, nms_put (by simpa using hl) rs (en.set i r) (on.set i _ _) fun σ' en' on' => h σ' en' on'⟩
  | [], _, _ :: _, _, _, _, hl, _, _, _, _ => by simp at hl
  | _ :: _, _, [], _, _, _, hl, _, _, _, _ => by simp at hl
theorem tg_put {tg : Tg} {d : D} {v : V} {C : Slots → Mem → Prop} {E0 : EK} {Q : L2.St → Hp → Prop} (h : (tgP tg d ρ).run M C E0) (b : Bas K M G H) (en : EnvOk K ρ M G σ H) (on : OwnNew H0 ρ σ) (r : Rep K G v d)
    (hQ : ∀ ρ' σ', C ρ' M → EnvOk K ρ' M G σ' H → OwnNew H0 ρ' σ' → Q σ' H) : gT K tg v σ H Q := by
  cases tg with
  | one i => exact hQ _ _ h (en.set i r) (on.set i _ _)
  | many is =>
    cases d <;> first | exact False.elim h | skip
    case tup ds =>
      cases r with
      | tup e rs => exact .inl ⟨_, _, rfl, SqT.of (b.sub _ _ e), by rw [rs.length]; exact h.1, nms_put h.1 rs en on fun σ' en' on' => hQ _ σ' h.2 en' on'⟩
    case lst ds =>
      cases r with
      | lst e rs => exact .inr ⟨_, _, rfl, SqL.of (b.sub _ _ e), by rw [rs.length]; exact h.1, nms_put h.1 rs en on fun σ' en' on' => hQ _ σ' h.2 en' on'⟩
theorem s_unp {a : E} {is : List Nat} {x y : Expr} {pos : Pos} (g : Good X W fn) (hg : chkTg X.N X.env.scope fn (.many is) y = true) (hs : swapsWithSole [y] x pos.line X.env = pure false) (hw : swappedStores [y] x X.env = pure none) (h1 : (assignEach [y] X.env).map (·.2) = [assign y X.env])
    (hv : vOk a = true) (ha : PE X x (tE EX W X.K a)) : PS X (.Assign [y] x pos) (tS EX W X.K (.unp is a)) :=
  (ps_asg ha (pg_tg g.calm g.nd g.fnE hg) hs hw h1).imp fun D' σ H ⟨ρ, M, G, M0, G0, H0, Q, st, en, on, run, A⟩ =>
    tE_val hv st.bas en (show (wp a ρ).run M (fun d M' => (tgP (.many is) d ρ).run M' Q.nx Q.ex) Q.ex from run) (fun d M' v G' H' c t en' r =>
      tg_put (tg := .many is) c t.bas en' on r fun ρ' σ' c' e' o' => A.nx ρ' M' G' σ' H' c' (st.trans t) e' o') (A.exE st)

/-! ### for -/
/-- what a loop walks is kept for good -/
theorem pins_keep {v0 : Bool} {Hs : Hp} : ∀ {pins : List (Addr × HO)} {G : Hp}, Stp K M0 G0 H0 M G H → PinOk true Hs M G H pins → (∀ a, Hs a = none → H0 a = none) →
    ∃ G2, Stp K M0 G0 H0 M G2 H ∧ Same G G2 ∧ (∀ p ∈ pins, G2 p.1 = some p.2) ∧ ∀ a, G2 a ≠ none → G a ≠ none ∨ Hs a = none
  | [], G, st, _, _ => ⟨G, st, Same.refl _, (fun p h => nomatch h), fun a h => .inl h⟩
  | p :: r, G, st, po, h0 => by
    obtain ⟨h1, h2, h3⟩ := po p List.mem_cons_self
    have tl : ∀ q ∈ r, q ∈ p :: r := fun q h => List.mem_cons_of_mem _ h
    rcases h3 with h3 | ⟨h3, h4⟩
    · obtain ⟨G2, s2, g2, q2, n2⟩ := pins_keep (v0 := v0) st (fun q h => po q (tl q h)) h0
      refine ⟨G2, s2, g2, fun q hq => ?_, n2⟩
      rcases List.mem_cons.mp hq with rfl | hq
      · exact g2 _ _ h3
      · exact q2 q hq
    · have g : Same G (upd G p.1 p.2) := Same.upd h3
      obtain ⟨G2, s2, g2, q2, n2⟩ := pins_keep (v0 := v0) (G := upd G p.1 p.2) (st.frz h1 h2 h3 (h0 _ (h4 rfl))) (fun q h => by
        obtain ⟨w1, w2, w3⟩ := po q (tl q h)
        refine ⟨w1, w2, ?_⟩
        by_cases e : q.1 = p.1
        · refine .inl ?_
          rw [e, upd_same]
          rw [e, h1] at w1
          exact w1
        · rw [upd_ne e]
          exact w3) h0
      refine ⟨G2, s2, g.trans g2, fun q hq => ?_, fun a ha => ?_⟩
      · rcases List.mem_cons.mp hq with rfl | hq
        · exact g2 _ _ upd_same
        · exact q2 q hq
      · rcases n2 a ha with z | z
        · by_cases e : a = p.1
          · rw [e]; exact .inr (h4 rfl)
          · rw [upd_ne e] at z; exact .inl z
        · exact .inr z
theorem EnvOk.more {G2 : Hp} (en : EnvOk K ρ M G σ H) (g : Same G G2) (n : ∀ (i : Nat) xs a, ρ[i]? = some (.own xs) → σ[i]? = some (some (.ref a)) → G2 a = none) : EnvOk K ρ M G2 σ H where
  len := en.len
  slot := fun j s q => by
    cases s with
    | unk => trivial
    | val d => obtain ⟨v, h1, h2⟩ := en.slot j _ q; exact ⟨v, h1, h2.mono g⟩
    | own zs =>
      obtain ⟨b, ws, h1, h2, h3, h4, h5⟩ := en.slot j _ q
      exact ⟨b, ws, h1, h2, n j zs b q h1, h4, h5.mono g⟩
  dist := en.dist
theorem s_for {tg : Tg} {it : E} {b : S} {x y : Expr} {xs : List Stmt} {pos : Pos} (g : Good X W fn) (hp : PassesOwn (model X.prog X.w) X.A X.env X.xe) (hv : vI it = true) (ho : ord y = true) (hi : PI X x y (tI EX W X.K it)) (hg : chkTg X.N X.env.scope fn tg x = true) (hb : PSs X xs (tS EX W X.K b)) :
    PS X (.For x y xs [] pos) (tS EX W X.K (.forr tg it b)) := by
  refine (ps_for hp g.calm hi (pg_tg g.calm g.nd g.fnE hg) hb (fun u => by cases y <;> first | rfl | cases ho)).imp fun D' σ H ⟨ρ, M, G, M0, G0, H0, Q, st, en, on, run, A⟩ => ?_
  refine ⟨ρ, M, G, st.bas, en, (wp it ρ).mono (fun u M1 c ds J G1 H1 pins e t1 po wk => ?_) (A.exE st) (show (wp it ρ).run M (fun t M' => ∃ xs, t = .tup xs ∧ forGo (tgP tg) (wpS b) xs ρ M' Q) Q.ex from run)⟩
  subst e
  obtain ⟨zs, e, c⟩ := c
  cases e
  rw [hv] at po
  have en1 := en.step t1
  obtain ⟨G2, s2, g2, q2, n2⟩ := pins_keep (v0 := true) (st.trans t1) po fun a n => st.old n
  have en2 : EnvOk X.K ρ M1 G2 σ H1 := en1.more g2 fun i xs a e1 e2 => by
    obtain ⟨b, ws, h1, h2, h3, h4, h5⟩ := en1.own e1
    rw [e2] at h1
    cases h1
    obtain ⟨b', ws', k1, k2, _⟩ := en.own e1
    rw [e2] at k1
    cases k1
    cases q : G2 a with
    | none => rfl
    | some o =>
      rcases n2 a (by rw [q]; simp) with z | z
      · exact absurd h3 z
      · rw [k2] at z; cases z
  refine ⟨fun i m σ H => ∃ ρ M G, Stp X.K M0 G2 H0 M G H ∧ EnvOk X.K ρ M G σ H ∧ OwnNew H0 ρ σ ∧ forGo (tgP tg) (wpS b) (ds.drop i) ρ M Q ∧ i ≤ ds.length ∧ m = ds.length - i, ⟨ds.length, ρ, M1, G2, s2.base, en2, on, c, Nat.zero_le _, rfl⟩, fun i m σ3 H3 ⟨ρ3, M3, G3, s3, en3, on3, c3, hi3, em⟩ => ?_⟩
  have wk' := wk G3 H3 (g2.trans s3.gg) s3.bas.sub fun p hp => s3.bas.sub _ _ (s3.gg _ _ (q2 p hp))
  by_cases hlt : i < ds.length
  · obtain ⟨go, yl⟩ := wk'.1 i _ (List.getElem?_eq_getElem hlt)
    refine .inr ⟨go, fun σ H => ∃ ρ M G, Stp X.K M0 G2 H0 M G H ∧ EnvOk X.K ρ M G σ H ∧ OwnNew H0 ρ σ ∧ forGo (tgP tg) (wpS b) (ds.drop (i + 1)) ρ M Q, fun σ' H' ⟨ρ4, M4, G4, a1, a2, a3, a4⟩ => ⟨ds.length - (i + 1), by omega, ρ4, M4, G4, a1, a2, a3, a4, by omega, rfl⟩, fun xv H' hy => ?_⟩
    obtain ⟨G4, s4, e4, rx⟩ : ∃ G4, Stp X.K M0 G2 H0 M3 G4 H' ∧ EnvOk X.K ρ3 M3 G4 σ3 H' ∧ Rep X.K G4 xv ds[i] := by
      rcases yl xv H' hy with ⟨rfl, rp⟩ | ⟨T, vs, es, rfl, nT, rfl, e2, rs⟩
      · exact ⟨G3, s3, en3, rp⟩
      · have tt := Stp.newF (o := .tup vs) s3.bas nT
        exact ⟨_, s3.trans tt, en3.step tt, by rw [e2]; exact .tup upd_same (rs.mono (Same.upd (s3.bas.free nT).1))⟩
    rw [List.drop_eq_getElem_cons hlt] at c3
    refine tg_put (M := M3) (show (tgP tg ds[i] ρ3).run M3 (fun ρ1 M1 => (wpS b).run ρ1 M1 { Q with nx := fun ρ2 M2 => forGo (tgP tg) (wpS b) (ds.drop (i + 1)) ρ2 M2 Q }) Q.ex from c3) s4.bas e4 on3 rx fun ρ5 σ5 c5 e5 o5 => ?_
    exact ⟨ρ5, M3, G4, M0, G2, H0, _, s4, e5, o5, c5, ⟨fun ρ M G σ H n s e o => ⟨ρ, M, G, s, e, o, n⟩, fun d M v G H n s r => A.rt d M v G H n (s2.over s) r, fun k M G σ H n s => A.ex k M G σ H n (s2.over s)⟩⟩
  · have ei : i = ds.length := by omega
    subst ei
    rw [List.drop_length] at c3
    exact .inl ⟨wk'.2, A.nx ρ3 M3 G3 σ3 H3 c3 (s2.over s3) en3 on3⟩
end
end PL
set_option Elab.async false
set_option linter.all false
set_option maxRecDepth 100000
set_option maxHeartbeats 1000000
namespace PL
open PySem L2 PyProof.Rows PySem.Spec

/-! ### a, b = .. -/
section
variable {K : PySem.W.Frag} {ρ : Slots} {M M' M0 : Mem} {G G' G0 H H' H0 : Hp} {σ : L2.St}
def PRes (K : PySem.W.Frag) (M : Mem) (G H : Hp) : (Addr → Prop) → List (Nat × Bool) → List V → List D → Prop
  | _, [], [], [] => True
  | kn, (_, m) :: r, v :: vs, d :: ds => (Rep K G v d ∧ (m = true → ∀ xs, d ≠ .lst xs) ∧ PRes K M G H kn r vs ds) ∨
      (m = true ∧ ∃ a us xs, v = .ref a ∧ d = .lst xs ∧ H a = some (.lst us) ∧ G a = none ∧ M a = none ∧ Reps K G us xs ∧ ¬ kn a ∧ PRes K M G H (fun b => kn b ∨ b = a) r vs ds)
  | _, _, _, _ => False
theorem PRes.weak : ∀ {fl : List (Nat × Bool)} {kn kn' : Addr → Prop} {vs : List V} {ds : List D}, PRes K M G H kn fl vs ds → (∀ b, kn' b → kn b) → PRes K M G H kn' fl vs ds
  | [], _, _, [], [], _, _ => trivial
  | (_, m) :: r, _, _, v :: vs, d :: ds, h, w => by
    rcases h with ⟨h1, h2, h3⟩ | ⟨h1, a, us, xs, h2, h3, h4, h5, h6, h7, h8, h9⟩
    · exact .inl ⟨h1, h2, h3.weak w⟩
    · exact .inr ⟨h1, a, us, xs, h2, h3, h4, h5, h6, h7, fun z => h8 (w _ z), h9.weak fun b z => z.imp (w b) id⟩
  | [], _, _, [], _ :: _, h, _ => False.elim h
  | [], _, _, _ :: _, _, h, _ => False.elim h
  | _ :: _, _, _, [], _, h, _ => False.elim h
  | _ :: _, _, _, _ :: _, [], h, _ => False.elim h
def setV (σ : L2.St) : List (Nat × Bool) → List V → L2.St
  | (i, _) :: r, v :: vs => setV (σ.set i (some v)) r vs
  | _, _ => σ
theorem pres_use : ∀ {fl : List (Nat × Bool)} {kn : Addr → Prop} {vs : List V} {ds : List D} {ρ : Slots} {σ : L2.St}, PRes K M G H kn fl vs ds → EnvOk K ρ M G σ H → OwnNew H0 ρ σ → (∀ b, H0 b ≠ none → kn b) →
    (∀ (i : Nat) xs a, ρ[i]? = some (.own xs) → σ[i]? = some (some (.ref a)) → kn a) → EnvOk K (setM ρ fl ds) M G (setV σ fl vs) H ∧ OwnNew H0 (setM ρ fl ds) (setV σ fl vs)
  | [], _, [], [], _, _, _, en, on, _, _ => ⟨en, on⟩
  | (i, m) :: r, kn, v :: vs, d :: ds, ρ, σ, h, en, on, k0, k1 => by
    rcases h with ⟨h1, h2, h3⟩ | ⟨h1, a, us, xs, rfl, rfl, h4, h5, h6, h7, h8, h9⟩
    · have e : setM ρ ((i, m) :: r) (d :: ds) = setM (ρ.set i (.val d)) r ds := by
        cases m with
        | false => rfl
        | true => cases d <;> first | rfl | exact absurd rfl (h2 rfl _)
      rw [e]
      exact pres_use h3 (en.set i h1) (on.set i _ _) k0 fun j xs a e1 e2 => by
        rcases set_at e1 with ⟨_, z⟩ | ⟨n, q⟩
        · cases z
        · rcases set_at e2 with ⟨z, _⟩ | ⟨_, q2⟩
          · exact absurd z n
          · exact k1 j xs a q q2
    · subst h1
      have n0 : H0 a = none := by
        cases q : H0 a with
        | none => rfl
        | some o => exact absurd (k0 a (by rw [q]; simp)) h8
      exact pres_use (ρ := ρ.set i (.own xs)) (σ := σ.set i (some (.ref a))) h9 (en.setOwn i h4 h5 h6 h7 fun j ys e _ q => h8 (k1 j ys a e q)) (on.setOwn i xs n0) (fun b z => .inl (k0 b z)) fun j ys b e1 e2 => by
        rcases set_at e2 with ⟨_, z⟩ | ⟨n, q⟩
        · cases z; exact .inr rfl
        · rcases set_at e1 with ⟨z, _⟩ | ⟨_, q1⟩
          · exact absurd z n
          · exact .inl (k1 j ys b q1 q)
  | [], _, [], _ :: _, _, _, h, _, _, _, _ => False.elim h
  | [], _, _ :: _, _, _, _, h, _, _, _, _ => False.elim h
  | _ :: _, _, [], _, _, _, h, _, _, _, _ => False.elim h
  | _ :: _, _, _ :: _, [], _, _, h, _, _, _, _ => False.elim h
theorem pres_len : ∀ {fl : List (Nat × Bool)} {kn : Addr → Prop} {vs : List V} {ds : List D}, PRes K M G H kn fl vs ds → vs.length = fl.length ∧ ds.length = fl.length
  | [], _, [], [], _ => ⟨rfl, rfl⟩
  | (_, m) :: r, _, v :: vs, d :: ds, h => by
    rcases h with ⟨_, _, h3⟩ | ⟨_, a, us, xs, _, _, _, _, _, _, _, h9⟩
    · obtain ⟨e1, e2⟩ := pres_len h3
      exact ⟨congrArg (· + 1) e1, congrArg (· + 1) e2⟩
    · obtain ⟨e1, e2⟩ := pres_len h9
      exact ⟨congrArg (· + 1) e1, congrArg (· + 1) e2⟩
  | [], _, [], _ :: _, h => False.elim h
  | [], _, _ :: _, _, h => False.elim h
  | _ :: _, _, [], _, h => False.elim h
  | _ :: _, _, _ :: _, [], h => False.elim h
end
def tR (EX : Nat → Addr) (W : WX) (K : PySem.W.Frag) (fl : List (Nat × Bool)) (p : E) : TA := fun σ H R => ∃ ρ M G, Bas K M G H ∧ EnvOk K ρ M G σ H ∧
  (wp p ρ).run M (fun t M' => ∀ ds vs G' H', t = .tup ds → Stp K M G H M' G' H' → PRes K M' G' H' (fun b => H b ≠ none) fl vs ds → R vs H') (exW EX W K M G σ H)
section
variable {EX : Nat → Addr} {X : Cx} {W : WX} {fn : Str → Bool} {K : PySem.W.Frag} {ρ : Slots} {M M0 : Mem} {G G0 H H0 : Hp} {σ : L2.St} {D' : Ends} {Q : Post}
def chkPar (N : List Str) (sc : Scope) (fn : Str → Bool) : List (Nat × Bool) → E → List Expr → Bool
  | [], .nil, [] => true
  | (_, m) :: r, .cons e es, x :: xs => isX e && vOk e && (!m || frOk e) && ord x && chk N e sc fn [x] && chkPar N sc fn r es xs
  | _, _, _ => false
theorem a_par (g : Good X W fn) : ∀ {fl : List (Nat × Bool)} {p : E} {xs : List Expr}, CallsX EX X p → chkPar X.N X.env.scope fn fl p xs = true → PA X xs (tR EX W X.K fl p) ∧ xs.length = fl.length
  | [], p, xs, co, h => by
    cases p <;> first | (simp [chkPar] at h; done) | skip
    cases xs with
    | nil => exact ⟨pa_nil.imp fun σ H Q ⟨ρ, M, G, b, en, q⟩ => q [] [] G H rfl (.refl b) trivial, rfl⟩
    | cons x xs => simp [chkPar] at h
  | (i, m) :: r, p, xs, co, h => by
    cases p <;> first | (simp [chkPar] at h; done) | skip
    rename_i e es
    cases xs with
    | nil => simp [chkPar] at h
    | cons x xs =>
      simp only [chkPar, Bool.and_eq_true, Bool.or_eq_true, Bool.not_eq_true'] at h
      obtain ⟨⟨⟨⟨⟨h1, h2⟩, h3⟩, h4⟩, h5⟩, h6⟩ := h
      obtain ⟨q1, q2⟩ := a_par g co.2 h6
      refine ⟨(pa_cons (((snd EX X.N e X.env.scope fn [x]) X W rfl rfl g co.1 h5).2.1 h1 x rfl).1 q1 (star_of h4 _ _)).imp fun σ H R ⟨ρ, M, G, b, en, q⟩ => ?_, congrArg (· + 1) q2⟩
      have q' := bo_run q
      have tail : ∀ {M1 G1 H1 v} {d : D} {kn : Addr → Prop}, (∀ M2 G2 H2 vs ds, Stp X.K M1 G1 H1 M2 G2 H2 → PRes X.K M2 G2 H2 (fun b => H1 b ≠ none) r vs ds → PRes X.K M2 G2 H2 (fun b => H b ≠ none) ((i, m) :: r) (v :: vs) (d :: ds)) → Stp X.K M G H M1 G1 H1 → EnvOk X.K ρ M1 G1 σ H1 →
          (PM.bind (wp es ρ) fun t => PM.bind (tupP t) fun ds => PM.pure (D.tup (d :: ds))).run M1 (fun t M' => ∀ ds vs G' H', t = .tup ds → Stp X.K M G H M' G' H' → PRes X.K M' G' H' (fun b => H b ≠ none) ((i, m) :: r) vs ds → R vs H') (exW EX W X.K M G σ H) →
          tR EX W X.K r es σ H1 (fun vs H2 => R (v :: vs) H2) := fun {M1 G1 H1 v d kn} hp t1 en1 c1 => by
        refine ⟨ρ, M1, G1, t1.bas, en1, (wp es ρ).mono (fun t M2 c2 ds vs G2 H2 e t2 pr => ?_) (fun k M' z => exW_after t1 z) (bo_run c1)⟩
        subst e
        exact c2 _ (v :: vs) G2 H2 rfl (t1.trans t2) (hp M2 G2 H2 vs ds t2 pr)
      cases m with
      | false =>
        refine tE_val h2 b en q' (fun d M1 v G1 H1 c1 t1 en1 r1 => tail (kn := fun _ => True) (fun M2 G2 H2 vs ds t2 pr => ?_) t1 en1 c1) fun _ _ z => z
        exact .inl ⟨r1.mono t2.gg, (fun z => nomatch z), pr.weak fun b z => t1.there b z⟩
      | true =>
        have h3 : frOk e = true := by rcases h3 with z | z; exact absurd z (by decide); exact z
        refine tE_of b en q' (fun d M1 v G1 H1 c1 t1 en1 r1 => tail (kn := fun _ => True) (fun M2 G2 H2 vs ds t2 pr => ?_) t1 en1 c1) fun _ _ z => z
        rw [h2, h3] at r1
        rcases r1.step t2 with ⟨rr, n⟩ | ⟨a, us, xs, rfl, rfl, k1, k2, k3, k4, k5⟩
        · exact .inl ⟨rr, fun _ => n rfl, pr.weak fun b z => t1.there b z⟩
        · refine .inr ⟨rfl, a, us, xs, rfl, rfl, k1, k2, k3, k4, fun z => z (k5 rfl), pr.weak fun b z => ?_⟩
          rcases z with z | rfl
          · exact t1.there b z
          · rcases r1 with ⟨rr, n⟩ | ⟨a', us', xs', e1, e2, w1, _⟩
            · exact absurd rfl (n rfl _)
            · cases e1; rw [w1]; simp
theorem par_red {p : E} {is : List (Nat × Bool)} {R : List V → Hp → Prop} (h : tS EX W K (.par is p) D' σ H) (hR : ∀ vs H', vs.length = is.length → D'.nx (setV σ is vs) H' → R vs H') : tR EX W K is p σ H R := by
  obtain ⟨ρ, M, G, M0, G0, H0, Q, st, en, on, run, A⟩ := h
  refine ⟨ρ, M, G, st.bas, en, (wp p ρ).mono (fun t M' c ds vs G' H' e t1 pr => ?_) (A.exE st) (show (wp p ρ).run M (fun t M' => ∃ ds, t = .tup ds ∧ ds.length = is.length ∧ Q.nx (setM ρ is ds) M') Q.ex from run)⟩
  subst e
  obtain ⟨ds', e, hl, c⟩ := c
  cases e
  obtain ⟨e1, o1⟩ := pres_use (H0 := H0) pr (en.step t1) on (fun b z => st.there b z) fun i xs a e1 e2 => by
    obtain ⟨b, ws, h1, h2, _⟩ := en.own e1
    rw [e2] at h1
    cases h1
    rw [h2]; simp
  exact hR vs H' (pres_len pr).1 (A.nx _ M' G' _ H' c (st.trans t1) e1 o1)
/-- where the names are stored from the right -/
def sw2B (sc : Scope) (x y : Str) (px py : Pos) (a b : Expr) : Bool := decide (sc.kind = .function) && (sc.names.lookup x == some .local) && (sc.names.lookup y == some .local) && (py.line == px.line) && !(x == y) && ord a && ord b && !([a, b].all (foldedForSure 8)) && !([a, b].all (constantsAlone 8))
def isSt : Expr → Bool | .Starred .. => true | _ => false
theorem not_st {a : Expr} (h : ord a = true) : isSt a = false := by cases a <;> first | rfl | cases h
theorem sw_any : ∀ {vs : List Expr}, vs.all ord = true → (vs.any fun | .Starred .. => true | _ => false) = false
  | [], _ => rfl
  | a :: r, h => by
    rw [List.all_cons, Bool.and_eq_true] at h
    show (isSt a || _) = false
    rw [not_st h.1, Bool.false_or]
    exact sw_any h.2
theorem sw2 {env : Env} {x y : Str} {px py pt pt2 : Pos} {kt k2} {a b : Expr} (h : sw2B env.scope x y px py a b = true) : swappedStores [.Tuple [.Name x px, .Name y py] kt pt] (.Tuple [a, b] k2 pt2) env = pure (some [x, y]) := by
  unfold sw2B at h
  simp only [Bool.and_eq_true, decide_eq_true_eq, beq_iff_eq, Bool.not_eq_true'] at h
  obtain ⟨⟨⟨⟨⟨⟨⟨⟨h1, h2⟩, h3⟩, h4⟩, h5⟩, h6⟩, h7⟩, h8⟩, h9⟩ := h
  have hb : env.blockKind = .function := by unfold Env.blockKind; rw [h1]; rfl
  have kx : env.kindOf x = some .local := h2
  have ky : env.kindOf y = some .local := h3
  have hyx : (y == x) = false := by
    cases q : (y == x) with
    | false => rfl
    | true => rw [eq_of_beq q] at h5; simp at h5
  have sab : ([a, b].any fun | .Starred .. => true | _ => false) = false := sw_any (by simp [h6, h7])
  have nm : ([Expr.Name x px, Expr.Name y py].filterMap fun
    | .Name id pos => if env.kindOf id == some .local && pos.line == (([Expr.Name x px, Expr.Name y py] : List Expr).head?.map (·.pos.line)).getD 0 then some id else none
    | _ => none) = [x, y] := by
    simp [List.filterMap, kx, ky, Expr.pos, h4]
  have er : [x, y].eraseDups = [x, y] := by
    simp [List.eraseDups, List.eraseDupsBy, List.eraseDupsBy.loop, hyx]
  unfold swappedStores
  rw [hb]
  simp only []
  erw [nm, sab]
  rw [er, h8, h9]
  rfl
def sw3B (sc : Scope) (x y z : Str) (px py pz : Pos) (a b c : Expr) : Bool := decide (sc.kind = .function) && (sc.names.lookup x == some .local) && (sc.names.lookup y == some .local) && (sc.names.lookup z == some .local) && (py.line == px.line) && (pz.line == px.line) && !(y == x) && !(z == y) && !(z == x) && ord a && ord b && ord c && !([a, b, c].all (foldedForSure 8)) && !([a, b, c].all (constantsAlone 8))
theorem sw3 {env : Env} {x y z : Str} {px py pz pt pt2 : Pos} {kt k2} {a b c : Expr} (h : sw3B env.scope x y z px py pz a b c = true) : swappedStores [.Tuple [.Name x px, .Name y py, .Name z pz] kt pt] (.Tuple [a, b, c] k2 pt2) env = pure (some [x, y, z]) := by
  unfold sw3B at h
  simp only [Bool.and_eq_true, decide_eq_true_eq, beq_iff_eq, Bool.not_eq_true'] at h
  obtain ⟨⟨⟨⟨⟨⟨⟨⟨⟨⟨⟨⟨⟨h1, h2⟩, h3⟩, h3'⟩, h4⟩, h4'⟩, h5⟩, h5'⟩, h5''⟩, h6⟩, h7⟩, h7'⟩, h8⟩, h9⟩ := h
  have hb : env.blockKind = .function := by unfold Env.blockKind; rw [h1]; rfl
  have kx : env.kindOf x = some .local := h2
  have ky : env.kindOf y = some .local := h3
  have kz : env.kindOf z = some .local := h3'
  have sab : ([a, b, c].any fun | .Starred .. => true | _ => false) = false := sw_any (by simp [h6, h7, h7'])
  have nm : ([Expr.Name x px, Expr.Name y py, Expr.Name z pz].filterMap fun
    | .Name id pos => if env.kindOf id == some .local && pos.line == (([Expr.Name x px, Expr.Name y py, Expr.Name z pz] : List Expr).head?.map (·.pos.line)).getD 0 then some id else none
    | _ => none) = [x, y, z] := by
    simp [List.filterMap, kx, ky, kz, Expr.pos, h4, h4']
  have er : [x, y, z].eraseDups = [x, y, z] := by
    simp [List.eraseDups, List.eraseDupsBy, List.eraseDupsBy.loop, h5, h5', h5'']
  unfold swappedStores
  rw [hb]
  simp only []
  erw [nm, sab]
  rw [er, h8, h9]
  rfl
theorem ne_of_names {N : List Str} {i j : Nat} {x y : Str} (h1 : N[i]? = some x) (h2 : N[j]? = some y) (h : (x == y) = false) : i ≠ j := fun e => by
  rw [e, h2] at h1
  cases h1
  simp at h
theorem s_par2 {p : E} {i j : Nat} {m n : Bool} {x y : Str} {a b : Expr} {px py pt pt2 pos : Pos} {kt k2} (g : Good X W fn) (co : CallsX EX X p) (hi : X.N[i]? = some x) (hj : X.N[j]? = some y) (hsw : sw2B X.env.scope x y px py a b = true) (hc : chkPar X.N X.env.scope fn [(i, m), (j, n)] p [a, b] = true) :
    PS X (.Assign [.Tuple [.Name x px, .Name y py] kt pt] (.Tuple [a, b] k2 pt2) pos) (tS EX W X.K (.par [(i, m), (j, n)] p)) := by
  have h := hsw
  unfold sw2B at h
  simp only [Bool.and_eq_true, decide_eq_true_eq, Bool.not_eq_true'] at h
  obtain ⟨⟨⟨⟨⟨⟨⟨⟨h1, h2⟩, h3⟩, h4⟩, h5⟩, h6⟩, h7⟩, h8⟩, h9⟩ := h
  refine (ps_par g.calm g.nd hi hj (ne_of_names hi hj h5) (eq_of_beq h2) (eq_of_beq h3) (a_par g co hc).1 (sw2 hsw) (by rfl)).imp fun D' σ H q => ?_
  refine par_red q fun vs H' hl hn => ?_
  match vs, hl with
  | [v, w], _ => exact ⟨v, w, rfl, hn⟩
theorem s_par3 {p : E} {i j l : Nat} {m n k : Bool} {x y z : Str} {a b c : Expr} {px py pz pt pt2 pos : Pos} {kt k2} (g : Good X W fn) (co : CallsX EX X p) (hi : X.N[i]? = some x) (hj : X.N[j]? = some y) (hk : X.N[l]? = some z) (hsw : sw3B X.env.scope x y z px py pz a b c = true) (hc : chkPar X.N X.env.scope fn [(i, m), (j, n), (l, k)] p [a, b, c] = true) :
    PS X (.Assign [.Tuple [.Name x px, .Name y py, .Name z pz] kt pt] (.Tuple [a, b, c] k2 pt2) pos) (tS EX W X.K (.par [(i, m), (j, n), (l, k)] p)) := by
  have h := hsw
  unfold sw3B at h
  simp only [Bool.and_eq_true, decide_eq_true_eq, Bool.not_eq_true'] at h
  obtain ⟨⟨⟨⟨⟨⟨⟨⟨⟨⟨⟨⟨⟨h1, h2⟩, h3⟩, h3'⟩, h4⟩, h4'⟩, h5⟩, h5'⟩, h5''⟩, h6⟩, h7⟩, h7'⟩, h8⟩, h9⟩ := h
  refine (L2.ps_par3 g.calm g.nd hi hj hk (ne_of_names hj hi h5).symm (ne_of_names hk hi h5'').symm (ne_of_names hk hj h5').symm (eq_of_beq h2) (eq_of_beq h3) (eq_of_beq h3') (a_par g co hc).1 (sw3 hsw) (by rfl)).imp fun D' σ H q => ?_
  refine par_red q fun vs H' hl hn => ?_
  match vs, hl with
  | [v, w, u], _ => exact ⟨v, w, u, rfl, hn⟩

/-! ### where the second name is seen from within: the tuple is made -/
theorem par_red2 {p : E} {is : List (Nat × Bool)} {R : List V → Hp → Prop} (h : tS EX W K (.par is p) D' σ H) (hR : ∀ vs H', vs.length = is.length → (∀ q, H' q = none → D'.nx (setV σ is vs) (upd H' q (.tup vs))) → R vs H') : tR EX W K is p σ H R := by
  obtain ⟨ρ, M, G, M0, G0, H0, Q, st, en, on, run, A⟩ := h
  refine ⟨ρ, M, G, st.bas, en, (wp p ρ).mono (fun t M' c ds vs G' H' e t1 pr => ?_) (A.exE st) (show (wp p ρ).run M (fun t M' => ∃ ds, t = .tup ds ∧ ds.length = is.length ∧ Q.nx (setM ρ is ds) M') Q.ex from run)⟩
  subst e
  obtain ⟨ds', e, hl, c⟩ := c
  cases e
  obtain ⟨e1, o1⟩ := pres_use (H0 := H0) pr (en.step t1) on (fun b z => st.there b z) fun i xs a e1 e2 => by
    obtain ⟨b, ws, h1, h2, _⟩ := en.own e1
    rw [e2] at h1
    cases h1
    rw [h2]; simp
  refine hR vs H' (pres_len pr).1 fun q n => ?_
  have t2 : Stp K M' G' H' M' G' (upd H' q (.tup vs)) := Stp.new t1.bas n
  exact A.nx _ M' G' _ _ c ((st.trans t1).trans t2) (e1.step t2) o1
def sw2C (sc : Scope) (y : Str) (a b : Expr) : Bool := (sc.names.lookup y == some .cell) && ord a && ord b
theorem sw2c {env : Env} {x y : Str} {px py pt pt2 : Pos} {kt k2} {a b : Expr} (h : env.scope.names.lookup y = some .cell) : swappedStores [.Tuple [.Name x px, .Name y py] kt pt] (.Tuple [a, b] k2 pt2) env = pure none := by
  have ky : env.kindOf y = some .cell := h
  unfold swappedStores
  simp only []
  split
  · rfl
  · split
    · rfl
    · have nm : (([Expr.Name x px, Expr.Name y py].filterMap fun
        | .Name id pos => if env.kindOf id == some .local && pos.line == (([Expr.Name x px, Expr.Name y py] : List Expr).head?.map (·.pos.line)).getD 0 then some id else none
        | _ => none).length != [Expr.Name x px, Expr.Name y py].length) = true := by
        simp only [List.filterMap, ky]
        by_cases c : (env.kindOf x == some .local && px.line == (([Expr.Name x px, Expr.Name y py] : List Expr).head?.map (·.pos.line)).getD 0) = true
        · rw [if_pos c]; rfl
        · rw [if_neg c]; rfl
      split
      · rfl
      · rename_i z
        exact absurd ((Bool.or_eq_true _ _).mpr (.inl nm)) z
theorem s_par2c {p : E} {i j : Nat} {m n : Bool} {x y : Str} {a b : Expr} {px py pt pt2 pos : Pos} {kt k2} (g : Good X W fn) (co : CallsX EX X p) (hg : chkTg X.N X.env.scope fn (.many [i, j]) (.Tuple [.Name x px, .Name y py] kt pt) = true) (hsw : sw2C X.env.scope y a b = true) (hc : chkPar X.N X.env.scope fn [(i, m), (j, n)] p [a, b] = true) :
    PS X (.Assign [.Tuple [.Name x px, .Name y py] kt pt] (.Tuple [a, b] k2 pt2) pos) (tS EX W X.K (.par [(i, m), (j, n)] p)) := by
  unfold sw2C at hsw
  simp only [Bool.and_eq_true] at hsw
  refine (ps_asg (pe_tup (x1 := k2) (pos := pt2) (a_par g co hc).1) (pg_tg g.calm g.nd g.fnE hg) (by rfl) (sw2c (eq_of_beq hsw.1.1)) (by rfl)).imp fun D' σ H q => ?_
  refine par_red2 q fun vs H' hl hn => ?_
  match vs, hl, hn with
  | [v, w], _, hn => exact ⟨by show 2 ≤ sizeLine; decide, fun q n => .inl ⟨q, [v, w], rfl, SqT.of upd_same, rfl, _, _, rfl, _, _, rfl, rfl, hn q n⟩⟩

def sw3C (sc : Scope) (z : Str) (a b c : Expr) : Bool := (sc.names.lookup z == some .cell) && ord a && ord b && ord c
theorem fm_le {α β : Type} (f : α → Option β) : ∀ l : List α, (l.filterMap f).length ≤ l.length
  | [] => Nat.le_refl _
  | x :: r => by
    have := fm_le f r
    rw [List.filterMap_cons]
    cases f x with
    | none => exact Nat.le_succ_of_le this
    | some y => exact Nat.succ_le_succ this
theorem sw3c {env : Env} {x y z : Str} {px py pz pt pt2 : Pos} {kt k2} {a b c : Expr} (h : env.scope.names.lookup z = some .cell) : swappedStores [.Tuple [.Name x px, .Name y py, .Name z pz] kt pt] (.Tuple [a, b, c] k2 pt2) env = pure none := by
  have kz : env.kindOf z = some .cell := h
  unfold swappedStores
  simp only []
  split
  · rfl
  · split
    · rfl
    · have nm : (([Expr.Name x px, Expr.Name y py, Expr.Name z pz].filterMap fun
        | .Name id pos => if env.kindOf id == some .local && pos.line == (([Expr.Name x px, Expr.Name y py, Expr.Name z pz] : List Expr).head?.map (·.pos.line)).getD 0 then some id else none
        | _ => none).length != [Expr.Name x px, Expr.Name y py, Expr.Name z pz].length) = true := by
        have e : [Expr.Name x px, Expr.Name y py, Expr.Name z pz] = [Expr.Name x px, Expr.Name y py] ++ [Expr.Name z pz] := rfl
        rw [bne_iff_ne]
        intro q
        rw [e, List.filterMap_append, List.length_append] at q
        have l1 := fm_le (fun
          | Expr.Name id pos => if env.kindOf id == some .local && pos.line == ((([Expr.Name x px, Expr.Name y py] ++ [Expr.Name z pz]) : List Expr).head?.map (·.pos.line)).getD 0 then some id else none
          | _ => none) [Expr.Name x px, Expr.Name y py]
        have l2 : (([Expr.Name z pz] : List Expr).filterMap fun
          | .Name id pos => if env.kindOf id == some .local && pos.line == ((([Expr.Name x px, Expr.Name y py] ++ [Expr.Name z pz]) : List Expr).head?.map (·.pos.line)).getD 0 then some id else none
          | _ => none) = [] := by
          simp [List.filterMap, kz]
        rw [l2] at q
        simp only [List.length_append, List.length_cons, List.length_nil] at q l1
        omega
      split
      · rfl
      · rename_i z'
        exact absurd ((Bool.or_eq_true _ _).mpr (.inl nm)) z'
theorem s_par3c {p : E} {i j l : Nat} {m n k : Bool} {x y z : Str} {a b c : Expr} {px py pz pt pt2 pos : Pos} {kt k2} (g : Good X W fn) (co : CallsX EX X p) (hg : chkTg X.N X.env.scope fn (.many [i, j, l]) (.Tuple [.Name x px, .Name y py, .Name z pz] kt pt) = true) (hsw : sw3C X.env.scope z a b c = true) (hc : chkPar X.N X.env.scope fn [(i, m), (j, n), (l, k)] p [a, b, c] = true) :
    PS X (.Assign [.Tuple [.Name x px, .Name y py, .Name z pz] kt pt] (.Tuple [a, b, c] k2 pt2) pos) (tS EX W X.K (.par [(i, m), (j, n), (l, k)] p)) := by
  unfold sw3C at hsw
  simp only [Bool.and_eq_true] at hsw
  refine (ps_asg (pe_tup (x1 := k2) (pos := pt2) (a_par g co hc).1) (pg_tg g.calm g.nd g.fnE hg) (by rfl) (sw3c (eq_of_beq hsw.1.1.1)) (by rfl)).imp fun D' σ H q => ?_
  refine par_red2 q fun vs H' hl hn => ?_
  match vs, hl, hn with
  | [v, w, u], _, hn => exact ⟨by show 3 ≤ sizeLine; decide, fun q n => .inl ⟨q, [v, w, u], rfl, SqT.of upd_same, rfl, _, _, rfl, _, _, rfl, _, _, rfl, rfl, hn q n⟩⟩

/-! ### name = [.. for ..] -/
def swLc (sc : Scope) (n : Str) (py pos : Pos) (s : Scope) : Bool := decide (sc.kind = .function) && (sc.names.lookup n == some .local) && (py.line == pos.line) && !(s.names.any fun (m, k) => m == n && (k == .local || k == .cell))
def noLc : Expr → Bool | .ListComp .. => false | .SetComp .. => false | .DictComp .. => false | _ => true
theorem noLc_sw {x : Expr} (h : noLc x = true) (t : Option Expr) (l : Nat) (env : Env) : swapsWith x t l env = pure false := by
  cases x <;> first | rfl | cases h
theorem comp_lc {elt it t : E} {tg : Tg} {own : List Nat} {x : Expr} {gs : List Comprehension} {scope : Scope} {pos : Pos} (g : Good X W fn) (co : CallsX EX X (.comp elt tg it t own)) (h : chk X.N (.comp elt tg it t own) X.env.scope fn [.ListComp x gs scope pos] = true) :
    ∀ {i : Nat} {y : Str} {py spos : Pos}, X.N[i]? = some y → swLc X.env.scope y py pos scope = true → ∃ TE' : TE, PS X (.Assign [.Name y py] (.ListComp x gs scope pos) spos) (tAsg TE' (gName i)) ∧ ∀ σ H Q, tE EX W X.K (.comp elt tg it t own) σ H Q → TE' σ H Q := by
  intro i y py spos hy hsw
  unfold swLc at hsw
  simp only [Bool.and_eq_true, decide_eq_true_eq, Bool.not_eq_true'] at hsw
  obtain ⟨⟨⟨w1, w2⟩, w3⟩, w4⟩ := hsw
  obtain ⟨tx, ix, ifs, rfl, hc⟩ := chk_comp h
  simp only [Bool.and_eq_true, decide_eq_true_eq, List.all_eq_true, Bool.or_eq_true, Bool.not_eq_true'] at hc
  obtain ⟨⟨⟨⟨⟨⟨⟨⟨⟨h1, h2⟩, h3⟩, h4⟩, h5⟩, h6⟩, h7⟩, h8⟩, h9⟩, ⟨h10, h11⟩, h12⟩ := hc
  have pi := ((snd EX X.N it X.env.scope fn [ix]) X W rfl rfl g co.2.1 h4).2.2 h1 ix rfl tx fun z => by
    rcases h3 with q | q
    · rw [q] at z; cases z
    · exact q
  obtain ⟨tt, htt, hq⟩ := lc_of (EX := EX) (X := X) (W := W) (elt := elt) (it := it) (t := t) (tg := tg) (scope := scope) (ifs := ifs) h6 (fun i hi => by simpa using h7 i hi) (by
    unfold tstB at h9
    split at h9
    · refine .inl ⟨rfl, ?_⟩
      unfold isYes at h9
      split at h9
      · rfl
      · cases h9
    · rename_i c
      rw [Bool.and_eq_true, Bool.and_eq_true] at h9
      exact .inr ⟨c, rfl, fun s H C cl fp => (((snd EX X.N t _ _ [c]) (X.blk s H scope (compEnvC scope cl C X.env) fp) noW rfl rfl (good_blk g s H scope _ fp) co.2.2 h9.2).2.1 h9.1.1 c rfl).2 h9.1.2⟩
    · cases h9) h11
  refine ⟨_, ps_setLc g.calm g.nd hy (eq_of_beq w2) (sw_true w1 (eq_of_beq w2) w3 w4) pi (blkOk_by h5) (fun s H C cl fp => pg_tg (X := X.blk s H scope (compEnvC scope cl C X.env) fp) g.calm g.nd rfl h8) htt (fun s H C cl fp => ((snd EX X.N elt _ _ [x]) (X.blk s H scope (compEnvC scope cl C X.env) fp) noW rfl rfl (good_blk g s H scope _ fp) co.1 h12).2.1 h10 x rfl |>.1) (fun u => by cases ix <;> first | rfl | cases h2), hq⟩
theorem s_setC {a : E} {i : Nat} {n : Str} {x : Expr} {pos pos' : Pos} {T : TE} (h : PS X (.Assign [.Name n pos'] x pos) (tAsg T (gName i))) (hT : ∀ σ H Q, tE EX W X.K a σ H Q → T σ H Q) (hv : vOk a = true) : PS X (.Assign [.Name n pos'] x pos) (tS EX W X.K (.set i a)) ∧ (frOk a = true → PS X (.Assign [.Name n pos'] x pos) (tS EX W X.K (.new i a))) := by
  constructor
  · exact h.imp fun D' σ H ⟨ρ, M, G, M0, G0, H0, Q, st, en, on, run, A⟩ => hT _ _ _ (
      tE_val hv st.bas en (show (wp a ρ).run M _ _ from run) (fun d M' v G' H' c t en' r => A.nx _ M' G' _ H' c (st.trans t) (en'.set i r) (on.set i d v)) (A.exE st))
  · exact fun hr => h.imp fun D' σ H ⟨ρ, M, G, M0, G0, H0, Q, st, en, on, run, A⟩ => hT _ _ _ (
      tE_of st.bas en (show (wp a ρ).run M _ _ from run) (fun d M' v G' H' c t en' r => by
        rw [hv, hr] at r
        obtain ⟨p, us, xs, rfl, c, h1, h2, h3, rr, _, h0, ne⟩ := new_use st en on t en' r c
        exact A.nx _ M' G' _ H' c (st.trans t) (en'.setOwn i h1 h2 h3 rr fun j ys e _ => ne j ys e) (on.setOwn i xs h0)) (A.exE st))
theorem s_never {st : Stmt} : PS X st (tS EX W X.K .never) := PS.imp ps_never fun D' σ H ⟨ρ, M, G, M0, G0, H0, Q, st, en, on, run, A⟩ => run
end
end PL
set_option Elab.async false
set_option linter.all false
set_option maxRecDepth 100000
set_option maxHeartbeats 1000000
namespace PL
open PySem L2 PyProof.Rows PySem.Spec

/-! ## the program's own exceptions -/
def exNames : List Str := ["InvalidStreet", "InvalidKind", "InvalidPlace", "InvalidHour", "InvalidHours", "UnlikePlaces", "InvalidCars", "InvalidDays", "InvalidPart", "TooLarge", "InvalidPlaces", "InvalidSign", "Repeated", "InvalidIndex", "NothingToUndo", "ParseError"]
def exName (k : Nat) : Str := exNames.getD k "InvalidStreet"
abbrev veMro : List Value := [.type "ValueError", .type "Exception", .type "BaseException", .type "object"]
structure ExOk (EX : Nat → Addr) (K : PySem.W.Frag) (mg : Str → Option Value) (k : Nat) : Prop where
  g : mg (exName k) = some (.ref (EX k))
  q : PySem.W.excIn K (EX k) veMro "ValueError.__new__" = true
  kp : PySem.W.keepIn K (.ref (EX k)) = true
  sub : PySem.W.subIn K (.ref (EX k)) (.type "BaseException") = some true
  ty : PySem.W.typeIn K (.ref (EX k)) = some (.type "type")
def MatchOk (EX : Nat → Addr) (K : PySem.W.Frag) (k j : Nat) : Prop := PySem.W.exmOne K (.ref (EX k)) (.ref (EX j)) = some (decide (k = j))
section
variable {EX : Nat → Addr} {X : Cx} {W : WX} {fn : Str → Bool} {K : PySem.W.Frag} {ρ : Slots} {M M0 : Mem} {G G0 H H0 : Hp} {σ : L2.St} {D' : Ends} {Q : Post}
theorem pmk_none {x : Str} {C : Addr} {p pos : Pos} (q : PySem.W.excIn X.K C veMro "ValueError.__new__" = true) (gC : X.mg x = some (.ref C)) (kC : PySem.W.keepIn X.K (.ref C) = true) (r : Raises X (.ref C)) (hg : Gl X x) (hdb : (x == ("__debug__" : Str)) = false) :
    PMk X (.Call (.Name x p) [] [] pos) (fun _ H Q => Q (.ref C) none H) := by
  intro pins s σ H Q I h
  refine wpAny_Call_Name_kw (ld_glob I hg gC ?_ hdb)
  refine PySem.W.callWith_K0 I.kIn kC ?_
  show wpAny _ _ (call (.ref C) []) _ _ _
  obtain ⟨bm, N, nm, qn, bs, hdct, sn, sub, ab, col, dd, k0, k1, k2, k3, k5, mN, hC, hN, hni, T⟩ := exc_obj I.kIn q
  exact wpAny_call_exc_subT PySem.F.excBase_ValueError T hC hN hni (fun h' e hm => mk_of I hm r h (I.hok.gone hm.new)) (by show 0 ≤ sizeLine; exact Nat.zero_le _)
theorem s_rse {k : Nat} {x : Str} {p p2 pos : Pos} (g : Good X W fn) (e : ExOk EX X.K X.mg k) (hx : x = exName k) (hg : Gl X x) (hdb : (x == ("__debug__" : Str)) = false) : PS X (.Raise (some (.Call (.Name x p) [] [] p2)) none pos) (tS EX W X.K (.rse k)) := by
  subst hx
  exact (L2.ps_raise g.calm g.tk (pmk_none e.q e.g e.kp (raises_own e.sub e.ty) hg hdb)).imp fun D' σ H ⟨ρ, M, G, M0, G0, H0, Q, st, en, on, run, A⟩ => A.ex k M G σ H run st
/-! ### try: return e, except X: return '..' -/
def hdL (EX : Nat → Addr) (hs : List (Nat × Str)) : List (Value × (Addr → Value → Option Addr → TS)) := hs.map fun q => (.ref (EX q.1), fun _ _ _ => tRet (tC (.str q.2)))
def chkHd (sc : Scope) : List (Nat × Str) → List ExceptHandler → Bool
  | [], [] => true
  | (k, s) :: r, .ExceptHandler (some (.Name n _)) none [.Return (some (.Constant (.str s') _ _)) _] _ :: hds => decide (n = exName k ∧ s = s') && glbB sc n && !(n == ("__debug__" : Str)) && chkHd sc r hds
  | _, _ => false
theorem hds_ok : ∀ {hs : List (Nat × Str)} {hds : List ExceptHandler}, (∀ k ∈ hs.map (·.1), ExOk EX X.K X.mg k) → chkHd X.env.scope hs hds = true → HdsOk X hds (hdL EX hs)
  | [], [], _, _ => .nil
  | [], _ :: _, _, h => Bool.noConfusion (show false = true from h)
  | (k, s) :: r, [], _, h => Bool.noConfusion (show false = true from h)
  | (k, s) :: r, hd :: hds, ho, h => by
    unfold chkHd at h
    split at h
    · rename_i e1 e2; cases e1
    · rename_i e1 e2
      cases e1
      cases e2
      simp only [Bool.and_eq_true, decide_eq_true_eq, Bool.not_eq_true'] at h
      obtain ⟨⟨⟨⟨rfl, rfl⟩, h2⟩, h3⟩, h4⟩ := h
      exact .cons ⟨glb_of h2, h3, .inl (ho k (by simp)).g⟩ (fun a oe cls d pn _ _ => pss_one (ps_ret pe_str)) (hds_ok (fun j hj => ho j (by simp at hj ⊢; exact .inr hj)) h4)
    · cases h
theorem many_use {D' : Ends} {σ : L2.St} {H : Hp} {Wo : WX} {x : Str} {k : Nat} : ∀ {hs : List (Nat × Str)}, hs.lookup k = some x → (∀ j ∈ hs.map (·.1), MatchOk EX K k j) → D'.rt (.str x) H → wMany K Wo D' (hdL EX hs) (.ref (EX k)) none σ H
  | [], h, _, _ => by cases h
  | (j, s) :: r, h, hm, q => by
    refine ⟨_, hm j (by simp), fun e a _ => ?_, fun e => ?_⟩
    · have e : k = j := of_decide_eq_true e
      subst e
      simp [List.lookup] at h
      subst h
      exact q
    · have e : ¬ k = j := of_decide_eq_false e
      have e2 : (k == j) = false := by simpa using e
      simp only [List.lookup, e2] at h
      exact many_use h (fun i hi => hm i (by simp at hi ⊢; exact .inr hi)) q
theorem lookup_in : ∀ {hs : List (Nat × Str)} {k : Nat} {x : Str}, hs.lookup k = some x → k ∈ hs.map (·.1)
  | [], _, _, h => by cases h
  | (j, s) :: r, k, x, h => by
    by_cases e : k = j
    · rw [e]; simp
    · have e2 : (k == j) = false := by simpa using e
      simp only [List.lookup, e2] at h
      exact List.mem_cons_of_mem _ (lookup_in h)
theorem s_tryret {a : E} {hs : List (Nat × Str)} {x : Expr} {h0 : ExceptHandler} {hds : List ExceptHandler} {rp pos : Pos} (g : Good X W fn) (hst : X.stack = X.env :: X.outer) (hfr : X.env.frame = some X.env.locals) (ho : ∀ k ∈ hs.map (·.1), ExOk EX X.K X.mg k ∧ ∀ j ∈ hs.map (·.1), MatchOk EX X.K k j)
    (hc : chkHd X.env.scope hs (h0 :: hds) = true) (hv : vOk a = true) (ha : ∀ (W' : WX) (pn : List (Addr × Obj)) (xe : Value → Shared → Prop), Good (X.tr pn xe) W' fn → PE (X.tr pn xe) x (tE EX W' X.K a)) :
    PS X (.Try [.Return (some x) rp] (h0 :: hds) [] [] pos) (tS EX W X.K (.tryret a hs)) := by
  refine (L2.ps_try_many hst hfr g.tk (tb := fun W' => tS EX W' X.K (.ret a)) (fun W' pn xe tk _ => pss_one (s_ret (X := X.tr pn xe) hv (ha W' pn xe ⟨g.calm, g.nd, tk, g.hu, g.nm, g.fnE⟩))) (hds_ok (fun k hk => (ho k hk).1) hc)).imp fun D' σ H ⟨ρ, M, G, M0, G0, H0, Q, st, en, on, run, A⟩ => ?_
  refine ⟨ρ, M, G, M0, G0, H0, { Q with ex := SM.exTo hs Q }, st, en, on, run, ⟨A.nx, A.rt, fun k M' G' σ' H' q t => ?_⟩⟩
  have q : SM.exTo hs Q k M' := q
  unfold SM.exTo at q
  cases h : hs.lookup k with
  | none => rw [h] at q; exact q.elim
  | some s =>
    rw [h] at q
    have mk := lookup_in h
    exact many_use h (ho k mk).2 (A.rt _ M' (.str s) G' H' q t (.str s))
end
end PL
set_option Elab.async false
set_option linter.all false
set_option maxRecDepth 100000
set_option maxHeartbeats 1000000
namespace PL
open PySem L2 PyProof.Rows PySem.Spec

/-! ## statements about an own object -/
section
variable {EX : Nat → Addr} {X : Cx} {W : WX} {fn : Str → Bool} {K : PySem.W.Frag} {ρ : Slots} {M M0 : Mem} {G G0 H H0 : Hp} {σ : L2.St} {D' : Ends} {Q : Post}
theorem EnvOk.wr (en : EnvOk K ρ M G σ H) {a : Addr} {c : Cell} {o : HO} (m : M a ≠ none) : EnvOk K ρ (M.put a c) G σ (upd H a o) where
  len := en.len
  slot := fun j s q => by
    cases s with
    | unk => trivial
    | val d => exact en.slot j _ q
    | own zs =>
      obtain ⟨b, ws, h1, h2, h3, h4, h5⟩ := en.slot j _ q
      have ne : b ≠ a := fun z => m (by rw [← z]; exact h4)
      exact ⟨b, ws, h1, by rw [upd_ne ne]; exact h2, h3, by rw [Mem.put_ne _ _ ne]; exact h4, h5⟩
  dist := en.dist
theorem s_fset {a : E} {i : Nat} {n f : Str} {x : Expr} {p1 p2 pos : Pos} (g : Good X W fn) (ok : Cls X.K (kC X.K) ∧ NoAttr X.K (kC X.K) f) (hi : X.N[i]? = some n) (hx : Vis X.env.scope n) (hn : nmB n = true) (hs : swapsWith x (some (.Attribute (.Name n p1) f p2)) pos.line X.env = pure false)
    (hv : vOk a = true) (ha : PE X x (tE EX W X.K a)) : PS X (.Assign [.Attribute (.Name n p1) f p2] x pos) (tS EX W X.K (.fset i f a)) := by
  unfold nmB at hn
  simp only [Bool.and_eq_true, Bool.not_eq_true'] at hn
  refine (ps_fld (pe_var (pos := p1) hi hx hn.1 hn.2) ha hs).imp fun D' σ H ⟨ρ, M, G, M0, G0, H0, Q, st, en, on, run, A⟩ => ?_
  refine tE_val hv st.bas en (show (wp a ρ).run M (fun d M' => ∃ p fs, ρ[i]? = some (.val (.cell p)) ∧ M' p = some (.ins fs) ∧ fs.length < 1000 ∧ Q.nx ρ (M'.put p (.ins (putD f d fs)))) Q.ex from run) (fun d M' v G' H' c t en' r => ?_) (A.exE st)
  obtain ⟨p, fs, e0, m, hl, c⟩ := c
  obtain ⟨u, e1, ru⟩ := en'.val e0
  cases ru
  obtain ⟨_, _, dx, vs, eh, fo⟩ := t.bas.cells p _ m
  have hc : CellOk X.K (M'.put p (.ins (putD f d fs))) G' (upd H' p (.ins (kC X.K) dx (putF f v vs))) p (.ins (putD f d fs)) := ⟨dx, _, upd_same, fo.put r⟩
  exact ⟨_, e1, p, kC X.K, dx, vs, rfl, eh, ok.1, ok.2, by rw [fo.length]; exact hl, A.nx ρ _ G' σ _ c ((st.trans t).wr (by rw [m]; simp) (by rw [m]; simp) hc) (en'.wr (by rw [m]; simp)) on⟩
theorem s_appe {a e : E} {y x : Expr} {p2 p3 pos : Pos} (g : Good X W fn) (hd : dotOk y = true) (ho : ord x = true) (hl : (p2.endLine == p3.line) = true) (hv : vOk e = true) (ha : PE X y (tE EX W X.K a)) (he : PE X x (tE EX W X.K e)) :
    PS X (.Expr (.Call (.Attribute y "append" p2) [x] [] p3) pos) (tS EX W X.K (.appe a e)) := by
  have sx : starEach [x] X.env = [(false, eval x X.env)] := star_of ho [] _
  have base := ps_expr (pos := pos) (pe_bm (cpos := p3) (apos := p2) PySem.F.plainAttrs_list PySem.F.slot_list_append PySem.F.type_list_append mt_append ha (pa_cons he pa_nil sx) (dot_base hd) (by rw [sx]; rfl) hl (by rw [sx]; rfl) (by rfl)) (by rfl)
  refine base.imp fun D' σ H ⟨ρ, M, G, M0, G0, H0, Q, st, en, on, run, A⟩ => ?_
  refine tE_of st.bas en (show (wp a ρ).run M (fun d M1 => ∃ p zs, d = .cell p ∧ M1 p = some (.lst zs) ∧ (wp e ρ).run M1 (fun d2 M2 => ∃ xs, M2 p = some (.lst xs) ∧ xs.length < sizeLine ∧ Q.nx ρ (M2.put p (.lst (xs ++ [d2])))) Q.ex) Q.ex from run) (fun d M1 v G1 H1 c t1 en1 r1 => ?_) (A.exE st)
  obtain ⟨p, zs, rfl, m, c⟩ := c
  cases r1.nolst (fun _ z => nomatch z)
  obtain ⟨_, _, vs, h1, r⟩ := t1.bas.cells p _ m
  refine ⟨.inl ⟨rfl, vs, SqL.of h1⟩, tE_val hv t1.bas en1 c (fun d2 M2 u G2 H2 c2 t2 en2 ru => ?_) (A.exE (st.trans t1))⟩
  obtain ⟨xs, m2, hl, c3⟩ := c2
  obtain ⟨_, _, us', h1', r'⟩ := t2.bas.cells p _ m2
  have hc : CellOk X.K (M2.put p (.lst (xs ++ [d2]))) G2 (upd H2 p (.lst (us' ++ [u]))) p (.lst (xs ++ [d2])) := ⟨us' ++ [u], upd_same, r'.append (.one ru)⟩
  exact ⟨p, us', u, rfl, rfl, h1', by rw [r'.length]; exact hl, A.nx _ _ G2 σ _ c3 (((st.trans t1).trans t2).wr (by rw [m2]; simp) (by rw [m2]; simp) hc) (en2.wr (by rw [m2]; simp)) on⟩
end
end PL
set_option Elab.async false
set_option linter.all false
set_option maxRecDepth 100000
set_option maxHeartbeats 1000000
namespace PL
open PySem L2 PyProof.Rows PySem.Spec

/-! ## the check of statements -/
def one : S → Bool | .seq .. => false | .frz _ => false | _ => true
def isFrz : S → Bool | .frz _ => true | _ => false
def isComp : E → Bool | .comp .. => true | _ => false
def noSw (sc : Scope) (n : Str) (py pos : Pos) (s : Scope) : Bool := decide (sc.kind = .function) && !((sc.names.lookup n == some .local) && (py.line == pos.line) && !(s.names.any fun (m, k) => m == n && (k == .local || k == .cell)))
theorem noSw_sw {elt : Expr} {gs : List Comprehension} {s : Scope} {pos py : Pos} {n : Str} {l : Nat} {env : Env} (h : noSw env.scope n py pos s = true) : swapsWith (.ListComp elt gs s pos) (some (.Name n py)) l env = pure false := by
  unfold noSw at h
  simp only [Bool.and_eq_true, decide_eq_true_eq, Bool.not_eq_true'] at h
  have hb : env.blockKind = .function := by unfold Env.blockKind; rw [h.1]; rfl
  unfold swapsWith
  simp only [hb, Expr.pos]
  have h2 : (env.kindOf n == some .local && py.line == pos.line && !(s.names.any fun (m, k) => m == n && (k == .local || k == .cell))) = false := h.2
  show pure (((ScopeKind.function == ScopeKind.function) && env.kindOf n == some .local && py.line == pos.line && !(s.names.any fun (m, k) => m == n && (k == .local || k == .cell)))) = pure false
  rw [show (ScopeKind.function == ScopeKind.function) = true from rfl, Bool.true_and, h2]
def setB (sc : Scope) (n : Str) (p' : Pos) (a : E) : Expr → Bool
  | .ListComp _ _ s lp => (isComp a && swLc sc n p' lp s) || noSw sc n p' lp s
  | x => noLc x
def unpB : Expr → Bool | .Tuple vs _ _ => vs.all (foldedForSure 8) | x => noLc x
def chkAsg (N : List Str) (sc : Scope) (fn : Str → Bool) (i : Nat) (a : E) : List Stmt → Bool
  | [.Assign [.Name n p'] x _] => decide (N[i]? = some n) && locB sc fn n && vOk a && isX a && chk N a sc fn [x] && setB sc n p' a x
  | _ => false
def chkPut (N : List Str) (sc : Scope) (fn : Str → Bool) (i : Nat) (k a : E) : List Stmt → Bool
  | [.Assign [.Subscript (.Name n _) y _] x _] => decide (N[i]? = some n) && visB sc n && nmB n && ord y && noLc x && vOk a && (isX a && chk N a sc fn [x]) && (isX k && chk N k sc fn [y])
  | _ => false
def chkApp (N : List Str) (sc : Scope) (fn : Str → Bool) (w : Str) (i : Nat) (a : E) : List Stmt → Bool
  | [.Expr (.Call (.Attribute (.Name n _) m p2) [x] [] p3) _] => decide (m = w) && decide (N[i]? = some n) && visB sc n && nmB n && ord x && (p2.endLine == p3.line) && (isX a && chk N a sc fn [x])
  | _ => false
def chkParS (N : List Str) (sc : Scope) (fn : Str → Bool) (p : E) : List (Nat × Bool) → List Stmt → Bool
  | [(i, m), (j, n)], [.Assign [.Tuple [.Name x px, .Name y py] _ _] (.Tuple [a, b] _ _) _] => decide (N[i]? = some x ∧ N[j]? = some y) && (sw2B sc x y px py a b || (sw2C sc y a b && chkTg N sc fn (.many [i, j]) (.Tuple [.Name x px, .Name y py] 0 px))) && chkPar N sc fn [(i, m), (j, n)] p [a, b]
  | [(i, m), (j, n), (l, k)], [.Assign [.Tuple [.Name x px, .Name y py, .Name z pz] _ _] (.Tuple [a, b, c] _ _) _] => decide (N[i]? = some x ∧ N[j]? = some y ∧ N[l]? = some z) && (sw3B sc x y z px py pz a b c || (sw3C sc z a b c && chkTg N sc fn (.many [i, j, l]) (.Tuple [.Name x px, .Name y py, .Name z pz] 0 px))) && chkPar N sc fn [(i, m), (j, n), (l, k)] p [a, b, c]
  | _, _ => false
def chkNop : List Stmt → Bool | [] => true | [.Pass _] => true | [.Expr (.Constant (.str _) _ _) _] => true | _ => false
def chkS (N : List Str) (sc : Scope) (fn : Str → Bool) : S → List Stmt → Bool
  | .nop, xs => chkNop xs
  | .never, _ => true
  | .seq s t, xs => if isFrz s = true then chkS N sc fn t xs else match xs with | x :: xs => one s && chkS N sc fn s [x] && chkS N sc fn t xs | [] => false
  | .set i a, xs => chkAsg N sc fn i a xs
  | .new i a, xs => frOk a && chkAsg N sc fn i a xs
  | .newcell i, xs => match xs with | [.Assign [.Name n _] (.List [] _) _] => decide (N[i]? = some n) && locB sc fn n | _ => false
  | .unp is a, xs => match xs with | [.Assign [.Tuple ys k p] x _] => chkTg N sc fn (.many is) (.Tuple ys k p) && vOk a && isX a && chk N a sc fn [x] && ((unpB x || !(ys.length == 2 || ys.length == 3)) && (noLc x || isTupX x)) | _ => false
  | .par fl p, xs => chkParS N sc fn p fl xs
  | .put i k a, xs => chkPut N sc fn i k a xs
  | .putc i k a, xs => chkPut N sc fn i k a xs
  | .aug i a, xs => match xs with | [.AugAssign (.Name n _) op x _] => decide (op = .Add) && decide (N[i]? = some n) && locB sc fn n && isX a && chk N a sc fn [x] | _ => false
  | .app i a, xs => vOk a && chkApp N sc fn "append" i a xs
  | .appc i a, xs => vOk a && chkApp N sc fn "append" i a xs
  | .ext i a, xs => chkApp N sc fn "extend" i a xs
  | .fset i f a, xs => match xs with | [.Assign [.Attribute (.Name n _) m _] x _] => decide (m = f) && decide (N[i]? = some n) && visB sc n && nmB n && noLc x && vOk a && (isX a && chk N a sc fn [x]) | _ => false
  | .appe a e, xs => match xs with | [.Expr (.Call (.Attribute y m p2) [x] [] p3) _] => decide (m = "append") && dotOk y && ord x && (p2.endLine == p3.line) && vOk e && (isX a && chk N a sc fn [y]) && (isX e && chk N e sc fn [x]) | _ => false
  | .ex a, xs => match xs with | [.Expr x _] => noLc x && isX a && chk N a sc fn [x] | _ => false
  | .ret a, xs => match xs with | [.Return (some x) _] => vOk a && isX a && chk N a sc fn [x] | _ => false
  | .iff c s t, xs => match xs with | [.If x xs ys _] => (isX c && tst c && chk N c sc fn [x]) && chkS N sc fn s xs && chkS N sc fn t ys | _ => false
  | .whl c s, xs => match xs with | [.While x xs [] _] => (isX c && tst c && chk N c sc fn [x]) && chkS N sc fn s xs | _ => false
  | .rse k, xs => match xs with | [.Raise (some (.Call (.Name x _) [] [] _)) none _] => decide (x = exName k) && glbB sc x && !(x == ("__debug__" : Str)) | _ => false
  | .tryret a hs, xs => match xs with | [.Try [.Return (some x) _] (h :: hds) [] [] _] => chkHd sc hs (h :: hds) && vOk a && isX a && chk N a sc fn [x] | _ => false
  | .tryn s, xs => match xs with | [.Try ys (_ :: _) [] [] _] => chkS N sc fn s ys | _ => false
  | .forr tg it s, xs => match xs with | [.For x y xs [] _] => vI it && isI it && ord y && (!needsTup it || isTupX x) && chk N it sc fn [y] && chkTg N sc fn tg x && chkS N sc fn s xs | _ => false
  | _, _ => false
def CallsS (C : Str → FS → Prop) (O : Ob → Prop) (R : Nat → Prop) (T : Nat → Nat → Prop) : S → Prop
  | .seq s t => CallsS C O R T s ∧ CallsS C O R T t | .tryn s => CallsS C O R T s
  | .set _ e => CallsOk C O e | .new _ e => CallsOk C O e | .unp _ e => CallsOk C O e | .par _ e => CallsOk C O e
  | .put _ k e => CallsOk C O k ∧ CallsOk C O e | .putc _ k e => CallsOk C O k ∧ CallsOk C O e | .aug _ e => CallsOk C O e
  | .app _ e => CallsOk C O e | .ext _ e => CallsOk C O e | .appc _ e => CallsOk C O e | .ex e => CallsOk C O e | .ret e => CallsOk C O e
  | .iff c a b => CallsOk C O c ∧ CallsS C O R T a ∧ CallsS C O R T b | .forr _ e b => CallsOk C O e ∧ CallsS C O R T b | .whl c b => CallsOk C O c ∧ CallsS C O R T b
  | .rse k => R k
  | .tryret e hs => CallsOk C O e ∧ ∀ k ∈ hs.map (·.1), R k ∧ ∀ j ∈ hs.map (·.1), T k j
  | .fset _ f e => O (.attr f) ∧ CallsOk C O e | .appe a e => CallsOk C O a ∧ CallsOk C O e
  | _ => True
section
variable {EX : Nat → Addr} {X : Cx} {W : WX} {fn : Str → Bool}
theorem loc_of {n : Str} (g : Good X W fn) (h : locB X.env.scope fn n = true) : Loc X.env.scope n ∧ (X.fn n = true ∨ X.env.scope.names.lookup n = some .local) := by
  unfold locB at h
  split at h
  · rename_i e; exact ⟨.inl e, .inr e⟩
  · rename_i e; exact ⟨.inr e, .inl (by rw [g.fnE]; exact h)⟩
  · cases h
theorem vis_by {sc : Scope} {n : Str} (h : visB sc n = true) : Vis sc n := by
  unfold visB at h
  split at h <;> first | exact .inl (by assumption) | exact .inr (.inl (by assumption)) | exact .inr (.inr (by assumption)) | cases h
theorem unp_sw {ys : List Expr} {k : Nat} {p : Pos} {x : Expr} (h : (unpB x || !(ys.length == 2 || ys.length == 3)) = true) (hn : noLc x = true ∨ isTupX x = true) (l : Nat) (env : Env) : swapsWithSole [.Tuple ys k p] x l env = pure false ∧ swappedStores [.Tuple ys k p] x env = pure none := by
  cases x <;> first | exact ⟨rfl, rfl⟩ | (rcases hn with z | z <;> cases z; done) | skip
  rename_i vs k2 p2
  refine ⟨rfl, ?_⟩
  have h' : (vs.all (foldedForSure 8) || !(ys.length == 2 || ys.length == 3)) = true := h
  rcases Bool.or_eq_true_iff.mp h' with h' | h'
  · unfold swappedStores
    simp only [h', if_true]
    split
    · rfl
    · split
      · rfl
      · split
        · rfl
        · rfl
  · unfold swappedStores
    simp only [h', Bool.true_or, if_true]
theorem asg_ok {i : Nat} {a : E} {xs : List Stmt} (g : Good X W fn) (co : CallsX EX X a) (h : chkAsg X.N X.env.scope fn i a xs = true) : ∃ st, xs = [st] ∧ PS X st (tS EX W X.K (.set i a)) ∧ (frOk a = true → PS X st (tS EX W X.K (.new i a))) := by
  unfold chkAsg at h
  split at h
  · rename_i n p' x pos
    simp only [Bool.and_eq_true, decide_eq_true_eq] at h
    obtain ⟨⟨⟨⟨⟨h1, h2⟩, h3⟩, h4⟩, h5⟩, h6⟩ := h
    obtain ⟨l1, l2⟩ := loc_of g h2
    refine ⟨_, rfl, ?_⟩
    by_cases hx : noLc x = true
    · have pe := ((snd EX X.N a X.env.scope fn [x]) X W rfl rfl g co h5).2.1 h4 x rfl |>.1
      exact ⟨s_set g h1 l1 l2 (noLc_sw hx _ _ _) h3 pe, fun hf => s_new g h1 l1 l2 (noLc_sw hx _ _ _) h3 hf pe⟩
    · cases x <;> first | exact absurd rfl hx | skip
      case ListComp e gs s lp =>
        simp only [setB, Bool.or_eq_true, Bool.and_eq_true] at h6
        rcases h6 with h6 | h6
        · cases a <;> first | (exact Bool.noConfusion h6.1) | skip
          obtain ⟨T, q1, q2⟩ := comp_lc g co h5 (spos := pos) h1 h6.2
          exact s_setC q1 q2 h3
        · have pe := ((snd EX X.N a X.env.scope fn [.ListComp e gs s lp]) X W rfl rfl g co h5).2.1 h4 _ rfl |>.1
          exact ⟨s_set g h1 l1 l2 (noSw_sw h6) h3 pe, fun hf => s_new g h1 l1 l2 (noSw_sw h6) h3 hf pe⟩
      case SetComp => exact Bool.noConfusion (show false = true from h6)
      case DictComp => exact Bool.noConfusion (show false = true from h6)
  · cases h
theorem put_ok {i : Nat} {a k : E} {xs : List Stmt} (g : Good X W fn) (co : CallsX EX X k ∧ CallsX EX X a) (h : chkPut X.N X.env.scope fn i k a xs = true) : ∃ st, xs = [st] ∧ PS X st (tS EX W X.K (.put i k a)) ∧ PS X st (tS EX W X.K (.putc i k a)) := by
  unfold chkPut at h
  split at h
  · rename_i n p1 y p2 x pos
    simp only [Bool.and_eq_true, decide_eq_true_eq] at h
    obtain ⟨⟨⟨⟨⟨⟨⟨h1, h2⟩, h3⟩, h4⟩, h5⟩, h6⟩, h7, h8⟩, h9, h10⟩ := h
    exact ⟨_, rfl, s_put g h1 (vis_by h2) h3 h4 (show swapsWith x (some (.Subscript (.Name n p1) y p2)) pos.line X.env = pure false from noLc_sw h5 _ _ _) (by cases x <;> first | rfl | cases h5) h6 (((snd EX X.N a X.env.scope fn [x]) X W rfl rfl g co.2 h8).2.1 h7 x rfl |>.1) (((snd EX X.N k X.env.scope fn [y]) X W rfl rfl g co.1 h10).2.1 h9 y rfl |>.1)⟩
  · cases h
theorem app_ok {w : Str} {i : Nat} {a : E} {xs : List Stmt} (g : Good X W fn) (co : CallsX EX X a) (h : chkApp X.N X.env.scope fn w i a xs = true) : ∃ n p1 p2 x p3 pos, xs = [.Expr (.Call (.Attribute (.Name n p1) w p2) [x] [] p3) pos] ∧ X.N[i]? = some n ∧ Vis X.env.scope n ∧ nmB n = true ∧ ord x = true ∧ (p2.endLine == p3.line) = true ∧ PE X x (tE EX W X.K a) := by
  unfold chkApp at h
  split at h
  · rename_i n p1 m p2 x p3 pos
    simp only [Bool.and_eq_true, decide_eq_true_eq] at h
    obtain ⟨⟨⟨⟨⟨⟨rfl, h1⟩, h2⟩, h3⟩, h4⟩, h5⟩, h6, h7⟩ := h
    exact ⟨n, p1, p2, x, p3, pos, rfl, h1, vis_by h2, h3, h4, h5, ((snd EX X.N a X.env.scope fn [x]) X W rfl rfl g co h7).2.1 h6 x rfl |>.1⟩
  · cases h
theorem parS_ok {p : E} {fl : List (Nat × Bool)} {xs : List Stmt} (g : Good X W fn) (co : CallsX EX X p) (h : chkParS X.N X.env.scope fn p fl xs = true) : ∃ st, xs = [st] ∧ PS X st (tS EX W X.K (.par fl p)) := by
  unfold chkParS at h
  split at h
  · simp only [Bool.and_eq_true, decide_eq_true_eq] at h
    obtain ⟨⟨⟨h1, h2⟩, h3⟩, h4⟩ := h
    rcases (Bool.or_eq_true _ _).mp h3 with h3 | h3
    · exact ⟨_, rfl, s_par2 g co h1 h2 h3 h4⟩
    · rw [Bool.and_eq_true] at h3
      exact ⟨_, rfl, s_par2c g co (by simpa [chkTg] using h3.2) h3.1 h4⟩
  · simp only [Bool.and_eq_true, decide_eq_true_eq] at h
    obtain ⟨⟨⟨h1, h2, h2'⟩, h3⟩, h4⟩ := h
    rcases (Bool.or_eq_true _ _).mp h3 with h3 | h3
    · exact ⟨_, rfl, PL.s_par3 g co h1 h2 h2' h3 h4⟩
    · rw [Bool.and_eq_true] at h3
      exact ⟨_, rfl, s_par3c g co (by simpa [chkTg] using h3.2) h3.1 h4⟩
  · cases h
def SndS (EX : Nat → Addr) (X : Cx) (W : WX) (p : S) (xs : List Stmt) : Prop := PSs X xs (tS EX W X.K p) ∧ (one p = true → ∀ st, xs = [st] → PS X st (tS EX W X.K p))
theorem SndS.mk {p : S} {xs : List Stmt} {st : Stmt} (e : xs = [st]) (h : PS X st (tS EX W X.K p)) : SndS EX X W p xs := by
  subst e
  exact ⟨pss_one h, fun _ st' e => by cases e; exact h⟩
theorem sndS (p : S) : ∀ (X : Cx) (W : WX) (g : Good X W fn) (hp : PassesOwn (model X.prog X.w) X.A X.env X.xe) (hst : X.stack = X.env :: X.outer) (hfr : X.env.frame = some X.env.locals) (xs : List Stmt), CallsS (CallOk EX X.prog X.w X.K X.mg X.base X.A) (ObOk EX X.prog X.w X.K X.mg X.base X.A) (ExOk EX X.K X.mg) (MatchOk EX X.K) p → chkS X.N X.env.scope fn p xs = true → SndS EX X W p xs := by
  induction p with
  | nop =>
    intro X W g hp hst hfr xs co h
    have h' : chkNop xs = true := h
    unfold chkNop at h'
    split at h'
    · exact ⟨s_nil, (fun _ st e => nomatch e)⟩
    · exact .mk rfl s_pass
    · exact .mk rfl s_doc
    · cases h'
  | never =>
    intro X W g hp hst hfr xs co h
    exact ⟨(pss_never (X := X) (sts := xs)).imp fun D' σ H ⟨ρ, M, G, M0, G0, H0, Q, st, en, on, run, A⟩ => run, fun _ st _ => s_never⟩
  | seq s t ih1 ih2 =>
    intro X W g hp hst hfr xs co h
    refine ⟨?_, fun z => nomatch z⟩
    simp only [chkS] at h
    split at h
    · rename_i hf
      cases s <;> first | (exact Bool.noConfusion hf) | skip
      exact s_frz (ih2 X W g hp hst hfr xs co.2 h).1
    · cases xs with
      | nil => exact Bool.noConfusion (show false = true from h)
      | cons x xs =>
        simp only [Bool.and_eq_true] at h
        exact s_seq ((ih1 X W g hp hst hfr [x] co.1 h.1.2).2 h.1.1 x rfl) (ih2 X W g hp hst hfr xs co.2 h.2).1
  | set i a =>
    intro X W g hp hst hfr xs co h
    obtain ⟨st, e, q, _⟩ := asg_ok g co (show chkAsg X.N X.env.scope fn i a xs = true from h)
    exact .mk e q
  | new i a =>
    intro X W g hp hst hfr xs co h
    simp only [chkS, Bool.and_eq_true] at h
    obtain ⟨st, e, _, q⟩ := asg_ok (W := W) g co h.2
    exact .mk e (q h.1)
  | newcell i =>
    intro X W g hp hst hfr xs co h
    simp only [chkS] at h
    split at h
    · simp only [Bool.and_eq_true, decide_eq_true_eq] at h
      obtain ⟨l1, l2⟩ := loc_of g h.2
      exact .mk rfl (s_newcell g h.1 l1 l2)
    · cases h
  | frz i =>
    intro X W g hp hst hfr xs co h
    exact Bool.noConfusion (show false = true from h)
  | unp is a =>
    intro X W g hp hst hfr xs co h
    simp only [chkS] at h
    split at h
    · rename_i ys k p x pos
      simp only [Bool.and_eq_true, decide_eq_true_eq] at h
      obtain ⟨⟨⟨⟨h1, h2⟩, h3⟩, h4⟩, h5⟩ := h
      obtain ⟨w1, w2⟩ := unp_sw (ys := ys) (k := k) (p := p) h5.1 (by
        rcases Bool.or_eq_true_iff.mp h5.2 with w | w
        · exact .inl w
        · exact .inr w) pos.line X.env
      exact .mk rfl (s_unp g h1 w1 w2 rfl h2 (((snd EX X.N a X.env.scope fn [x]) X W rfl rfl g co h4).2.1 h3 x rfl |>.1))
    · cases h
  | par fl p =>
    intro X W g hp hst hfr xs co h
    obtain ⟨st, e, q⟩ := parS_ok g co (show chkParS X.N X.env.scope fn p fl xs = true from h)
    exact .mk e q
  | put i k a =>
    intro X W g hp hst hfr xs co h
    obtain ⟨st, e, q, _⟩ := put_ok g co (show chkPut X.N X.env.scope fn i k a xs = true from h)
    exact .mk e q
  | putc i k a =>
    intro X W g hp hst hfr xs co h
    obtain ⟨st, e, _, q⟩ := put_ok g co (show chkPut X.N X.env.scope fn i k a xs = true from h)
    exact .mk e q
  | aug i a =>
    intro X W g hp hst hfr xs co h
    simp only [chkS] at h
    split at h
    · rename_i n p' op x pos
      simp only [Bool.and_eq_true, decide_eq_true_eq] at h
      obtain ⟨⟨⟨⟨rfl, h1⟩, h2⟩, h3⟩, h4⟩ := h
      obtain ⟨l1, l2⟩ := loc_of g h2
      exact .mk rfl (s_aug g h1 l1 l2 (((snd EX X.N a X.env.scope fn [x]) X W rfl rfl g co h4).2.1 h3 x rfl |>.1))
    · cases h
  | app i a =>
    intro X W g hp hst hfr xs co h
    simp only [chkS, Bool.and_eq_true] at h
    obtain ⟨n, p1, p2, x, p3, pos, e, h1, h2, h3, h4, h5, q⟩ := app_ok (W := W) g co h.2
    exact .mk e (s_app g h1 h2 h3 h4 h5 h.1 q).1
  | appc i a =>
    intro X W g hp hst hfr xs co h
    simp only [chkS, Bool.and_eq_true] at h
    obtain ⟨n, p1, p2, x, p3, pos, e, h1, h2, h3, h4, h5, q⟩ := app_ok (W := W) g co h.2
    exact .mk e (s_app g h1 h2 h3 h4 h5 h.1 q).2
  | ext i a =>
    intro X W g hp hst hfr xs co h
    obtain ⟨n, p1, p2, x, p3, pos, e, h1, h2, h3, h4, h5, q⟩ := app_ok (W := W) g co (show chkApp X.N X.env.scope fn "extend" i a xs = true from h)
    exact .mk e (s_ext g h1 h2 h3 h4 h5 q)
  | fset i f a =>
    intro X W g hp hst hfr xs co h
    simp only [chkS] at h
    split at h
    · simp only [Bool.and_eq_true, decide_eq_true_eq] at h
      obtain ⟨⟨⟨⟨⟨⟨rfl, h1⟩, h2⟩, h3⟩, h4⟩, h5⟩, h6, h7⟩ := h
      exact .mk rfl (s_fset g co.1 h1 (vis_by h2) h3 (noLc_sw h4 _ _ _) h5 (((snd EX X.N a X.env.scope fn _) X W rfl rfl g co.2 h7).2.1 h6 _ rfl |>.1))
    · cases h
  | appe a e =>
    intro X W g hp hst hfr xs co h
    simp only [chkS] at h
    split at h
    · simp only [Bool.and_eq_true, decide_eq_true_eq] at h
      obtain ⟨⟨⟨⟨⟨⟨rfl, h1⟩, h2⟩, h3⟩, h4⟩, h5, h6⟩, h7, h8⟩ := h
      exact .mk rfl (s_appe g h1 h2 h3 h4 (((snd EX X.N a X.env.scope fn _) X W rfl rfl g co.1 h6).2.1 h5 _ rfl |>.1) (((snd EX X.N e X.env.scope fn _) X W rfl rfl g co.2 h8).2.1 h7 _ rfl |>.1))
    · cases h
  | ex a =>
    intro X W g hp hst hfr xs co h
    simp only [chkS] at h
    split at h
    · rename_i x pos
      simp only [Bool.and_eq_true] at h
      exact .mk rfl (s_ex (noLc_sw h.1.1 _ _ _) (((snd EX X.N a X.env.scope fn [x]) X W rfl rfl g co h.2).2.1 h.1.2 x rfl |>.1))
    · cases h
  | ret a =>
    intro X W g hp hst hfr xs co h
    simp only [chkS] at h
    split at h
    · rename_i x pos
      simp only [Bool.and_eq_true] at h
      exact .mk rfl (s_ret h.1.1 (((snd EX X.N a X.env.scope fn [x]) X W rfl rfl g co h.2).2.1 h.1.2 x rfl |>.1))
    · cases h
  | iff c s t ih1 ih2 =>
    intro X W g hp hst hfr xs co h
    simp only [chkS] at h
    split at h
    · rename_i x ys zs pos
      simp only [Bool.and_eq_true] at h
      exact .mk rfl (s_if ((((snd EX X.N c X.env.scope fn [x]) X W rfl rfl g co.1 h.1.1.2).2.1 h.1.1.1.1 x rfl).2 h.1.1.1.2) (ih1 X W g hp hst hfr _ co.2.1 h.1.2).1 (ih2 X W g hp hst hfr _ co.2.2 h.2).1)
    · cases h
  | whl c s ih =>
    intro X W g hp hst hfr xs co h
    simp only [chkS] at h
    split at h
    · rename_i x ys pos
      simp only [Bool.and_eq_true] at h
      exact .mk rfl (s_whl hp ((((snd EX X.N c X.env.scope fn [x]) X W rfl rfl g co.1 h.1.2).2.1 h.1.1.1 x rfl).2 h.1.1.2) (ih X W g hp hst hfr _ co.2 h.2).1)
    · cases h
  | forr tg it s ih =>
    intro X W g hp hst hfr xs co h
    simp only [chkS] at h
    split at h
    · rename_i x y ys pos
      simp only [Bool.and_eq_true, Bool.or_eq_true, Bool.not_eq_true'] at h
      obtain ⟨⟨⟨⟨⟨⟨h1, h2⟩, h3⟩, h4⟩, h5⟩, h6⟩, h7⟩ := h
      have pi := ((snd EX X.N it X.env.scope fn [y]) X W rfl rfl g co.1 h5).2.2 h2 y rfl x fun z => by
        rcases h4 with q | q
        · rw [q] at z; cases z
        · exact q
      exact .mk rfl (s_for g hp h1 h3 pi h6 (ih X W g hp hst hfr _ co.2 h7).1)
    · cases h
  | tryn s ih =>
    intro X W g hp hst hfr xs co h
    simp only [chkS] at h
    split at h
    · rename_i ys h0 hs pos
      have g' : Good X.nox noW fn := ⟨g.calm, g.nd, takes0, g.hu, g.nm, g.fnE⟩
      refine .mk rfl ((ps_try_thru0 (X := X) (h₀ := h0) (hs := hs) (pos := pos) (ih X.nox noW g' PassesOwn.never hst hfr _ co h).1).imp fun D' σ H ⟨ρ, M, G, M0, G0, H0, Q, st, en, on, run, A⟩ => ?_)
      exact ⟨ρ, M, G, M0, G0, H0, _, st, en, on, run, ⟨A.nx, A.rt, fun _ _ _ _ _ z => False.elim z⟩⟩
    · cases h
  | rse k =>
    intro X W g hp hst hfr xs co h
    simp only [chkS] at h
    split at h
    · simp only [Bool.and_eq_true, decide_eq_true_eq, Bool.not_eq_true'] at h
      exact .mk rfl (s_rse g co h.1.1 (glb_of h.1.2) h.2)
    · cases h
  | tryret e hs =>
    intro X W g hp hst hfr xs co h
    simp only [chkS] at h
    split at h
    · rename_i x rp h0 hds pos
      simp only [Bool.and_eq_true] at h
      obtain ⟨⟨⟨h1, h2⟩, h3⟩, h4⟩ := h
      exact .mk rfl (s_tryret g hst hfr co.2 h1 h2 fun W' pn xe g' => ((snd EX X.N e X.env.scope fn [x]) (X.tr pn xe) W' rfl rfl g' co.1 h4).2.1 h3 x rfl |>.1)
    · cases h
end
end PL
set_option Elab.async false
set_option linter.all false
set_option maxRecDepth 100000
set_option maxHeartbeats 1000000
namespace PL
open PySem L2 PyProof.Rows PySem.Spec

/-! ## defs -/
def startS (n : Nat) (ds : List D) : Slots := ds.map Sl.val ++ List.replicate (n - ds.length) Sl.unk
/-- what a body answers, by its term -/
def BodyOk (n : Nat) (p : S) (F : FS) : Prop := ∀ ds M, ds.length = F.ar → F.pre ds M →
  (wpS p).run (startS n ds) M { nx := fun _ M' => F.post ds M .non M', rt := fun d M' => F.post ds M d M', ex := fun k M' => F.exc ds M k M' }
def TopDef (K : PySem.W.Frag) (mg : Str → Option Value) (x : Str) (st : Stmt) : Prop := ∃ f fd, Fun K x x st f fd ∧ mg x = some (.ref f)
def FDef (EX : Nat → Addr) (P : Program) (w : World) (K : PySem.W.Frag) (mg : Str → Option Value) (base : Heap) (x : Str) (F : FS) (k : Nat) : Prop :=
  ∃ (a : Addr) (fd : FuncData) (ps : List Str), FnOk P w K mg base (L2.CX P w) k a fd ps (spF EX K F) ∧ mg x = some (.ref a) ∧ PySem.W.keepIn K (.ref a) = true ∧ Binds K fd ps []
section
variable {EX : Nat → Addr} {P : Program} {w : World} {K : PySem.W.Frag} {mg : Str → Option Value} {base : Heap} {x : Str} {F : FS} {j k : Nat} {A : Around}
theorem FDef.call (h : FDef EX P w K mg base x F j) (hr : Room k A) (l : j ≤ k) : CallOk EX P w K mg base A x F := by
  obtain ⟨a, fd, ps, h1, h2, h3, h4⟩ := h
  exact ⟨a, fd, ps, j, h1, hr.mono l, h2, h3, h4⟩
theorem start_env {M : Mem} {G H : Hp} : ∀ {ds : List D} {vs : List V} (n : Nat), Reps K G vs ds → EnvOk K (startS n ds) M G (vs.map some ++ List.replicate (n - vs.length) none) H := fun {ds vs} n r => by
  have hl := r.length
  have g : ∀ (i : Nat) s, (startS n ds)[i]? = some s → (∃ d, s = .val d ∧ ds[i]? = some d) ∨ s = .unk := fun i s e => by
    unfold startS at e
    rw [List.getElem?_append] at e
    split at e
    · rw [List.getElem?_map] at e
      cases q : ds[i]? with
      | none => rw [q] at e; cases e
      | some d => rw [q] at e; cases e; exact .inl ⟨d, rfl, rfl⟩
    · rw [List.getElem?_replicate] at e
      split at e
      · cases e; exact .inr rfl
      · cases e
  refine ⟨by simp [startS, hl], fun i s e => ?_, fun i j xs ys e => ?_⟩
  · rcases g i s e with ⟨d, rfl, q⟩ | rfl
    · obtain ⟨v, q1, q2⟩ := r.get' q
      refine ⟨v, ?_, q2⟩
      have hi : i < vs.length := (List.getElem?_eq_some_iff.mp q1).1
      rw [List.getElem?_append_left (by simpa using hi), List.getElem?_map, q1]
      rfl
    · trivial
  · rcases g i _ e with ⟨d, z, _⟩ | z <;> cases z
theorem start_new {H : Hp} {ds : List D} {n : Nat} {σ : L2.St} : OwnNew H (startS n ds) σ := fun i xs a e _ => by
  unfold startS at e
  rw [List.getElem?_append] at e
  split at e
  · rw [List.getElem?_map] at e
    cases q : ds[i]? with
    | none => rw [q] at e; cases e
    | some d => rw [q] at e; cases e
  · rw [List.getElem?_replicate] at e
    split at e <;> cases e
theorem fnok_of {qn : Str} {st : Stmt} {N ps : List Str} {p : S} {f : Addr} {fd : FuncData} (Fu : Fun K x qn st f fd) (sc : FnScope N ps (defScope st)) (ar : F.ar = ps.length) (nm : ∀ x ∈ bnames, mg x = none)
    (co : ∀ A, Room k A → CallsS (CallOk EX P w K mg base A) (ObOk EX P w K mg base A) (ExOk EX K mg) (MatchOk EX K) p) (hc : chkS N (defScope st) (fun _ => true) p (defBody st) = true) (body : BodyOk N.length p F) : FnOk P w K mg base (L2.CX P w) (k + 1) f fd ps (spF EX K F) := by
  refine Fu.okX sc (fun vs H Q E h => ?_) fun cdv A outer s H vs Q E hr h => ?_
  · obtain ⟨ds, M, G, _, r, q, _⟩ := h
    rw [r.length, q, ar]
  · obtain ⟨ds, M, G, b, r, hl, hpre, hq, he⟩ := h
    have tk : Takes (cxOf (L2.CX P w) P w K mg base N qn (defScope st) f cdv A outer s H E) (fun cls d _ H => E cls d H) := takes_of rfl rfl rfl rfl
    have g : Good (cxOf (L2.CX P w) P w K mg base N qn (defScope st) f cdv A outer s H E) (fun cls d _ H => E cls d H) (fun _ => true) :=
      ⟨rfl, sc.nd, tk, (by have := hr.un; show (A.deeper (envOfC qn (defScope st) s.heap.objs.size f cdv)).units + 65 < cLine; omega), nm, rfl⟩
    refine ⟨_, (sndS (EX := EX) p _ _ g (passes_of rfl) rfl rfl (defBody st) (co _ hr) hc).1, ?_⟩
    refine ⟨startS N.length ds, M, G, M, G, H, _, .refl b, start_env N.length r, start_new, body ds M hl hpre, ⟨?_, ?_, ?_⟩⟩
    · intro ρ M' G' σ H' q t _ _
      exact hq _ _ q .non G' H' t .non
    · intro d M' v G' H' q t rv
      exact hq _ _ q v G' H' t rv
    · intro k M' G' σ H' q t
      exact he _ _ q G' H' t
theorem fdef_of {st : Stmt} {N ps : List Str} {p : S} (T : TopDef K mg x st) (sc : FnScope N ps (defScope st)) (ar : F.ar = ps.length) (nm : ∀ x ∈ bnames, mg x = none)
    (hb : ∀ {f fd}, Fun K x x st f fd → Binds K fd ps []) (co : ∀ A, Room k A → CallsS (CallOk EX P w K mg base A) (ObOk EX P w K mg base A) (ExOk EX K mg) (MatchOk EX K) p) (hc : chkS N (defScope st) (fun _ => true) p (defBody st) = true) (body : BodyOk N.length p F) : FDef EX P w K mg base x F (k + 1) := by
  obtain ⟨f, fd, Fu, hm⟩ := T
  exact ⟨f, fd, ps, fnok_of Fu sc ar nm co hc body, hm, Fu.kp, hb Fu⟩
theorem topdef {h : Heap} {st : Stmt} {f : Addr} {oc : Value} {od an : Option Addr} {sl : Array (Option Value)} {kV dc pm cd ct : Value} (X : K.In h) (G : h.Ns mainGlobals mg) (a : PySem.W.nsIn K mainGlobals x = some (some (.ref f)))
    (l : K.lookup f = some ⟨oc, od, .func (PySem.W.fnOf x x (defArgs st) (defBody st) (defScope st) .none kV dc pm an cd ct), sl⟩) (c : PySem.W.codeIn K cd x = true) (k : PySem.W.keepIn K (.ref f) = true) : TopDef K mg x st := ⟨f, _, fun_mk l c k, PySem.W.mg_of X G a⟩
end
/-! ## methods -/
def MethDef (K : PySem.W.Frag) (m q : Str) (st : Stmt) : Prop := ∃ f fd, Fun K m q st f fd ∧ Meth K (kC K) m f
def FMeth (EX : Nat → Addr) (P : Program) (w : World) (K : PySem.W.Frag) (mg : Str → Option Value) (base : Heap) (m : Str) (F : FS) (k : Nat) : Prop :=
  ∃ (a : Addr) (fd : FuncData) (ps : List Str), Meth K (kC K) m a ∧ FnOk P w K mg base (L2.CX P w) k a fd ps (spF EX K F) ∧ Binds K fd ps []
structure KbF (K : PySem.W.Frag) (mg : Str → Option Value) : Prop where
  cl : Cls K (kC K)
  na : NoAttr K (kC K) "places" ∧ NoAttr K (kC K) "signs" ∧ NoAttr K (kC K) "past" ∧ NoAttr K (kC K) "future"
  mg : mg "Kerb" = some (.ref (kC K))
  mkk : PySem.W.makesIn K (kC K) = true
  kp : PySem.W.keepIn K (.ref (kC K)) = true
  mo : PySem.W.mroIn K (kC K) (.type "object") = some true
  su : PySem.W.subIn K (.type "tuple") (.ref (kC K)) = some false
  ne : PySem.W.findIn K (.ref (kC K)) "__ne__" = some (some (.builtin "object.__ne__"))
  c1 : PySem.W.findIn K (.ref (kC K)) "__class__" = some (some (.builtin "object.__class__"))
  c2 : PySem.W.specialIn K (.builtin "object.__class__") "__get__" = some (some (.builtin "getset_descriptor.__get__"))
  c3 : PySem.W.takesIn K (.builtin "object.__class__") = some true
  c4 : PySem.W.kitOne K (.ref (kC K)) (.ref (kC K)) = some true
  c5 : PySem.W.kitOne K (.type "tuple") (.ref (kC K)) = some false
def kfB (K : PySem.W.Frag) : Bool := (He.Fa.cls "Kerb").ok K && ((He.Fa.noat "Kerb" "places").ok K && ((He.Fa.noat "Kerb" "signs").ok K && ((He.Fa.noat "Kerb" "past").ok K && ((He.Fa.noat "Kerb" "future").ok K && ((He.Fa.glo "Kerb").ok K &&
  (PySem.W.makesIn K (kC K) && (PySem.W.keepIn K (.ref (kC K)) && (decide (PySem.W.mroIn K (kC K) (.type "object") = some true) && (decide (PySem.W.subIn K (.type "tuple") (.ref (kC K)) = some false) &&
  (He.eqO (PySem.W.findIn K (.ref (kC K)) "__ne__") (some (some (.builtin "object.__ne__"))) && (He.eqO (PySem.W.findIn K (.ref (kC K)) "__class__") (some (some (.builtin "object.__class__"))) &&
  (He.eqO (PySem.W.specialIn K (.builtin "object.__class__") "__get__") (some (some (.builtin "getset_descriptor.__get__"))) && (decide (PySem.W.takesIn K (.builtin "object.__class__") = some true) &&
  (decide (PySem.W.kitOne K (.ref (kC K)) (.ref (kC K)) = some true) && decide (PySem.W.kitOne K (.type "tuple") (.ref (kC K)) = some false)))))))))))))))
theorem kf_ok {K : PySem.W.Frag} {h : Heap} {mg : Str → Option Value} (X : K.In h) (G : h.Ns mainGlobals mg) (c : kfB K = true) : KbF K mg := by
  unfold kfB at c
  simp only [Bool.and_eq_true, decide_eq_true_eq] at c
  obtain ⟨a1, a2, a3, a4, a5, a6, a7, a8, a9, b1, b2, b3, b4, b5, b6, b7⟩ := c
  exact ⟨He.cls_ok a1, ⟨He.noat_ok a2, He.noat_ok a3, He.noat_ok a4, He.noat_ok a5⟩, He.glo_ok X G a6, a7, a8, a9, b1, He.eqO_ok b2, He.eqO_ok b3, He.eqO_ok b4, b5, b6, b7⟩
section
variable {EX : Nat → Addr} {P : Program} {w : World} {K : PySem.W.Frag} {mg : Str → Option Value} {base : Heap} {m q c : Str} {F : FS} {j k : Nat} {A : Around}
theorem FMeth.meth (h : FMeth EX P w K mg base m F j) (T : KbF K mg) (hr : Room k A) (l : j ≤ k) : ObOk EX P w K mg base A (.meth m F) := by
  obtain ⟨a, fd, ps, h1, h2, h3⟩ := h
  exact ⟨T.cl, a, fd, ps, j, h1, h2, hr.mono l, h3⟩
theorem FMeth.make (h : FMeth EX P w K mg base "__init__" F j) (T : KbF K mg) (hr : Room k A) (l : j + 1 ≤ k) : ObOk EX P w K mg base A (.make "Kerb" F) := by
  obtain ⟨a, fd, ps, h1, h2, h3⟩ := h
  exact ⟨a, fd, ps, j, ⟨T.mkk, h1.at_, h1.fn, T.kp⟩, h2, hr.mono l, T.mg, h3⟩
theorem FMeth.len (h : FMeth EX P w K mg base "__len__" F j) (hr : Room k A) (l : j + 1 ≤ k) : ObOk EX P w K mg base A (.lenO F) := by
  obtain ⟨a, fd, ps, h1, h2, h3⟩ := h
  exact ⟨a, fd, ps, j, h1, h2, hr.mono l, h3⟩
theorem FMeth.eq {neg : Bool} (h : FMeth EX P w K mg base "__eq__" F j) (T : KbF K mg) (hr : Room k A) (l : j + 1 ≤ k) : ObOk EX P w K mg base A (.eqO neg F) := by
  obtain ⟨a, fd, ps, h1, h2, h3⟩ := h
  exact ⟨T.mo, T.su, T.ne, a, fd, ps, j, h1, h2, hr.mono l, h3⟩
theorem KbF.isk (T : KbF K mg) : ObOk EX P w K mg base A (.isk "Kerb") := ⟨T.mg, T.cl, T.kp, T.c1, T.c2, T.c3, T.mo, T.c4, T.c5⟩
theorem KbF.a1 (T : KbF K mg) : ObOk EX P w K mg base A (.attr "places") := ⟨T.cl, T.na.1⟩
theorem KbF.a2 (T : KbF K mg) : ObOk EX P w K mg base A (.attr "signs") := ⟨T.cl, T.na.2.1⟩
theorem KbF.a3 (T : KbF K mg) : ObOk EX P w K mg base A (.attr "past") := ⟨T.cl, T.na.2.2.1⟩
theorem KbF.a4 (T : KbF K mg) : ObOk EX P w K mg base A (.attr "future") := ⟨T.cl, T.na.2.2.2⟩
theorem fmeth_of {st : Stmt} {N ps : List Str} {p : S} (T : MethDef K m q st) (sc : FnScope N ps (defScope st)) (ar : F.ar = ps.length) (nm : ∀ x ∈ bnames, mg x = none)
    (hb : ∀ {f fd}, Fun K m q st f fd → Binds K fd ps []) (co : ∀ A, Room k A → CallsS (CallOk EX P w K mg base A) (ObOk EX P w K mg base A) (ExOk EX K mg) (MatchOk EX K) p) (hc : chkS N (defScope st) (fun _ => true) p (defBody st) = true) (body : BodyOk N.length p F) : FMeth EX P w K mg base m F (k + 1) := by
  obtain ⟨f, fd, Fu, hm⟩ := T
  exact ⟨f, fd, ps, hm, fnok_of Fu sc ar nm co hc body, hb Fu⟩
theorem ob_newl : ObOk EX P w K mg base A .newl := trivial
theorem methdef {C f : Addr} {st : Stmt} {oc : Value} {od an : Option Addr} {sl : Array (Option Value)} {kV dc pm cd ct : Value} (h : PySem.W.nsIn K mainGlobals "Kerb" = some (some (.ref C))) (a : PySem.W.findIn K (.ref C) m = some (some (.ref f))) (i : PySem.W.isFn K (.ref f) = true)
    (l : K.lookup f = some ⟨oc, od, .func (PySem.W.fnOf m q (defArgs st) (defBody st) (defScope st) .none kV dc pm an cd ct), sl⟩) (c : PySem.W.codeIn K cd q = true) (k : PySem.W.keepIn K (.ref f) = true) : MethDef K m q st := by
  have e : kC K = C := by
    show He.ga K "Kerb" = C
    unfold He.ga
    rw [h]
  exact ⟨f, _, fun_mk l c k, by rw [e]; exact a, i, k⟩
end
/-! ### what is called, as a list of facts: small proofs -/
section
variable (C : Str → FS → Prop) (O : Ob → Prop) (R : Nat → Prop) (T : Nat → Nat → Prop)
def AllP : List Prop → Prop | [] => True | p :: r => p ∧ AllP r
theorem AllP.app : ∀ {l m : List Prop}, AllP (l ++ m) → AllP l ∧ AllP m
  | [], _, h => ⟨trivial, h⟩
  | _ :: l, m, h => ⟨⟨h.1, (AllP.app (l := l) h.2).1⟩, (AllP.app (l := l) h.2).2⟩
def cE : E → List Prop
  | .cons e es => cE e ++ cE es | .tup es => cE es | .lst es => cE es | .neg a => cE a
  | .bin _ a b => cE a ++ cE b | .cmp _ a b => cE a ++ cE b | .chain _ _ a b c => cE a ++ (cE b ++ cE c)
  | .isN a => cE a | .notN a => cE a | .and a b => cE a ++ cE b | .or a b => cE a ++ cE b | .not a => cE a
  | .ite c a b => cE c ++ (cE a ++ cE b)
  | .call f F es => C f F :: cE es
  | .isi a _ => cE a | .b1 _ a => cE a | .b2 _ a b => cE a ++ cE b
  | .ix a i => cE a ++ cE i | .cut _ _ a l h => cE a ++ (cE l ++ cE h)
  | .it1 _ a => cE a | .it2 _ a b => cE a ++ cE b | .it3 a b c => cE a ++ (cE b ++ cE c)
  | .comp e _ i t _ => cE e ++ (cE i ++ cE t)
  | .sp1 _ a => cE a | .sp2 _ a b => cE a ++ cE b | .sp3 _ a b c => cE a ++ (cE b ++ cE c)
  | .lend _ a => cE a
  | .ob o a b => O o :: (cE a ++ cE b)
  | _ => []
def cS : S → List Prop
  | .seq s t => cS s ++ cS t | .tryn s => cS s
  | .set _ e => cE C O e | .new _ e => cE C O e | .unp _ e => cE C O e | .par _ e => cE C O e
  | .put _ k e => cE C O k ++ cE C O e | .putc _ k e => cE C O k ++ cE C O e | .aug _ e => cE C O e
  | .app _ e => cE C O e | .ext _ e => cE C O e | .appc _ e => cE C O e | .ex e => cE C O e | .ret e => cE C O e
  | .iff c a b => cE C O c ++ (cS a ++ cS b) | .forr _ e b => cE C O e ++ cS b | .whl c b => cE C O c ++ cS b
  | .rse k => [R k]
  | .tryret e hs => cE C O e ++ [∀ k ∈ hs.map (·.1), R k ∧ ∀ j ∈ hs.map (·.1), T k j]
  | .fset _ f e => O (.attr f) :: cE C O e | .appe a e => cE C O a ++ cE C O e
  | _ => []
theorem cE_ok (e : E) : AllP (cE C O e) → CallsOk C O e := by
  induction e with
  | cons _ _ h1 h2 => exact fun h => ⟨h1 h.app.1, h2 h.app.2⟩
  | tup _ h1 => exact h1
  | lst _ h1 => exact h1
  | neg _ h1 => exact h1
  | bin _ _ _ h1 h2 => exact fun h => ⟨h1 h.app.1, h2 h.app.2⟩
  | cmp _ _ _ h1 h2 => exact fun h => ⟨h1 h.app.1, h2 h.app.2⟩
  | chain _ _ _ _ _ h1 h2 h3 => exact fun h => ⟨h1 h.app.1, h2 h.app.2.app.1, h3 h.app.2.app.2⟩
  | isN _ h1 => exact h1
  | notN _ h1 => exact h1
  | and _ _ h1 h2 => exact fun h => ⟨h1 h.app.1, h2 h.app.2⟩
  | or _ _ h1 h2 => exact fun h => ⟨h1 h.app.1, h2 h.app.2⟩
  | not _ h1 => exact h1
  | ite _ _ _ h1 h2 h3 => exact fun h => ⟨h1 h.app.1, h2 h.app.2.app.1, h3 h.app.2.app.2⟩
  | call _ _ _ h1 => exact fun h => ⟨h.1, h1 h.2⟩
  | isi _ _ h1 => exact h1
  | b1 _ _ h1 => exact h1
  | b2 _ _ _ h1 h2 => exact fun h => ⟨h1 h.app.1, h2 h.app.2⟩
  | ix _ _ h1 h2 => exact fun h => ⟨h1 h.app.1, h2 h.app.2⟩
  | cut _ _ _ _ _ h1 h2 h3 => exact fun h => ⟨h1 h.app.1, h2 h.app.2.app.1, h3 h.app.2.app.2⟩
  | it1 _ _ h1 => exact h1
  | it2 _ _ _ h1 h2 => exact fun h => ⟨h1 h.app.1, h2 h.app.2⟩
  | it3 _ _ _ h1 h2 h3 => exact fun h => ⟨h1 h.app.1, h2 h.app.2.app.1, h3 h.app.2.app.2⟩
  | comp _ _ _ _ _ h1 h2 h3 => exact fun h => ⟨h1 h.app.1, h2 h.app.2.app.1, h3 h.app.2.app.2⟩
  | sp1 _ _ h1 => exact h1
  | sp2 _ _ _ h1 h2 => exact fun h => ⟨h1 h.app.1, h2 h.app.2⟩
  | sp3 _ _ _ _ h1 h2 h3 => exact fun h => ⟨h1 h.app.1, h2 h.app.2.app.1, h3 h.app.2.app.2⟩
  | lend _ _ h1 => exact h1
  | ob _ _ _ h1 h2 => exact fun h => ⟨h.1, h1 h.2.app.1, h2 h.2.app.2⟩
  | _ => exact fun _ => trivial
theorem cS_ok (p : S) : AllP (cS C O R T p) → CallsS C O R T p := by
  induction p with
  | seq _ _ h1 h2 => exact fun h => ⟨h1 h.app.1, h2 h.app.2⟩
  | tryn _ h1 => exact h1
  | set _ e => exact cE_ok C O e
  | new _ e => exact cE_ok C O e
  | unp _ e => exact cE_ok C O e
  | par _ e => exact cE_ok C O e
  | put _ k e => exact fun h => ⟨cE_ok C O k h.app.1, cE_ok C O e h.app.2⟩
  | putc _ k e => exact fun h => ⟨cE_ok C O k h.app.1, cE_ok C O e h.app.2⟩
  | aug _ e => exact cE_ok C O e
  | app _ e => exact cE_ok C O e
  | ext _ e => exact cE_ok C O e
  | appc _ e => exact cE_ok C O e
  | ex e => exact cE_ok C O e
  | ret e => exact cE_ok C O e
  | iff c _ _ h1 h2 => exact fun h => ⟨cE_ok C O c h.app.1, h1 h.app.2.app.1, h2 h.app.2.app.2⟩
  | forr _ e _ h1 => exact fun h => ⟨cE_ok C O e h.app.1, h1 h.app.2⟩
  | whl c _ h1 => exact fun h => ⟨cE_ok C O c h.app.1, h1 h.app.2⟩
  | rse k => exact fun h => h.1
  | tryret e hs => exact fun h => ⟨cE_ok C O e h.app.1, h.app.2.1⟩
  | fset _ f e => exact fun h => ⟨h.1, cE_ok C O e h.2⟩
  | appe a e => exact fun h => ⟨cE_ok C O a h.app.1, cE_ok C O e h.app.2⟩
  | _ => exact fun _ => trivial
end
theorem cS_of {C : Str → FS → Prop} {O : Ob → Prop} {R : Nat → Prop} {T : Nat → Nat → Prop} {p : S} {l : List Prop} (e : cS C O R T p = l) (h : AllP l) : CallsS C O R T p := cS_ok C O R T p (e ▸ h)
theorem ob_dlit {EX : Nat → Addr} {P : Program} {w : World} {K : PySem.W.Frag} {mg : Str → Option Value} {base : Heap} {A : Around} {ks : List (Str × Int × Int)} : ObOk EX P w K mg base A (.dlit ks) := trivial
theorem ob_dget {EX : Nat → Addr} {P : Program} {w : World} {K : PySem.W.Frag} {mg : Str → Option Value} {base : Heap} {A : Around} : ObOk EX P w K mg base A .dget := trivial
theorem ob_dnin {EX : Nat → Addr} {P : Program} {w : World} {K : PySem.W.Frag} {mg : Str → Option Value} {base : Heap} {A : Around} : ObOk EX P w K mg base A .dnin := trivial
end PL
set_option Elab.async false
set_option linter.all false
set_option maxRecDepth 100000
namespace PL
open PySem L2 PyProof.Rows PySem.Spec

/-! ## to run a term in plain Lean: every word as a rule for simp -/
section
variable {M : Mem} {Q : D → Mem → Prop} {E0 : EK} {ρ : Slots} {a b c : E} {P : Post}
def slV : Option Sl → (D → Prop) → Prop | some (.val d), k => k d | _, _ => False
def slB : Option Sl → (D → Prop) → Prop | some (.val d), k => k d | some (.own xs), k => k (.lst xs) | _, _ => False
@[simp] theorem slV_val {d : D} {k} : slV (some (.val d)) k = k d := rfl
@[simp] theorem slB_val {d : D} {k} : slB (some (.val d)) k = k d := rfl
@[simp] theorem slB_own {xs : List D} {k} : slB (some (.own xs)) k = k (.lst xs) := rfl
def brB : D → Prop → Prop → Prop | .bl true, p, _ => p | .bl false, _, q => q | _, _, _ => False
@[simp] theorem brB_bl {t : Bool} {p q : Prop} : brB (.bl t) p q = (if t = true then p else q) := by cases t <;> rfl
@[simp] theorem w_var {i : Nat} : (wp (.var i) ρ).run M Q E0 = slV ρ[i]? fun d => Q d M := by
  show PM.run (match ρ[i]? with | some (.val d) => PM.pure d | _ => .fail) M Q E0 = _
  cases h : ρ[i]? with
  | none => rfl
  | some s => cases s <;> rfl
@[simp] theorem w_brw {i : Nat} : (wp (.brw i) ρ).run M Q E0 = slB ρ[i]? fun d => Q d M := by
  show PM.run (match ρ[i]? with | some (.val d) => PM.pure d | some (.own xs) => .pure (.lst xs) | _ => .fail) M Q E0 = _
  cases h : ρ[i]? with
  | none => rfl
  | some s => cases s <;> rfl
@[simp] theorem w_int {i : Int} : (wp (.int i) ρ).run M Q E0 = Q (.int i) M := rfl
@[simp] theorem w_bl {i : Bool} : (wp (.bl i) ρ).run M Q E0 = Q (.bl i) M := rfl
@[simp] theorem w_non : (wp .non ρ).run M Q E0 = Q .non M := rfl
@[simp] theorem w_str {x : Str} : (wp (.str x) ρ).run M Q E0 = Q (.str x) M := rfl
/-- arguments, the values so far -/
def argR : E → Slots → Mem → (List D → Mem → Prop) → EK → Prop
  | .cons e es, ρ, M, k, E0 => (wp e ρ).run M (fun d M' => argR es ρ M' (fun ds M2 => k (d :: ds) M2) E0) E0
  | .nil, _, M, k, _ => k [] M
  | e, ρ, M, k, E0 => (wp e ρ).run M (fun t M' => (tupP t).run M' k E0) E0
theorem arg_run : ∀ {es : E} {M : Mem} {k : List D → Mem → Prop}, (wp es ρ).run M (fun t M' => (tupP t).run M' k E0) E0 = argR es ρ M k E0 := by
  intro es
  induction es with
  | cons e es _ ih =>
    intro M k
    show (wp e ρ).run M (fun d M' => (wp es ρ).run M' (fun t M2 => (tupP t).run M2 (fun ds M3 => k (d :: ds) M3) E0) E0) E0 = _
    simp only [ih]
    rfl
  | nil => intro M k; rfl
  | _ => intro M k; rfl
@[simp] theorem argR_cons {e es : E} {k} : argR (.cons e es) ρ M k E0 = (wp e ρ).run M (fun d M' => argR es ρ M' (fun ds M2 => k (d :: ds) M2) E0) E0 := rfl
@[simp] theorem argR_nil {k} : argR .nil ρ M k E0 = k [] M := rfl
@[simp] theorem w_tup {es : E} : (wp (.tup es) ρ).run M Q E0 = argR es ρ M (fun ds M' => ds.length ≤ sizeLine ∧ Q (.tup ds) M') E0 := by rw [← arg_run]; rfl
@[simp] theorem w_lst {es : E} : (wp (.lst es) ρ).run M Q E0 = argR es ρ M (fun ds M' => ds.length ≤ sizeLine ∧ Q (.lst ds) M') E0 := by rw [← arg_run]; rfl
@[simp] theorem w_call {f : Str} {F : FS} {es : E} : (wp (.call f F es) ρ).run M Q E0 = argR es ρ M (fun ds M' => (PM.call F ds).run M' Q E0) E0 := by rw [← arg_run]; rfl
@[simp] theorem w_neg : (wp (.neg a) ρ).run M Q E0 = (wp a ρ).run M (fun d M' => (negP d).run M' Q E0) E0 := rfl
@[simp] theorem neg_int {i : Int} : (negP (.int i)).run M Q E0 = Q (.int (-i)) M := rfl
@[simp] theorem w_bin {o : Bo} : (wp (.bin o a b) ρ).run M Q E0 = (wp a ρ).run M (fun d M1 => (wp b ρ).run M1 (fun e M2 => (boP o d e).run M2 Q E0) E0) E0 := rfl
@[simp] theorem w_cmp {o : Co} : (wp (.cmp o a b) ρ).run M Q E0 = (wp a ρ).run M (fun d M1 => (wp b ρ).run M1 (fun e M2 => (coP o d e).run M2 Q E0) E0) E0 := rfl
@[simp] theorem w_chain {o o' : Co} : (wp (.chain o o' a b c) ρ).run M Q E0 = (wp a ρ).run M (fun d M1 => (wp b ρ).run M1 (fun e M2 => (coP o d e).run M2 (fun r M3 => brB r ((wp c ρ).run M3 (fun g M4 => (coP o' e g).run M4 Q E0) E0) (Q (.bl false) M3)) E0) E0) E0 := by
  show (wp a ρ).run M (fun d M1 => (wp b ρ).run M1 (fun e M2 => (coP o d e).run M2 (fun r M3 => PM.run (match r with | .bl true => PM.bind (wp c ρ) fun g => coP o' e g | .bl false => .pure (.bl false) | _ => .fail) M3 Q E0) E0) E0) E0 = _
  congr 1; funext d M1; congr 1; funext e M2; congr 1; funext r M3
  cases r <;> first | rfl | (rename_i t; cases t <;> rfl)
def isNon : D → Bool | .non => true | _ => false
@[simp] theorem w_isN : (wp (.isN a) ρ).run M Q E0 = (wp a ρ).run M (fun d M' => Q (.bl (isNon d)) M') E0 := by
  show (wp a ρ).run M (fun d M1 => PM.run (match d with | .non => PM.pure (.bl true) | _ => .pure (.bl false)) M1 Q E0) E0 = _
  congr 1; funext d M1
  cases d <;> rfl
@[simp] theorem w_notN : (wp (.notN a) ρ).run M Q E0 = (wp a ρ).run M (fun d M' => Q (.bl (!isNon d)) M') E0 := by
  show (wp a ρ).run M (fun d M1 => PM.run (match d with | .non => PM.pure (.bl false) | _ => .pure (.bl true)) M1 Q E0) E0 = _
  congr 1; funext d M1
  cases d <;> rfl
@[simp] theorem w_and : (wp (.and a b) ρ).run M Q E0 = (wp a ρ).run M (fun d M1 => (truP d).run M1 (fun t M2 => if t = true then (wp b ρ).run M2 Q E0 else Q d M2) E0) E0 := by
  show (wp a ρ).run M (fun d M1 => (truP d).run M1 (fun t M2 => PM.run (if t = true then wp b ρ else .pure d) M2 Q E0) E0) E0 = _
  congr 1; funext d M1; congr 1; funext t M2
  cases t <;> rfl
@[simp] theorem w_or : (wp (.or a b) ρ).run M Q E0 = (wp a ρ).run M (fun d M1 => (truP d).run M1 (fun t M2 => if t = true then Q d M2 else (wp b ρ).run M2 Q E0) E0) E0 := by
  show (wp a ρ).run M (fun d M1 => (truP d).run M1 (fun t M2 => PM.run (if t = true then .pure d else wp b ρ) M2 Q E0) E0) E0 = _
  congr 1; funext d M1; congr 1; funext t M2
  cases t <;> rfl
@[simp] theorem w_not : (wp (.not a) ρ).run M Q E0 = (wp a ρ).run M (fun d M1 => (truP d).run M1 (fun t M2 => Q (.bl (!t)) M2) E0) E0 := rfl
@[simp] theorem w_ite : (wp (.ite c a b) ρ).run M Q E0 = (wp c ρ).run M (fun d M1 => (truP d).run M1 (fun t M2 => if t = true then (wp a ρ).run M2 Q E0 else (wp b ρ).run M2 Q E0) E0) E0 := by
  show (wp c ρ).run M (fun d M1 => (truP d).run M1 (fun t M2 => PM.run (if t = true then wp a ρ else wp b ρ) M2 Q E0) E0) E0 = _
  congr 1; funext d M1; congr 1; funext t M2
  cases t <;> rfl
@[simp] theorem w_isi {t : Ty} : (wp (.isi a t) ρ).run M Q E0 = (wp a ρ).run M (fun d M1 => (PM.opt (isiF t d)).run M1 (fun b M2 => Q (.bl b) M2) E0) E0 := rfl
@[simp] theorem w_b1 {o : B1} : (wp (.b1 o a) ρ).run M Q E0 = (wp a ρ).run M (fun d M1 => (b1P o d).run M1 Q E0) E0 := rfl
@[simp] theorem w_b2 {o : B2} : (wp (.b2 o a b) ρ).run M Q E0 = (wp a ρ).run M (fun d M1 => (wp b ρ).run M1 (fun e M2 => (b2P o d e).run M2 Q E0) E0) E0 := rfl
@[simp] theorem w_ix : (wp (.ix a b) ρ).run M Q E0 = (wp a ρ).run M (fun d M1 => (wp b ρ).run M1 (fun e M2 => (ixP d e).run M2 Q E0) E0) E0 := rfl
@[simp] theorem w_cut00 : (wp (.cut false false a b c) ρ).run M Q E0 = (wp a ρ).run M (fun d M1 => (cutP none none d).run M1 Q E0) E0 := rfl
@[simp] theorem w_cut10 : (wp (.cut true false a b c) ρ).run M Q E0 = (wp a ρ).run M (fun d M1 => (wp b ρ).run M1 (fun i M2 => (intO i).run M2 (fun u M3 => (cutP u none d).run M3 Q E0) E0) E0) E0 := rfl
@[simp] theorem w_cut01 : (wp (.cut false true a b c) ρ).run M Q E0 = (wp a ρ).run M (fun d M1 => (wp c ρ).run M1 (fun i M2 => (intO i).run M2 (fun u M3 => (cutP none u d).run M3 Q E0) E0) E0) E0 := rfl
@[simp] theorem w_cut11 : (wp (.cut true true a b c) ρ).run M Q E0 = (wp a ρ).run M (fun d M1 => (wp b ρ).run M1 (fun i M2 => (intO i).run M2 (fun u M3 => (wp c ρ).run M3 (fun j M4 => (intO j).run M4 (fun v M5 => (cutP u v d).run M5 Q E0) E0) E0) E0) E0) E0 := rfl
@[simp] theorem intO_int {i : Int} {Q : Option Int → Mem → Prop} : (intO (.int i)).run M Q E0 = Q (some i) M := rfl
@[simp] theorem cut_lst {xs : List D} {u v : Option Int} : (cutP u v (.lst xs)).run M Q E0 = Q (.lst (cutD xs u v)) M := rfl
@[simp] theorem cut_tup {xs : List D} {u v : Option Int} : (cutP u v (.tup xs)).run M Q E0 = Q (.tup (cutD xs u v)) M := rfl
@[simp] theorem w_it1 {k : It1} : (wp (.it1 k a) ρ).run M Q E0 = (wp a ρ).run M (fun d M1 => (it1P k d).run M1 Q E0) E0 := rfl
@[simp] theorem w_it2 {k : It2} : (wp (.it2 k a b) ρ).run M Q E0 = (wp a ρ).run M (fun d M1 => (wp b ρ).run M1 (fun e M2 => (it2P k d e).run M2 Q E0) E0) E0 := rfl
@[simp] theorem w_it3 : (wp (.it3 a b c) ρ).run M Q E0 = (wp a ρ).run M (fun d M1 => (wp b ρ).run M1 (fun e M2 => (wp c ρ).run M2 (fun g M3 => (it3P d e g).run M3 Q E0) E0) E0) E0 := rfl
@[simp] theorem w_sp1 {o : Sp1} : (wp (.sp1 o a) ρ).run M Q E0 = (wp a ρ).run M (fun d M1 => (sp1P o d).run M1 Q E0) E0 := rfl
@[simp] theorem w_sp2 {o : Sp2} : (wp (.sp2 o a b) ρ).run M Q E0 = (wp a ρ).run M (fun d M1 => (sp2G o d).run M1 (fun _ M2 => (wp b ρ).run M2 (fun e M3 => (sp2P o d e).run M3 Q E0) E0) E0) E0 := rfl
@[simp] theorem revL_run {xs : List D} : (sp1P .rev (.lst xs)).run M Q E0 = Q (.lst xs.reverse) M := rfl
@[simp] theorem revT_run {xs : List D} : (sp1P .rev (.tup xs)).run M Q E0 = Q (.tup xs.reverse) M := rfl
@[simp] theorem indexG_run {xs : List D} {Q : Unit → Mem → Prop} : (sp2G .index (.lst xs)).run M Q E0 = Q () M := rfl
@[simp] theorem index_run {xs : List D} {d : D} : (sp2P .index (.lst xs) d).run M Q E0 = ((flatD d = true ∧ xs.all flatD = true) ∧ (PM.opt (idxD d xs)).run M (fun (j : Nat) M1 => Q (.int j) M1) E0) := by cases d <;> rfl
@[simp] theorem lrange_run {j : Int} : (sp1P .lrange (.int j)).run M Q E0 = ((0 ≤ j ∧ j ≤ 16777216) ∧ Q (.lst (rangeD 0 j.toNat)) M) := rfl
@[simp] theorem sortint_run {xs : List D} : (sp1P .sortint (.tup xs)).run M Q E0 = (PM.opt (intsF xs)).run M (fun ns M1 => ns.length ≤ 60 ∧ ∀ ms : List Int, ms.Pairwise (· < ·) → (∀ k : Int, k ∈ ms ↔ k ∈ ns) → Q (.lst (ms.map .int)) M1) E0 := rfl
@[simp] theorem b1_strB {b : Bool} : (b1P .str (.bl b)).run M Q E0 = Q (.str (if b = true then "True" else "False")) M := rfl
@[simp] theorem sortset_run {xs : List D} : (sp1P .sortset (.lst xs)).run M Q E0 = (PM.opt (pairsF xs)).run M (fun ps M1 => ((∀ p ∈ ps, 0 ≤ p.1 ∧ p.1 < 64 ∧ 0 ≤ p.2 ∧ p.2 < 64) ∧ (sortP ps).length < 63) ∧ Q (.lst ((sortP ps).map pairD)) M1) E0 := rfl
@[simp] theorem minT_run {x : D} {xs : List D} : (sp1P .minT (.lst (x :: xs))).run M Q E0 = (((∀ y ∈ x :: xs, shN 60 y) ∧ PySem.W.AlikeAll (toPys (x :: xs))) ∧ ∀ d, d ∈ x :: xs → toPy d = PySem.W.minD (toPy x) (toPys xs) → Q d M) := rfl
@[simp] theorem joinG_run {x : Str} {Q : Unit → Mem → Prop} : (sp2G .join (.str x)).run M Q E0 = Q () M := rfl
@[simp] theorem splitG_run {x : Str} {Q : Unit → Mem → Prop} : (sp2G .splitOn (.str x)).run M Q E0 = Q () M := rfl
@[simp] theorem joinL_run {x : Str} {xs : List D} : (sp2P .join (.str x) (.lst xs)).run M Q E0 = (PM.opt (strsF xs)).run M (fun ys M1 => (ys.map (·.length)).sum + ys.length * x.length ≤ 16777216 ∧ Q (.str (Str.join x ys)) M1) E0 := rfl
@[simp] theorem joinT_run {x : Str} {xs : List D} : (sp2P .join (.str x) (.tup xs)).run M Q E0 = (PM.opt (strsF xs)).run M (fun ys M1 => (ys.map (·.length)).sum + ys.length * x.length ≤ 16777216 ∧ Q (.str (Str.join x ys)) M1) E0 := rfl
@[simp] theorem split_run {x y : Str} : (sp2P .splitOn (.str x) (.str y)).run M Q E0 = (((y.length == 0) = false ∧ x.length + 2 ≤ sizeLine) ∧ Q (.lst ((Txt.split x y).map D.str)) M) := rfl
@[simp] theorem lens_run {d : D} : (sp1P .lens d).run M Q E0 = (PM.opt (setKeys d)).run M (fun ks M1 => Q (.int (distN ks : Nat)) M1) E0 := rfl
/-! truth -/
section
variable {T : Bool → Mem → Prop}
@[simp] theorem tr_bl {t : Bool} : (truP (.bl t)).run M T E0 = T t M := by simp [truP, strFits, truF]
@[simp] theorem tr_int {i : Int} : (truP (.int i)).run M T E0 = T (i != 0) M := by simp [truP, strFits, truF]
@[simp] theorem tr_non : (truP .non).run M T E0 = T false M := by simp [truP, strFits, truF]
@[simp] theorem tr_tup {xs : List D} : (truP (.tup xs)).run M T E0 = T (!xs.isEmpty) M := by simp [truP, strFits, truF]
@[simp] theorem tr_lst {xs : List D} : (truP (.lst xs)).run M T E0 = T (!xs.isEmpty) M := by simp [truP, strFits, truF]
@[simp] theorem tr_scr {xs : List Int} : (truP (.scr xs)).run M T E0 = T (!xs.isEmpty) M := by simp [truP, strFits, truF]
theorem tr_cell {p : Addr} {xs : List D} (h : M p = some (.lst xs)) : (truP (.cell p)).run M T E0 = T (!xs.isEmpty) M := by simp [truP, strFits, truF, h]
end
/-! operators -/
section
variable {i j : Int} {d e : D} {xs ys : List D} {x y : Str}
@[simp] theorem bo_add : (boP .add (.int i) (.int j)).run M Q E0 = Q (.int (i + j)) M := rfl
@[simp] theorem bo_addL : (boP .add (.lst xs) (.lst ys)).run M Q E0 = (xs.length + ys.length ≤ sizeLine ∧ Q (.lst (xs ++ ys)) M) := rfl
@[simp] theorem bo_addT : (boP .add (.tup xs) (.tup ys)).run M Q E0 = (xs.length + ys.length ≤ sizeLine ∧ Q (.tup (xs ++ ys)) M) := rfl
@[simp] theorem bo_mulT {xs : List D} {k : Int} : (boP .mul (.tup xs) (.int k)).run M Q E0 = ((2 ≤ k ∧ k ≤ 1000 ∧ xs.length ≤ 1000) ∧ Q (.tup (List.replicate k.toNat xs).flatten) M) := rfl
@[simp] theorem bo_addB {b : Bool} : (boP .add (.bl b) (.int j)).run M Q E0 = Q (.int ((if b = true then 1 else 0) + j)) M := rfl
@[simp] theorem bo_subB {b : Bool} : (boP .sub (.bl b) (.int j)).run M Q E0 = Q (.int ((if b = true then 1 else 0) - j)) M := rfl
@[simp] theorem bo_addS : (boP .add (.str x) (.str y)).run M Q E0 = (x.length + y.length ≤ sizeLine ∧ Q (.str (x ++ y)) M) := rfl
@[simp] theorem bo_sub : (boP .sub (.int i) (.int j)).run M Q E0 = Q (.int (i - j)) M := rfl
@[simp] theorem bo_mul : (boP .mul (.int i) (.int j)).run M Q E0 = (CMul i j ∧ Q (.int (i * j)) M) := rfl
@[simp] theorem bo_mulL : (boP .mul (.lst xs) (.int j)).run M Q E0 = ((0 ≤ j ∧ j < 2 ^ 63 ∧ xs.length * j.toNat ≤ sizeLine) ∧ Q (.lst (List.replicate j.toNat xs).flatten) M) := rfl
@[simp] theorem bo_fdiv : (boP .fdiv (.int i) (.int j)).run M Q E0 = (CDiv i j ∧ Q (.int (i / j)) M) := rfl
@[simp] theorem bo_mod : (boP .mod (.int i) (.int j)).run M Q E0 = (0 < j ∧ Q (.int (i % j)) M) := rfl
@[simp] theorem co_eq : (coP .eq d e).run M Q E0 = (eqOk d e ∧ Q (.bl (pyEq d e)) M) := by cases d <;> cases e <;> rfl
@[simp] theorem co_ne : (coP .ne d e).run M Q E0 = (eqOk d e ∧ Q (.bl (!pyEq d e)) M) := by cases d <;> cases e <;> rfl
@[simp] theorem co_lt : (coP .lt (.int i) (.int j)).run M Q E0 = Q (.bl (decide (i < j))) M := rfl
@[simp] theorem co_le : (coP .le (.int i) (.int j)).run M Q E0 = Q (.bl (decide (i ≤ j))) M := rfl
@[simp] theorem co_gt : (coP .gt (.int i) (.int j)).run M Q E0 = Q (.bl (decide (j < i))) M := rfl
@[simp] theorem co_ge : (coP .ge (.int i) (.int j)).run M Q E0 = Q (.bl (decide (j ≤ i))) M := rfl
@[simp] theorem co_inT : (coP .isin d (.tup xs)).run M Q E0 = (inOk d xs ∧ Q (.bl (inD d xs)) M) := by cases d <;> rfl
@[simp] theorem co_inL : (coP .isin d (.lst xs)).run M Q E0 = (inOk d xs ∧ Q (.bl (inD d xs)) M) := by cases d <;> rfl
@[simp] theorem co_niT : (coP .notin d (.tup xs)).run M Q E0 = (inOk d xs ∧ Q (.bl (!inD d xs)) M) := by cases d <;> rfl
@[simp] theorem co_niL : (coP .notin d (.lst xs)).run M Q E0 = (inOk d xs ∧ Q (.bl (!inD d xs)) M) := by cases d <;> rfl
@[simp] theorem b1_lenL : (b1P .len (.lst xs)).run M Q E0 = Q (.int xs.length) M := rfl
@[simp] theorem b1_lenT : (b1P .len (.tup xs)).run M Q E0 = Q (.int xs.length) M := rfl
@[simp] theorem b1_lenR {ns : List Int} : (b1P .len (.scr ns)).run M Q E0 = Q (.int ns.length) M := rfl
theorem b1_lenC {p : Addr} (h : M p = some (.lst xs)) : (b1P .len (.cell p)).run M Q E0 = Q (.int xs.length) M := by
  show PM.run (match M p with | some (.lst xs) => PM.pure (.int xs.length) | _ => .fail) M Q E0 = _
  rw [h]
  rfl
@[simp] theorem b1_abs : (b1P .abs (.int i)).run M Q E0 = Q (.int (if i < 0 then -i else i)) M := rfl
def maxL : List Int → Int | [] => 0 | a :: r => maxI a r
def minL : List Int → Int | [] => 0 | a :: r => minI a r
@[simp] theorem b1_max : (b1P .max (.lst xs)).run M Q E0 = (PM.opt (intsF xs)).run M (fun ns M1 => ns ≠ [] ∧ Q (.int (maxL ns)) M1) E0 := by
  show (PM.opt (intsF xs)).run M (fun ns M1 => PM.run (match ns with | [] => PM.fail | a :: r => .pure (.int (maxI a r))) M1 Q E0) E0 = _
  congr 1; funext ns M1
  cases ns with
  | nil => exact (eq_false fun z => z.1 rfl).symm
  | cons a r => exact propext ⟨fun h => ⟨fun z => (by cases z), h⟩, fun h => h.2⟩
@[simp] theorem b1_min : (b1P .min (.lst xs)).run M Q E0 = (PM.opt (intsF xs)).run M (fun ns M1 => ns ≠ [] ∧ Q (.int (minL ns)) M1) E0 := by
  show (PM.opt (intsF xs)).run M (fun ns M1 => PM.run (match ns with | [] => PM.fail | a :: r => .pure (.int (minI a r))) M1 Q E0) E0 = _
  congr 1; funext ns M1
  cases ns with
  | nil => exact (eq_false fun z => z.1 rfl).symm
  | cons a r => exact propext ⟨fun h => ⟨fun z => (by cases z), h⟩, fun h => h.2⟩
@[simp] theorem b1_all : (b1P .all (.lst xs)).run M Q E0 = (PM.opt (blsF xs)).run M (fun bs M1 => Q (.bl (bs.all id)) M1) E0 := rfl
@[simp] theorem b1_any : (b1P .any (.lst xs)).run M Q E0 = (PM.opt (blsF xs)).run M (fun bs M1 => Q (.bl (bs.any id)) M1) E0 := rfl
@[simp] theorem b1_sum : (b1P .sum (.lst xs)).run M Q E0 = (PM.opt (intsF xs)).run M (fun bs M1 => Q (.int bs.sum) M1) E0 := rfl
@[simp] theorem b1_sorted : (b1P .sorted (.lst xs)).run M Q E0 = (PM.opt (intsF xs)).run M (fun bs M1 => Q (.lst ((sortI bs).map .int)) M1) E0 := rfl
@[simp] theorem b1_listL : (b1P .list (.lst xs)).run M Q E0 = Q (.lst xs) M := rfl
@[simp] theorem b1_listT : (b1P .list (.tup xs)).run M Q E0 = Q (.lst xs) M := rfl
@[simp] theorem b1_tupL : (b1P .tuple (.lst xs)).run M Q E0 = Q (.tup xs) M := rfl
@[simp] theorem b1_tupT : (b1P .tuple (.tup xs)).run M Q E0 = Q (.tup xs) M := rfl
@[simp] theorem b1_intB {t : Bool} : (b1P .int (.bl t)).run M Q E0 = Q (.int (if t = true then 1 else 0)) M := rfl
@[simp] theorem b1_intI : (b1P .int (.int i)).run M Q E0 = Q (.int i) M := rfl
@[simp] theorem b2_max : (b2P .max (.int i) (.int j)).run M Q E0 = Q (.int (if j > i then j else i)) M := rfl
@[simp] theorem b2_min : (b2P .min (.int i) (.int j)).run M Q E0 = Q (.int (if j < i then j else i)) M := rfl
@[simp] theorem ix_lst : (ixP (.lst xs) (.int i)).run M Q E0 = (PM.opt (atI xs i)).run M Q E0 := rfl
@[simp] theorem ix_tup : (ixP (.tup xs) (.int i)).run M Q E0 = (PM.opt (atI xs i)).run M Q E0 := rfl
@[simp] theorem ix_scr {ns : List Int} : (ixP (.scr ns) (.int i)).run M Q E0 = (PM.opt (atI (ns.map D.int) i)).run M Q E0 := rfl
theorem cut_cell {p : Addr} {xs : List D} {u v : Option Int} (h : M p = some (.lst xs)) : (cutP u v (.cell p)).run M Q E0 = Q (.lst (cutD xs u v)) M := by
  show (match M p with | some (.lst xs) => (PM.pure (D.lst (cutD xs u v)) : PM D) | _ => .fail).run M Q E0 = _
  rw [h]; rfl
theorem w_lend {i : Nat} {xs : List D} (h : ρ[i]? = some (.own xs)) : (wp (.lend i a) ρ).run M Q E0 = (xs.all flatD = true ∧ ∀ p, M p = none → (wp a (ρ.set i (.val (.cell p)))).run (M.put p (.lst xs)) (fun d M2 => M2 p = some (.lst xs) ∧ flatD d = true ∧ Q d (M2.del p)) (fun _ _ => False)) := by
  show (match ρ[i]? with | some (.own xs) => PM.lend xs fun p => wp a (ρ.set i (.val (.cell p))) | _ => .fail).run M Q E0 = _
  rw [h]; rfl
theorem ix_cell {p : Addr} (h : M p = some (.lst xs)) : (ixP (.cell p) (.int i)).run M Q E0 = (PM.opt (atI xs i)).run M Q E0 := by
  show PM.run (match M p with | some (.lst xs) => PM.opt (atI xs i) | _ => .fail) M Q E0 = _
  rw [h]
@[simp] theorem it_seqL : (it1P .seq (.lst xs)).run M Q E0 = Q (.tup xs) M := rfl
@[simp] theorem it_seqT : (it1P .seq (.tup xs)).run M Q E0 = Q (.tup xs) M := rfl
@[simp] theorem it_seqR {ns : List Int} : (it1P .seq (.scr ns)).run M Q E0 = Q (.tup (ns.map .int)) M := rfl
@[simp] theorem it_range : (it1P .range (.int j)).run M Q E0 = ((-16777216 ≤ j ∧ j ≤ 16777216) ∧ Q (.tup (rangeD 0 j.toNat)) M) := rfl
@[simp] theorem it_range2 : (it2P .range (.int i) (.int j)).run M Q E0 = ((-16777216 ≤ i ∧ i ≤ 16777216 ∧ -16777216 ≤ j ∧ j - i ≤ 16777216) ∧ Q (.tup (rangeD i (j - i).toNat)) M) := rfl
@[simp] theorem it_enumL : (it1P .enum (.lst xs)).run M Q E0 = Q (.tup (enumD 0 xs)) M := rfl
@[simp] theorem it_enumT : (it1P .enum (.tup xs)).run M Q E0 = Q (.tup (enumD 0 xs)) M := rfl
@[simp] theorem it_zipLL : (it2P .zip (.lst xs) (.lst ys)).run M Q E0 = Q (.tup (zipD xs ys)) M := rfl
@[simp] theorem it_zipTT : (it2P .zip (.tup xs) (.tup ys)).run M Q E0 = Q (.tup (zipD xs ys)) M := rfl
@[simp] theorem it_zipTL : (it2P .zip (.tup xs) (.lst ys)).run M Q E0 = Q (.tup (zipD xs ys)) M := rfl
@[simp] theorem it_zipLT : (it2P .zip (.lst xs) (.tup ys)).run M Q E0 = Q (.tup (zipD xs ys)) M := rfl
end
/-! statements -/
section
variable {s t : S} {i : Nat}
@[simp] theorem v_nop : (wpS .nop).run ρ M P = P.nx ρ M := rfl
@[simp] theorem v_seq : (wpS (.seq s t)).run ρ M P = (wpS s).run ρ M { P with nx := fun ρ' M' => (wpS t).run ρ' M' P } := rfl
@[simp] theorem v_set : (wpS (.set i a)).run ρ M P = (wp a ρ).run M (fun d M' => P.nx (ρ.set i (.val d)) M') P.ex := rfl
@[simp] theorem v_ret : (wpS (.ret a)).run ρ M P = (wp a ρ).run M P.rt P.ex := rfl
@[simp] theorem v_ex : (wpS (.ex a)).run ρ M P = (wp a ρ).run M (fun _ M' => P.nx ρ M') P.ex := rfl
@[simp] theorem v_never : (wpS .never).run ρ M P = False := rfl
@[simp] theorem v_rse {k : Nat} : (wpS (.rse k)).run ρ M P = P.ex k M := rfl
@[simp] theorem v_tryret {hs : List (Nat × Str)} : (wpS (.tryret a hs)).run ρ M P = (wp a ρ).run M P.rt (SM.exTo hs P) := rfl
@[simp] theorem v_tryn : (wpS (.tryn s)).run ρ M P = (wpS s).run ρ M { P with ex := fun _ _ => False } := rfl
@[simp] theorem v_iff : (wpS (.iff a s t)).run ρ M P = (wp a ρ).run M (fun d M1 => (truP d).run M1 (fun b M2 => if b = true then (wpS s).run ρ M2 P else (wpS t).run ρ M2 P) P.ex) P.ex := rfl
def ownR : Option Sl → (List D → Prop) → Prop | some (.own xs), k => k xs | _, _ => False
@[simp] theorem ownR_own {xs : List D} {k} : ownR (some (.own xs)) k = k xs := rfl
theorem own_run {k : List D → Prop} : (∃ xs, ownAt ρ i = some xs ∧ k xs) ↔ ownR ρ[i]? k := by
  unfold ownAt
  constructor
  · rintro ⟨xs, h, q⟩
    split at h
    · rename_i e; cases h; rw [e]; exact q
    · cases h
  · intro h
    cases e : ρ[i]? with
    | none => rw [e] at h; exact h.elim
    | some s =>
      rw [e] at h
      cases s <;> first | exact False.elim h | exact ⟨_, rfl, h⟩
@[simp] theorem v_frz : (wpS (.frz i)).run ρ M P = ownR ρ[i]? fun xs => P.nx (ρ.set i (.val (.lst xs))) M := propext own_run
@[simp] theorem v_app : (wpS (.app i a)).run ρ M P = ownR ρ[i]? fun xs => (wp a ρ).run M (fun d M' => xs.length < sizeLine ∧ P.nx (ρ.set i (.own (xs ++ [d]))) M') P.ex := propext own_run
def lstR : D → (List D → Prop) → Prop | .lst xs, k => k xs | _, _ => False
@[simp] theorem lstR_lst {xs : List D} {k} : lstR (.lst xs) k = k xs := rfl
theorem lst_run {d : D} {k : List D → Prop} : (∃ xs, d = .lst xs ∧ k xs) ↔ lstR d k := by
  cases d <;> simp [lstR]
@[simp] theorem v_new : (wpS (.new i a)).run ρ M P = (wp a ρ).run M (fun d M' => lstR d fun xs => P.nx (ρ.set i (.own xs)) M') P.ex := by
  show (wp a ρ).run M (fun d M' => ∃ xs, d = .lst xs ∧ P.nx (ρ.set i (.own xs)) M') P.ex = _
  simp only [lst_run]
@[simp] theorem v_ext : (wpS (.ext i a)).run ρ M P = ownR ρ[i]? fun xs => (wp a ρ).run M (fun d M' => lstR d fun ys => xs.length + ys.length ≤ sizeLine ∧ P.nx (ρ.set i (.own (xs ++ ys))) M') P.ex := by
  rw [← own_run]
  show (∃ xs, ownAt ρ i = some xs ∧ (wp a ρ).run M (fun d M' => ∃ ys, d = .lst ys ∧ xs.length + ys.length ≤ sizeLine ∧ P.nx (ρ.set i (.own (xs ++ ys))) M') P.ex) = _
  simp only [lst_run]
@[simp] theorem v_par {is : List (Nat × Bool)} : (wpS (.par is a)).run ρ M P = argR a ρ M (fun ds M' => ds.length = is.length ∧ P.nx (setM ρ is ds) M') P.ex := by
  rw [← arg_run]
  show (wp a ρ).run M (fun t M' => ∃ ds, t = .tup ds ∧ ds.length = is.length ∧ P.nx (setM ρ is ds) M') P.ex = _
  congr 1; funext d M'
  cases d <;> simp [tupP]
@[simp] theorem setM_nil : setM ρ [] [] = ρ := rfl
@[simp] theorem setM_f {r : List (Nat × Bool)} {d : D} {ds : List D} : setM ρ ((i, false) :: r) (d :: ds) = setM (ρ.set i (.val d)) r ds := rfl
@[simp] theorem setM_t {r : List (Nat × Bool)} {xs : List D} {ds : List D} : setM ρ ((i, true) :: r) (.lst xs :: ds) = setM (ρ.set i (.own xs)) r ds := rfl
@[simp] theorem v_unp {is : List Nat} : (wpS (.unp is a)).run ρ M P = (wp a ρ).run M (fun d M' => (tgP (.many is) d ρ).run M' P.nx P.ex) P.ex := rfl
@[simp] theorem tg_one {d : D} {k : Slots → Mem → Prop} : (tgP (.one i) d ρ).run M k E0 = k (ρ.set i (.val d)) M := rfl
@[simp] theorem tg_tup {is : List Nat} {ds : List D} {k : Slots → Mem → Prop} : (tgP (.many is) (.tup ds) ρ).run M k E0 = (ds.length = is.length ∧ k (setAll ρ is ds) M) := rfl
@[simp] theorem tg_lst {is : List Nat} {ds : List D} {k : Slots → Mem → Prop} : (tgP (.many is) (.lst ds) ρ).run M k E0 = (ds.length = is.length ∧ k (setAll ρ is ds) M) := rfl
@[simp] theorem setAll_nil {ds : List D} : setAll ρ [] ds = ρ := by cases ds <;> rfl
@[simp] theorem setAll_cons {is : List Nat} {d : D} {ds : List D} : setAll ρ (i :: is) (d :: ds) = setAll (ρ.set i (.val d)) is ds := rfl
def intR : Option Sl → (Int → Prop) → Prop | some (.val (.int x)), k => k x | _, _ => False
@[simp] theorem intR_int {x : Int} {k} : intR (some (.val (.int x))) k = k x := rfl
def intD : D → (Int → Prop) → Prop | .int x, k => k x | _, _ => False
@[simp] theorem intD_int {x : Int} {k} : intD (.int x) k = k x := rfl
theorem intD_run {d : D} {k : Int → Prop} : (∃ y, d = .int y ∧ k y) ↔ intD d k := by cases d <;> simp [intD]
@[simp] theorem v_aug : (wpS (.aug i a)).run ρ M P = intR ρ[i]? fun x => (wp a ρ).run M (fun d M' => intD d fun y => P.nx (ρ.set i (.val (.int (x + y)))) M') P.ex := by
  show (∃ x, ρ[i]? = some (.val (.int x)) ∧ (wp a ρ).run M (fun d M' => ∃ y, d = .int y ∧ P.nx (ρ.set i (.val (.int (x + y)))) M') P.ex) = _
  simp only [intD_run]
  cases h : ρ[i]? with
  | none => simp [intR]
  | some s =>
    cases s <;> simp [intR]
    rename_i d
    cases d <;> simp
@[simp] theorem v_newcell : (wpS (.newcell i)).run ρ M P = ∀ p, M p = none → P.nx (ρ.set i (.val (.cell p))) (M.put p (.lst [])) := rfl
theorem v_appc {p : Addr} {zs : List D} (h1 : ρ[i]? = some (.val (.cell p))) (h2 : M p = some (.lst zs)) : (wpS (.appc i a)).run ρ M P = (wp a ρ).run M (fun d M' => ∃ xs, M' p = some (.lst xs) ∧ xs.length < sizeLine ∧ P.nx ρ (M'.put p (.lst (xs ++ [d])))) P.ex := by
  show (∃ p zs, cellAt ρ M i = some (p, zs) ∧ _) = _
  have e : cellAt ρ M i = some (p, zs) := by unfold cellAt; rw [h1]; show (match M p with | some (.lst xs) => some (p, xs) | _ => none) = _; rw [h2]
  rw [e]
  refine propext ⟨fun ⟨p', zs', e', q⟩ => ?_, fun q => ⟨p, zs, rfl, q⟩⟩
  cases e'
  exact q
theorem v_putc {k : E} {p : Addr} (h1 : ρ[i]? = some (.val (.cell p))) : (wpS (.putc i k a)).run ρ M P = (wp a ρ).run M (fun d M' => (wp k ρ).run M' (fun j M2 => ∃ xs z n, M2 p = some (.lst xs) ∧ j = .int z ∧ ixN xs.length z = some n ∧ P.nx ρ (M2.put p (.lst (xs.set n d)))) P.ex) P.ex := by
  show (∃ p, ρ[i]? = some (.val (.cell p)) ∧ _) = _
  rw [h1]
  refine propext ⟨fun ⟨p', e', q⟩ => ?_, fun q => ⟨p, rfl, q⟩⟩
  cases e'
  exact q
end
end
@[simp] theorem szL : sizeLine = 16777216 := sizeLine_eq
theorem at_nat {α : Type} (xs : List α) (k : Nat) : atI xs (k : Int) = xs[k]? := by
  unfold atI ixN
  rw [if_pos (Int.natCast_nonneg k)]
  by_cases h : k < xs.length
  · rw [if_pos (by omega)]
    rfl
  · rw [if_neg (by omega), List.getElem?_eq_none (by omega)]
    rfl
@[simp] theorem at_0 {α : Type} (xs : List α) : atI xs 0 = xs[0]? := at_nat xs 0
@[simp] theorem at_1 {α : Type} (xs : List α) : atI xs 1 = xs[1]? := at_nat xs 1
@[simp] theorem at_2 {α : Type} (xs : List α) : atI xs 2 = xs[2]? := at_nat xs 2
@[simp] theorem at_3 {α : Type} (xs : List α) : atI xs 3 = xs[3]? := at_nat xs 3
@[simp] theorem at_4 {α : Type} (xs : List α) : atI xs 4 = xs[4]? := at_nat xs 4
@[simp] theorem at_5 {α : Type} (xs : List α) : atI xs 5 = xs[5]? := at_nat xs 5
@[simp] theorem at_6 {α : Type} (xs : List α) : atI xs 6 = xs[6]? := at_nat xs 6
@[simp] theorem at_7 {α : Type} (xs : List α) : atI xs 7 = xs[7]? := at_nat xs 7
/-! ## equality -/
section
variable {x y : Str} {i j : Int} {b c : Bool} {d : D}
@[simp] theorem eqOk_str : eqOk (.str x) (.str y) = True := eq_true (.inl ⟨rfl, rfl⟩)
@[simp] theorem eqOk_int : eqOk (.int i) (.int j) = True := eq_true (.inl ⟨rfl, rfl⟩)
@[simp] theorem eqOk_bl : eqOk (.bl b) (.bl c) = True := eq_true (.inl ⟨rfl, rfl⟩)
@[simp] theorem pyEq_str : pyEq (.str x) (.str y) = decide (x = y) := by
  show (x == y) = _
  by_cases h : x = y <;> simp [h]
@[simp] theorem pyEq_int : pyEq (.int i) (.int j) = decide (i = j) := by
  show (i == j) = _
  by_cases h : i = j <;> simp [h]
@[simp] theorem pyEq_bl : pyEq (.bl b) (.bl c) = (b == c) := rfl
@[simp] theorem inD_nil : inD d [] = false := rfl
@[simp] theorem inD_cons {e : D} {r : List D} : inD d (e :: r) = (pyEq e d || inD d r) := rfl
theorem inOk_flat {xs : List D} (h : flatD d = true) (h2 : xs.all flatD = true) : inOk d xs := .inl ⟨h, List.all_eq_true.mp h2⟩
@[simp] theorem isNon_non : isNon .non = true := rfl
@[simp] theorem isNon_int : isNon (.int i) = false := rfl
end
/-! ## rules for loops -/
section
variable {α : Type} {M : Mem} {E0 : EK}
/-- a comprehension whose turns leave the memory alone -/
theorem comp_go {f : D → PM (Option D)} {xs : List D} {C : List D → Mem → Prop} (g : D → Option D) (hs : ∀ x ∈ xs, ∀ (Q : Option D → Mem → Prop), Q (g x) M → (f x).run M Q fun _ _ => False) (hQ : C (xs.filterMap g) M) : (compGo f xs []).run M C E0 := by
  have go : ∀ (zs acc : List D), (∀ x ∈ zs, x ∈ xs) → ∀ (C : List D → Mem → Prop), C (acc ++ zs.filterMap g) M → (compGo f zs acc).run M C E0 := by
    intro zs
    induction zs with
    | nil => intro acc _ C h; simpa [compGo] using h
    | cons z zs ih =>
      intro acc hz C h
      refine (f z).mono (Q := fun o M' => o = g z ∧ M' = M) (E := fun _ _ => False) (E' := E0) (fun o M' q => ?_) (fun _ _ z => False.elim z) (hs z (hz z List.mem_cons_self) _ ⟨rfl, rfl⟩)
      obtain ⟨rfl, rfl⟩ := q
      cases e : g z with
      | none => exact ih acc (fun x hx => hz x (List.mem_cons_of_mem _ hx)) C (by simpa [e] using h)
      | some y => exact ih (acc ++ [y]) (fun x hx => hz x (List.mem_cons_of_mem _ hx)) C (by simpa [e] using h)
  exact go xs [] (fun _ h => h) _ (by simpa using hQ)
/-- .. of typed items -/
theorem comp_ty {α : Type} {f : D → PM (Option D)} {ys : List α} {enc : α → D} {C : List D → Mem → Prop} (g : α → Option D) (hs : ∀ y ∈ ys, ∀ (Q : Option D → Mem → Prop), Q (g y) M → (f (enc y)).run M Q fun _ _ => False) (hQ : C (ys.filterMap g) M) : (compGo f (ys.map enc) []).run M C E0 := by
  have go : ∀ (zs : List α) (acc : List D), (∀ x ∈ zs, x ∈ ys) → ∀ (C : List D → Mem → Prop), C (acc ++ zs.filterMap g) M → (compGo f (zs.map enc) acc).run M C E0 := by
    intro zs
    induction zs with
    | nil => intro acc _ C h; simpa [compGo] using h
    | cons z zs ih =>
      intro acc hz C h
      refine (f (enc z)).mono (Q := fun o M' => o = g z ∧ M' = M) (E := fun _ _ => False) (E' := E0) (fun o M' q => ?_) (fun _ _ z => False.elim z) (hs z (hz z List.mem_cons_self) _ ⟨rfl, rfl⟩)
      obtain ⟨rfl, rfl⟩ := q
      cases e : g z with
      | none => exact ih acc (fun x hx => hz x (List.mem_cons_of_mem _ hx)) C (by simpa [e] using h)
      | some y => exact ih (acc ++ [y]) (fun x hx => hz x (List.mem_cons_of_mem _ hx)) C (by simpa [e] using h)
  exact go ys [] (fun _ h => h) _ (by simpa using hQ)
@[simp] theorem wipeS_nil {ρ : Slots} : wipeS ρ [] = ρ := rfl
@[simp] theorem wipeS_cons {ρ : Slots} {v : Nat} {vs : List Nat} : wipeS ρ (v :: vs) = (wipeS ρ vs).set v .unk := rfl
theorem w_comp {elt it t : E} {tg : Tg} {own : List Nat} {ρ : Slots} {Q : D → Mem → Prop} : (wp (.comp elt tg it t own) ρ).run M Q E0 = (wp it ρ).run M (fun u M1 => (tupP u).run M1 (fun xs M2 => (PM.bind (.need (xs.length ≤ sizeLine)) fun _ => .bind (compGo (stepP tg (wipeS ρ own) t elt) xs []) fun ys => .pure (.lst ys)).run M2 Q E0) E0) E0 := rfl
@[simp] theorem tup_run {xs : List D} {Q : List D → Mem → Prop} : (tupP (.tup xs)).run M Q E0 = Q xs M := rfl
@[simp] theorem step_run {tg : Tg} {ρ : Slots} {t elt : E} {x : D} {Q : Option D → Mem → Prop} : (stepP tg ρ t elt x).run M Q E0 = (tgP tg x ρ).run M (fun ρ1 M1 => (wp t ρ1).run M1 (fun d M2 => (truP d).run M2 (fun b M3 => if b = true then (wp elt ρ1).run M3 (fun y M4 => Q (some y) M4) (fun _ _ => False) else Q none M3) fun _ _ => False) fun _ _ => False) fun _ _ => False := by
  show (tgP tg x ρ).run M (fun ρ1 M1 => (wp t ρ1).run M1 (fun d M2 => (truP d).run M2 (fun b M3 => PM.run (if b = true then .bind (wp elt ρ1) fun y => .pure (some y) else .pure none) M3 Q fun _ _ => False) fun _ _ => False) fun _ _ => False) (fun _ _ => False) = _
  congr 1; funext ρ1 M1; congr 1; funext d M2; congr 1; funext b M3
  cases b <;> rfl
/-- a loop by its invariant -/
theorem for_run {g : D → Slots → PM Slots} {b : SM} {xs : List D} {ρ : Slots} {P : Post} (I : Nat → Slots → Mem → Prop) (h0 : I 0 ρ M) (hs : ∀ (k : Nat) x ρ M, xs[k]? = some x → I k ρ M → (g x ρ).run M (fun ρ1 M1 => b.run ρ1 M1 { P with nx := I (k + 1) }) P.ex)
    (he : ∀ ρ M, I xs.length ρ M → P.nx ρ M) : forGo g b xs ρ M P := by
  have go : ∀ (zs : List D) (k : Nat) ρ M, xs.drop k = zs → k ≤ xs.length → I k ρ M → forGo g b zs ρ M P := by
    intro zs
    induction zs with
    | nil =>
      intro k ρ M e hk i
      have : xs.length - k = 0 := by rw [← List.length_drop, e]; rfl
      have ek : k = xs.length := by omega
      exact he ρ M (ek ▸ i)
    | cons z zs ih =>
      intro k ρ M e hk i
      have lt : k < xs.length := by
        have := congrArg List.length e
        rw [List.length_drop, List.length_cons] at this
        omega
      rw [List.drop_eq_getElem_cons lt] at e
      injection e with e1 e2
      refine (g z ρ).mono (fun ρ1 M1 q => ?_) (fun _ _ z => z) (hs k z ρ M (by rw [List.getElem?_eq_getElem lt, e1]) i)
      exact b.mono (Q := { P with nx := I (k + 1) }) (fun ρ2 M2 i2 => ih (k + 1) ρ2 M2 e2 lt i2) (fun _ _ z => z) (fun _ _ z => z) q
  exact go xs 0 ρ M rfl (Nat.zero_le _) h0
theorem v_forr {tg : Tg} {it : E} {s : S} {ρ : Slots} {P : Post} : (wpS (.forr tg it s)).run ρ M P = (wp it ρ).run M (fun t M' => (tupP t).run M' (fun xs M2 => forGo (tgP tg) (wpS s) xs ρ M2 P) P.ex) P.ex := by
  show (wp it ρ).run M (fun t M' => ∃ xs, t = .tup xs ∧ forGo (tgP tg) (wpS s) xs ρ M' P) P.ex = _
  congr 1; funext d M'
  cases d <;> simp [tupP]
/-- a specification by a function on data -/
def tyF (n : Nat) {α : Type} (enc : α → List D) (pre : α → Mem → Prop) (res : α → D) : FS :=
  { ar := n, pre := fun ds M => ∃ x, ds = enc x ∧ pre x M, post := fun ds M r M' => M' = M ∧ ∀ x, ds = enc x → pre x M → r = res x }
theorem call_ty {n : Nat} {enc : α → List D} {pre : α → Mem → Prop} {res : α → D} {ds : List D} {Q : D → Mem → Prop} (x : α) (he : ds = enc x) (hn : ds.length = n) (hp : pre x M) (h : Q (res x) M) : (PM.call (tyF n enc pre res) ds).run M Q E0 :=
  ⟨hn, ⟨x, he, hp⟩, fun d M' ⟨e, q⟩ => by rw [e, q x he hp]; exact h, fun _ _ z => False.elim z⟩
theorem call_tyE {n : Nat} {enc : α → List D} {pre : α → Mem → Prop} {res : α → D} {ds : List D} {Q : D → Mem → Prop} (inj : ∀ x y, enc x = enc y → x = y) (x : α) (he : ds = enc x) (hn : ds.length = n) (hp : pre x M) : (PM.call (tyF n enc pre res) ds).run M Q E0 = Q (res x) M :=
  propext ⟨fun q => q.2.2.1 _ _ ⟨rfl, fun y e _ => by rw [inj x y (he.symm.trans e)]⟩, call_ty x he hn hp⟩
theorem body_ty {n ar : Nat} {b : S} {enc : α → List D} {pre : α → Mem → Prop} {res : α → D} (inj : ∀ x y, enc x = enc y → x = y)
    (h : ∀ x M, pre x M → (wpS b).run (startS n (enc x)) M { nx := fun _ M' => M' = M ∧ res x = .non, rt := fun d M' => M' = M ∧ d = res x, ex := fun _ _ => False }) : BodyOk n b (tyF ar enc pre res) := by
  rintro _ M hl ⟨x, rfl, hp⟩
  refine (wpS b).mono (Q := { nx := fun _ M' => M' = M ∧ res x = .non, rt := fun d M' => M' = M ∧ d = res x, ex := fun _ _ => False }) (fun _ M' q => ?_) (fun d M' q => ?_) (fun _ _ z => z) (h x M hp)
  · exact ⟨q.1, fun y e _ => by rw [← inj x y e]; exact q.2.symm⟩
  · exact ⟨q.1, fun y e _ => by rw [← inj x y e]; exact q.2⟩
/-! ### .. that may raise -/
def txF (n : Nat) (enc : α → List D) (pre : α → Mem → Prop) (res : α → Except Nat D) : FS :=
  { ar := n, pre := fun ds M => ∃ x, ds = enc x ∧ pre x M, post := fun ds M r M' => M' = M ∧ ∀ x, ds = enc x → pre x M → res x = .ok r, exc := fun ds M k M' => M' = M ∧ ∀ x, ds = enc x → pre x M → res x = .error k }
def outR (r : Except Nat D) (Q : D → Mem → Prop) (E0 : EK) (M : Mem) : Prop := match r with | .ok d => Q d M | .error k => E0 k M
@[simp] theorem outR_ok {d : D} {Q : D → Mem → Prop} : outR (.ok d) Q E0 M = Q d M := rfl
@[simp] theorem outR_error {k : Nat} {Q : D → Mem → Prop} : outR (.error k) Q E0 M = E0 k M := rfl
theorem call_txE {n : Nat} {enc : α → List D} {pre : α → Mem → Prop} {res : α → Except Nat D} {ds : List D} {Q : D → Mem → Prop} (inj : ∀ x y, enc x = enc y → x = y) (x : α) (he : ds = enc x) (hn : ds.length = n) (hp : pre x M) : (PM.call (txF n enc pre res) ds).run M Q E0 = outR (res x) Q E0 M := by
  refine propext ⟨fun q => ?_, fun q => ⟨hn, ⟨x, he, hp⟩, fun d M' ⟨e, h⟩ => ?_, fun k M' ⟨e, h⟩ => ?_⟩⟩
  · cases h : res x with
    | ok d => exact q.2.2.1 d M ⟨rfl, fun y e _ => by rw [← inj x y (he.symm.trans e)]; exact h⟩
    | error k => exact q.2.2.2 k M ⟨rfl, fun y e _ => by rw [← inj x y (he.symm.trans e)]; exact h⟩
  · rw [h x he hp] at q
    rw [e]
    exact q
  · rw [h x he hp] at q
    rw [e]
    exact q
theorem body_tx {n ar : Nat} {b : S} {enc : α → List D} {pre : α → Mem → Prop} {res : α → Except Nat D} (inj : ∀ x y, enc x = enc y → x = y)
    (h : ∀ x M, pre x M → (wpS b).run (startS n (enc x)) M { nx := fun _ M' => M' = M ∧ res x = .ok .non, rt := fun d M' => M' = M ∧ res x = .ok d, ex := fun k M' => M' = M ∧ res x = .error k }) : BodyOk n b (txF ar enc pre res) := by
  rintro _ M hl ⟨x, rfl, hp⟩
  refine (wpS b).mono (Q := { nx := fun _ M' => M' = M ∧ res x = .ok .non, rt := fun d M' => M' = M ∧ res x = .ok d, ex := fun k M' => M' = M ∧ res x = .error k }) (fun _ M' q => ?_) (fun d M' q => ?_) (fun k M' q => ?_) (h x M hp)
  · exact ⟨q.1, fun y e _ => by rw [← inj x y e]; exact q.2⟩
  · exact ⟨q.1, fun y e _ => by rw [← inj x y e]; exact q.2⟩
  · exact ⟨q.1, fun y e _ => by rw [← inj x y e]; exact q.2⟩
@[simp] theorem start3 {n : Nat} {a b c : D} : startS (n + 3) [a, b, c] = .val a :: .val b :: .val c :: List.replicate n .unk := by simp [startS]
@[simp] theorem start2 {n : Nat} {a b : D} : startS (n + 2) [a, b] = .val a :: .val b :: List.replicate n .unk := by simp [startS]
@[simp] theorem start1 {n : Nat} {a : D} : startS (n + 1) [a] = .val a :: List.replicate n .unk := by simp [startS]
@[simp] theorem start4 {n : Nat} {a b c d : D} : startS (n + 4) [a, b, c, d] = .val a :: .val b :: .val c :: .val d :: List.replicate n .unk := by simp [startS]
end
theorem put_del {M : Mem} {a : Addr} {c : Cell} (h : M a = none) : (M.put a c).del a = M := by
  funext b
  show (if b = a then none else if b = a then some c else M b) = M b
  by_cases e : b = a
  · rw [if_pos e, e, h]
  · rw [if_neg e, if_neg e]
end PL
set_option Elab.async false
set_option linter.all false
set_option maxRecDepth 100000
namespace PL
open PySem L2 PyProof.Rows PySem.Spec
/-! ## outermost first: what comes later stands as an instance, into which simp does not look (by mk17.py from PL16) -/
class KK (α : Type) where
  q : α → Mem → Prop
  e : EK
class KP where
  p : Post
class KF (α : Type) where
  k : α → Prop
def rn {α : Type} (x : PM α) (M : Mem) [c : KK α] : Prop := x.run M c.q c.e
def sn (x : SM) (ρ : Slots) (M : Mem) [c : KP] : Prop := x.run ρ M c.p
def sV (o : Option Sl) [c : KF D] : Prop := slV o c.k
def sB (o : Option Sl) [c : KF D] : Prop := slB o c.k
def oR (o : Option Sl) [c : KF (List D)] : Prop := ownR o c.k
def lR (o : D) [c : KF (List D)] : Prop := lstR o c.k
def iR (o : Option Sl) [c : KF Int] : Prop := intR o c.k
def iD (o : D) [c : KF Int] : Prop := intD o c.k
def aR (e : E) (ρ : Slots) (M : Mem) [c : KK (List D)] : Prop := argR e ρ M c.q c.e
def uR (r : Except Nat D) (M : Mem) [c : KK D] : Prop := outR r c.q c.e M
def fN (g : D → Slots → PM Slots) (b : SM) (xs : List D) (ρ : Slots) (M : Mem) [c : KP] : Prop := forGo g b xs ρ M c.p
theorem to_sn {x : SM} {ρ : Slots} {M : Mem} {P : Post} (h : @sn x ρ M ⟨P⟩) : x.run ρ M P := h
theorem to_rn {α : Type} {x : PM α} {M : Mem} {Q : α → Mem → Prop} {E0 : EK} (h : @rn _ x M ⟨Q, E0⟩) : x.run M Q E0 := h
section
variable {α : Type} {M : Mem} {E0 : EK} {ρ : Slots} {P : Post} {Q : D → Mem → Prop} {a b c : E} {s t : S} {i : Nat}
@[simp] theorem n_sV {d : D} {k : D → Prop} : @sV (some (.val d)) ⟨k⟩ = k d := propext ⟨fun h => h, fun h => h⟩
@[simp] theorem n_sB {d : D} {k : D → Prop} : @sB (some (.val d)) ⟨k⟩ = k d := propext ⟨fun h => h, fun h => h⟩
@[simp] theorem n_sBo {xs : List D} {k : D → Prop} : @sB (some (.own xs)) ⟨k⟩ = k (.lst xs) := propext ⟨fun h => h, fun h => h⟩
@[simp ↓] theorem n_brB {t : Bool} {p q : Prop} : brB (.bl t) p q = (if t = true then p else q) := brB_bl
@[simp] theorem n_aRc {e es : E} {k : List D → Mem → Prop} : @aR (.cons e es) ρ M ⟨k, E0⟩ = @rn _ (wp e ρ) M ⟨fun d M' => @aR es ρ M' ⟨fun ds M2 => k (d :: ds) M2, E0⟩, E0⟩ := propext ⟨fun h => h, fun h => h⟩
@[simp] theorem n_aRn {k : List D → Mem → Prop} : @aR .nil ρ M ⟨k, E0⟩ = k [] M := propext ⟨fun h => h, fun h => h⟩
@[simp] theorem n_oR {xs : List D} {k : List D → Prop} : @oR (some (.own xs)) ⟨k⟩ = k xs := propext ⟨fun h => h, fun h => h⟩
@[simp] theorem n_lR {xs : List D} {k : List D → Prop} : @lR (.lst xs) ⟨k⟩ = k xs := propext ⟨fun h => h, fun h => h⟩
@[simp] theorem n_iR {x : Int} {k : Int → Prop} : @iR (some (.val (.int x))) ⟨k⟩ = k x := propext ⟨fun h => h, fun h => h⟩
@[simp] theorem n_iD {x : Int} {k : Int → Prop} : @iD (.int x) ⟨k⟩ = k x := propext ⟨fun h => h, fun h => h⟩
@[simp] theorem n_uo {d : D} : @uR (.ok d) M ⟨Q, E0⟩ = Q d M := propext ⟨fun h => h, fun h => h⟩
@[simp] theorem n_ue {k : Nat} : @uR (.error k) M ⟨Q, E0⟩ = E0 k M := propext ⟨fun h => h, fun h => h⟩
@[simp] theorem n_pure {x : α} {Q : α → Mem → Prop} : @rn _ (PM.pure x) M ⟨Q, E0⟩ = Q x M := propext ⟨fun h => h, fun h => h⟩
@[simp] theorem n_some {x : α} {Q : α → Mem → Prop} : @rn _ (PM.opt (some x)) M ⟨Q, E0⟩ = Q x M := propext ⟨fun h => h, fun h => h⟩
@[simp] theorem n_none {Q : α → Mem → Prop} : @rn _ (PM.opt none) M ⟨Q, E0⟩ = False := rfl
@[simp] theorem n_call {f : Str} {F : FS} {es : E} : @rn _ (wp (.call f F es) ρ) M ⟨Q, E0⟩ = @aR es ρ M ⟨fun ds M' => @rn _ (PM.call F ds) M' ⟨Q, E0⟩, E0⟩ := w_call
@[simp] theorem n_comp {elt it t : E} {tg : Tg} {own : List Nat} : @rn _ (wp (.comp elt tg it t own) ρ) M ⟨Q, E0⟩ = @rn _ (wp it ρ) M ⟨fun u M1 => @rn _ (tupP u) M1 ⟨fun xs M2 => xs.length ≤ sizeLine ∧ @rn _ (compGo (stepP tg (wipeS ρ own) t elt) xs []) M2 ⟨fun ys M3 => Q (.lst ys) M3, E0⟩, E0⟩, E0⟩ := rfl
@[simp] theorem n_step {tg : Tg} {t elt : E} {x : D} {Q : Option D → Mem → Prop} : @rn _ (stepP tg ρ t elt x) M ⟨Q, E0⟩ = @rn _ (tgP tg x ρ) M ⟨fun ρ1 M1 => @rn _ (wp t ρ1) M1 ⟨fun d M2 => @rn _ (truP d) M2 ⟨fun b M3 => if b = true then @rn _ (wp elt ρ1) M3 ⟨fun y M4 => Q (some y) M4, fun _ _ => False⟩ else Q none M3, fun _ _ => False⟩, fun _ _ => False⟩, fun _ _ => False⟩ := step_run
@[simp] theorem n_forr {tg : Tg} {it : E} : @sn (wpS (.forr tg it s)) ρ M ⟨P⟩ = @rn _ (wp it ρ) M ⟨fun u M' => @rn _ (tupP u) M' ⟨fun xs M2 => @fN (tgP tg) (wpS s) xs ρ M2 ⟨P⟩, P.ex⟩, P.ex⟩ := v_forr
theorem n_comp_ty {α : Type} {f : D → PM (Option D)} {ys : List α} {enc : α → D} {C : List D → Mem → Prop} (g : α → Option D) (hs : ∀ y ∈ ys, ∀ (Q : Option D → Mem → Prop), Q (g y) M → @rn _ (f (enc y)) M ⟨Q, fun _ _ => False⟩) (hQ : C (ys.filterMap g) M) : @rn _ (compGo f (ys.map enc) []) M ⟨C, E0⟩ := comp_ty g hs hQ
theorem n_comp_go {f : D → PM (Option D)} {xs : List D} {C : List D → Mem → Prop} (g : D → Option D) (hs : ∀ x ∈ xs, ∀ (Q : Option D → Mem → Prop), Q (g x) M → @rn _ (f x) M ⟨Q, fun _ _ => False⟩) (hQ : C (xs.filterMap g) M) : @rn _ (compGo f xs []) M ⟨C, E0⟩ := comp_go g hs hQ
theorem n_for {g : D → Slots → PM Slots} {b : SM} {xs : List D} (I : Nat → Slots → Mem → Prop) (h0 : I 0 ρ M) (hs : ∀ (k : Nat) x ρ M, xs[k]? = some x → I k ρ M → @rn _ (g x ρ) M ⟨fun ρ1 M1 => @sn b ρ1 M1 ⟨{ P with nx := I (k + 1) }⟩, P.ex⟩)
    (he : ∀ ρ M, I xs.length ρ M → P.nx ρ M) : @fN g b xs ρ M ⟨P⟩ := for_run I h0 hs he
theorem n_whl (W : Nat → Slots → Mem → Prop) (m : Nat) (h0 : W m ρ M) (hs : ∀ m ρ M, W m ρ M → @rn _ (wp c ρ) M ⟨fun d M1 => @rn _ (truP d) M1 ⟨fun t M2 => if t = true then @sn (wpS s) ρ M2 ⟨{ P with nx := fun ρ2 M2 => ∃ m', m' < m ∧ W m' ρ2 M2 }⟩ else P.nx ρ M2, P.ex⟩, P.ex⟩) : @sn (wpS (.whl c s)) ρ M ⟨P⟩ := ⟨W, ⟨m, h0⟩, hs⟩
@[simp] theorem n_fN0 {g : D → Slots → PM Slots} {b : SM} : @fN g b [] ρ M ⟨P⟩ = P.nx ρ M := propext ⟨fun h => h, fun h => h⟩
@[simp] theorem n_fNc {g : D → Slots → PM Slots} {b : SM} {x : D} {xs : List D} : @fN g b (x :: xs) ρ M ⟨P⟩ = @rn _ (g x ρ) M ⟨fun ρ1 M1 => @sn b ρ1 M1 ⟨{ P with nx := fun ρ2 M2 => @fN g b xs ρ2 M2 ⟨P⟩ }⟩, P.ex⟩ := propext ⟨fun h => h, fun h => h⟩
end
section
variable {M : Mem} {Q : D → Mem → Prop} {E0 : EK} {ρ : Slots} {a b c : E} {P : Post} {T : Bool → Mem → Prop} {i j : Int} {d e : D} {xs ys : List D} {x y : Str}
@[simp] theorem n_w_var {i : Nat} : (@rn _ (wp (.var i) ρ) M ⟨Q, E0⟩) = @sV ρ[i]? ⟨fun d => Q d M⟩ := w_var
@[simp] theorem n_w_brw {i : Nat} : (@rn _ (wp (.brw i) ρ) M ⟨Q, E0⟩) = @sB ρ[i]? ⟨fun d => Q d M⟩ := w_brw
@[simp] theorem n_w_int {i : Int} : (@rn _ (wp (.int i) ρ) M ⟨Q, E0⟩) = Q (.int i) M := w_int
@[simp] theorem n_w_bl {i : Bool} : (@rn _ (wp (.bl i) ρ) M ⟨Q, E0⟩) = Q (.bl i) M := w_bl
@[simp] theorem n_w_non : (@rn _ (wp .non ρ) M ⟨Q, E0⟩) = Q .non M := w_non
@[simp] theorem n_w_str {x : Str} : (@rn _ (wp (.str x) ρ) M ⟨Q, E0⟩) = Q (.str x) M := w_str
@[simp] theorem n_w_tup {es : E} : (@rn _ (wp (.tup es) ρ) M ⟨Q, E0⟩) = @aR es ρ M ⟨(fun ds M' => ds.length ≤ sizeLine ∧ Q (.tup ds) M'), E0⟩ := w_tup
@[simp] theorem n_w_lst {es : E} : (@rn _ (wp (.lst es) ρ) M ⟨Q, E0⟩) = @aR es ρ M ⟨(fun ds M' => ds.length ≤ sizeLine ∧ Q (.lst ds) M'), E0⟩ := w_lst
@[simp] theorem n_w_neg : (@rn _ (wp (.neg a) ρ) M ⟨Q, E0⟩) = (@rn _ (wp a ρ) M ⟨(fun d M' => (@rn _ (negP d) M' ⟨Q, E0⟩)), E0⟩) := w_neg
@[simp] theorem n_neg_int {i : Int} : (@rn _ (negP (.int i)) M ⟨Q, E0⟩) = Q (.int (-i)) M := neg_int
@[simp] theorem n_w_bin {o : Bo} : (@rn _ (wp (.bin o a b) ρ) M ⟨Q, E0⟩) = (@rn _ (wp a ρ) M ⟨(fun d M1 => (@rn _ (wp b ρ) M1 ⟨(fun e M2 => (@rn _ (boP o d e) M2 ⟨Q, E0⟩)), E0⟩)), E0⟩) := w_bin
@[simp] theorem n_w_cmp {o : Co} : (@rn _ (wp (.cmp o a b) ρ) M ⟨Q, E0⟩) = (@rn _ (wp a ρ) M ⟨(fun d M1 => (@rn _ (wp b ρ) M1 ⟨(fun e M2 => (@rn _ (coP o d e) M2 ⟨Q, E0⟩)), E0⟩)), E0⟩) := w_cmp
@[simp] theorem n_w_chain {o o' : Co} : (@rn _ (wp (.chain o o' a b c) ρ) M ⟨Q, E0⟩) = (@rn _ (wp a ρ) M ⟨(fun d M1 => (@rn _ (wp b ρ) M1 ⟨(fun e M2 => (@rn _ (coP o d e) M2 ⟨(fun r M3 => brB r ((@rn _ (wp c ρ) M3 ⟨(fun g M4 => (@rn _ (coP o' e g) M4 ⟨Q, E0⟩)), E0⟩)) (Q (.bl false) M3)), E0⟩)), E0⟩)), E0⟩) := w_chain
@[simp] theorem n_w_isN : (@rn _ (wp (.isN a) ρ) M ⟨Q, E0⟩) = (@rn _ (wp a ρ) M ⟨(fun d M' => Q (.bl (isNon d)) M'), E0⟩) := w_isN
@[simp] theorem n_w_notN : (@rn _ (wp (.notN a) ρ) M ⟨Q, E0⟩) = (@rn _ (wp a ρ) M ⟨(fun d M' => Q (.bl (!isNon d)) M'), E0⟩) := w_notN
@[simp] theorem n_w_and : (@rn _ (wp (.and a b) ρ) M ⟨Q, E0⟩) = (@rn _ (wp a ρ) M ⟨(fun d M1 => (@rn _ (truP d) M1 ⟨(fun t M2 => if t = true then (@rn _ (wp b ρ) M2 ⟨Q, E0⟩) else Q d M2), E0⟩)), E0⟩) := w_and
@[simp] theorem n_w_or : (@rn _ (wp (.or a b) ρ) M ⟨Q, E0⟩) = (@rn _ (wp a ρ) M ⟨(fun d M1 => (@rn _ (truP d) M1 ⟨(fun t M2 => if t = true then Q d M2 else (@rn _ (wp b ρ) M2 ⟨Q, E0⟩)), E0⟩)), E0⟩) := w_or
@[simp] theorem n_w_not : (@rn _ (wp (.not a) ρ) M ⟨Q, E0⟩) = (@rn _ (wp a ρ) M ⟨(fun d M1 => (@rn _ (truP d) M1 ⟨(fun t M2 => Q (.bl (!t)) M2), E0⟩)), E0⟩) := w_not
@[simp] theorem n_w_ite : (@rn _ (wp (.ite c a b) ρ) M ⟨Q, E0⟩) = (@rn _ (wp c ρ) M ⟨(fun d M1 => (@rn _ (truP d) M1 ⟨(fun t M2 => if t = true then (@rn _ (wp a ρ) M2 ⟨Q, E0⟩) else (@rn _ (wp b ρ) M2 ⟨Q, E0⟩)), E0⟩)), E0⟩) := w_ite
@[simp] theorem n_w_isi {t : Ty} : (@rn _ (wp (.isi a t) ρ) M ⟨Q, E0⟩) = (@rn _ (wp a ρ) M ⟨(fun d M1 => (@rn _ (PM.opt (isiF t d)) M1 ⟨(fun b M2 => Q (.bl b) M2), E0⟩)), E0⟩) := w_isi
@[simp] theorem n_w_b1 {o : B1} : (@rn _ (wp (.b1 o a) ρ) M ⟨Q, E0⟩) = (@rn _ (wp a ρ) M ⟨(fun d M1 => (@rn _ (b1P o d) M1 ⟨Q, E0⟩)), E0⟩) := w_b1
@[simp] theorem n_w_b2 {o : B2} : (@rn _ (wp (.b2 o a b) ρ) M ⟨Q, E0⟩) = (@rn _ (wp a ρ) M ⟨(fun d M1 => (@rn _ (wp b ρ) M1 ⟨(fun e M2 => (@rn _ (b2P o d e) M2 ⟨Q, E0⟩)), E0⟩)), E0⟩) := w_b2
@[simp] theorem n_w_ix : (@rn _ (wp (.ix a b) ρ) M ⟨Q, E0⟩) = (@rn _ (wp a ρ) M ⟨(fun d M1 => (@rn _ (wp b ρ) M1 ⟨(fun e M2 => (@rn _ (ixP d e) M2 ⟨Q, E0⟩)), E0⟩)), E0⟩) := w_ix
@[simp] theorem n_w_cut00 : (@rn _ (wp (.cut false false a b c) ρ) M ⟨Q, E0⟩) = (@rn _ (wp a ρ) M ⟨(fun d M1 => (@rn _ (cutP none none d) M1 ⟨Q, E0⟩)), E0⟩) := w_cut00
@[simp] theorem n_w_cut10 : (@rn _ (wp (.cut true false a b c) ρ) M ⟨Q, E0⟩) = (@rn _ (wp a ρ) M ⟨(fun d M1 => (@rn _ (wp b ρ) M1 ⟨(fun i M2 => (@rn _ (intO i) M2 ⟨(fun u M3 => (@rn _ (cutP u none d) M3 ⟨Q, E0⟩)), E0⟩)), E0⟩)), E0⟩) := w_cut10
@[simp] theorem n_w_cut01 : (@rn _ (wp (.cut false true a b c) ρ) M ⟨Q, E0⟩) = (@rn _ (wp a ρ) M ⟨(fun d M1 => (@rn _ (wp c ρ) M1 ⟨(fun i M2 => (@rn _ (intO i) M2 ⟨(fun u M3 => (@rn _ (cutP none u d) M3 ⟨Q, E0⟩)), E0⟩)), E0⟩)), E0⟩) := w_cut01
@[simp] theorem n_w_cut11 : (@rn _ (wp (.cut true true a b c) ρ) M ⟨Q, E0⟩) = (@rn _ (wp a ρ) M ⟨(fun d M1 => (@rn _ (wp b ρ) M1 ⟨(fun i M2 => (@rn _ (intO i) M2 ⟨(fun u M3 => (@rn _ (wp c ρ) M3 ⟨(fun j M4 => (@rn _ (intO j) M4 ⟨(fun v M5 => (@rn _ (cutP u v d) M5 ⟨Q, E0⟩)), E0⟩)), E0⟩)), E0⟩)), E0⟩)), E0⟩) := w_cut11
@[simp] theorem n_intO_int {i : Int} {Q : Option Int → Mem → Prop} : (@rn _ (intO (.int i)) M ⟨Q, E0⟩) = Q (some i) M := intO_int
@[simp] theorem n_cut_lst {xs : List D} {u v : Option Int} : (@rn _ (cutP u v (.lst xs)) M ⟨Q, E0⟩) = Q (.lst (cutD xs u v)) M := cut_lst
@[simp] theorem n_cut_tup {xs : List D} {u v : Option Int} : (@rn _ (cutP u v (.tup xs)) M ⟨Q, E0⟩) = Q (.tup (cutD xs u v)) M := cut_tup
@[simp] theorem n_w_it1 {k : It1} : (@rn _ (wp (.it1 k a) ρ) M ⟨Q, E0⟩) = (@rn _ (wp a ρ) M ⟨(fun d M1 => (@rn _ (it1P k d) M1 ⟨Q, E0⟩)), E0⟩) := w_it1
@[simp] theorem n_w_it2 {k : It2} : (@rn _ (wp (.it2 k a b) ρ) M ⟨Q, E0⟩) = (@rn _ (wp a ρ) M ⟨(fun d M1 => (@rn _ (wp b ρ) M1 ⟨(fun e M2 => (@rn _ (it2P k d e) M2 ⟨Q, E0⟩)), E0⟩)), E0⟩) := w_it2
@[simp] theorem n_w_it3 : (@rn _ (wp (.it3 a b c) ρ) M ⟨Q, E0⟩) = (@rn _ (wp a ρ) M ⟨(fun d M1 => (@rn _ (wp b ρ) M1 ⟨(fun e M2 => (@rn _ (wp c ρ) M2 ⟨(fun g M3 => (@rn _ (it3P d e g) M3 ⟨Q, E0⟩)), E0⟩)), E0⟩)), E0⟩) := w_it3
@[simp] theorem n_w_sp1 {o : Sp1} : (@rn _ (wp (.sp1 o a) ρ) M ⟨Q, E0⟩) = (@rn _ (wp a ρ) M ⟨(fun d M1 => (@rn _ (sp1P o d) M1 ⟨Q, E0⟩)), E0⟩) := w_sp1
@[simp] theorem n_w_sp2 {o : Sp2} : (@rn _ (wp (.sp2 o a b) ρ) M ⟨Q, E0⟩) = (@rn _ (wp a ρ) M ⟨(fun d M1 => (@rn _ (sp2G o d) M1 ⟨(fun _ M2 => (@rn _ (wp b ρ) M2 ⟨(fun e M3 => (@rn _ (sp2P o d e) M3 ⟨Q, E0⟩)), E0⟩)), E0⟩)), E0⟩) := w_sp2
@[simp] theorem n_revL_run {xs : List D} : (@rn _ (sp1P .rev (.lst xs)) M ⟨Q, E0⟩) = Q (.lst xs.reverse) M := revL_run
@[simp] theorem n_revT_run {xs : List D} : (@rn _ (sp1P .rev (.tup xs)) M ⟨Q, E0⟩) = Q (.tup xs.reverse) M := revT_run
@[simp] theorem n_indexG_run {xs : List D} {Q : Unit → Mem → Prop} : (@rn _ (sp2G .index (.lst xs)) M ⟨Q, E0⟩) = Q () M := indexG_run
@[simp] theorem n_index_run {xs : List D} {d : D} : (@rn _ (sp2P .index (.lst xs) d) M ⟨Q, E0⟩) = ((flatD d = true ∧ xs.all flatD = true) ∧ (@rn _ (PM.opt (idxD d xs)) M ⟨(fun (j : Nat) M1 => Q (.int j) M1), E0⟩)) := index_run
@[simp] theorem n_lrange_run {j : Int} : (@rn _ (sp1P .lrange (.int j)) M ⟨Q, E0⟩) = ((0 ≤ j ∧ j ≤ 16777216) ∧ Q (.lst (rangeD 0 j.toNat)) M) := lrange_run
@[simp] theorem n_sortint_run {xs : List D} : (@rn _ (sp1P .sortint (.tup xs)) M ⟨Q, E0⟩) = (@rn _ (PM.opt (intsF xs)) M ⟨(fun ns M1 => ns.length ≤ 60 ∧ ∀ ms : List Int, ms.Pairwise (· < ·) → (∀ k : Int, k ∈ ms ↔ k ∈ ns) → Q (.lst (ms.map .int)) M1), E0⟩) := sortint_run
@[simp] theorem n_b1_strB {b : Bool} : (@rn _ (b1P .str (.bl b)) M ⟨Q, E0⟩) = Q (.str (if b = true then "True" else "False")) M := b1_strB
@[simp] theorem n_sortset_run {xs : List D} : (@rn _ (sp1P .sortset (.lst xs)) M ⟨Q, E0⟩) = (@rn _ (PM.opt (pairsF xs)) M ⟨(fun ps M1 => ((∀ p ∈ ps, 0 ≤ p.1 ∧ p.1 < 64 ∧ 0 ≤ p.2 ∧ p.2 < 64) ∧ (sortP ps).length < 63) ∧ Q (.lst ((sortP ps).map pairD)) M1), E0⟩) := sortset_run
@[simp] theorem n_minT_run {x : D} {xs : List D} : (@rn _ (sp1P .minT (.lst (x :: xs))) M ⟨Q, E0⟩) = (((∀ y ∈ x :: xs, shN 60 y) ∧ PySem.W.AlikeAll (toPys (x :: xs))) ∧ ∀ d, d ∈ x :: xs → toPy d = PySem.W.minD (toPy x) (toPys xs) → Q d M) := minT_run
@[simp] theorem n_joinG_run {x : Str} {Q : Unit → Mem → Prop} : (@rn _ (sp2G .join (.str x)) M ⟨Q, E0⟩) = Q () M := joinG_run
@[simp] theorem n_splitG_run {x : Str} {Q : Unit → Mem → Prop} : (@rn _ (sp2G .splitOn (.str x)) M ⟨Q, E0⟩) = Q () M := splitG_run
@[simp] theorem n_joinL_run {x : Str} {xs : List D} : (@rn _ (sp2P .join (.str x) (.lst xs)) M ⟨Q, E0⟩) = (@rn _ (PM.opt (strsF xs)) M ⟨(fun ys M1 => (ys.map (·.length)).sum + ys.length * x.length ≤ 16777216 ∧ Q (.str (Str.join x ys)) M1), E0⟩) := joinL_run
@[simp] theorem n_joinT_run {x : Str} {xs : List D} : (@rn _ (sp2P .join (.str x) (.tup xs)) M ⟨Q, E0⟩) = (@rn _ (PM.opt (strsF xs)) M ⟨(fun ys M1 => (ys.map (·.length)).sum + ys.length * x.length ≤ 16777216 ∧ Q (.str (Str.join x ys)) M1), E0⟩) := joinT_run
@[simp] theorem n_split_run {x y : Str} : (@rn _ (sp2P .splitOn (.str x) (.str y)) M ⟨Q, E0⟩) = (((y.length == 0) = false ∧ x.length + 2 ≤ sizeLine) ∧ Q (.lst ((Txt.split x y).map D.str)) M) := split_run
@[simp] theorem n_lens_run {d : D} : (@rn _ (sp1P .lens d) M ⟨Q, E0⟩) = (@rn _ (PM.opt (setKeys d)) M ⟨(fun ks M1 => Q (.int (distN ks : Nat)) M1), E0⟩) := lens_run
@[simp] theorem n_tr_bl {t : Bool} : (@rn _ (truP (.bl t)) M ⟨T, E0⟩) = T t M := tr_bl
@[simp] theorem n_tr_int {i : Int} : (@rn _ (truP (.int i)) M ⟨T, E0⟩) = T (i != 0) M := tr_int
@[simp] theorem n_tr_non : (@rn _ (truP .non) M ⟨T, E0⟩) = T false M := tr_non
@[simp] theorem n_tr_tup {xs : List D} : (@rn _ (truP (.tup xs)) M ⟨T, E0⟩) = T (!xs.isEmpty) M := tr_tup
@[simp] theorem n_tr_lst {xs : List D} : (@rn _ (truP (.lst xs)) M ⟨T, E0⟩) = T (!xs.isEmpty) M := tr_lst
@[simp] theorem n_tr_scr {xs : List Int} : (@rn _ (truP (.scr xs)) M ⟨T, E0⟩) = T (!xs.isEmpty) M := tr_scr
theorem n_tr_cell {p : Addr} {xs : List D} (h : M p = some (.lst xs)) : (@rn _ (truP (.cell p)) M ⟨T, E0⟩) = T (!xs.isEmpty) M := tr_cell h
@[simp] theorem n_bo_add : (@rn _ (boP .add (.int i) (.int j)) M ⟨Q, E0⟩) = Q (.int (i + j)) M := bo_add
@[simp] theorem n_bo_addL : (@rn _ (boP .add (.lst xs) (.lst ys)) M ⟨Q, E0⟩) = (xs.length + ys.length ≤ sizeLine ∧ Q (.lst (xs ++ ys)) M) := bo_addL
@[simp] theorem n_bo_addT : (@rn _ (boP .add (.tup xs) (.tup ys)) M ⟨Q, E0⟩) = (xs.length + ys.length ≤ sizeLine ∧ Q (.tup (xs ++ ys)) M) := bo_addT
@[simp] theorem n_bo_mulT {xs : List D} {k : Int} : (@rn _ (boP .mul (.tup xs) (.int k)) M ⟨Q, E0⟩) = ((2 ≤ k ∧ k ≤ 1000 ∧ xs.length ≤ 1000) ∧ Q (.tup (List.replicate k.toNat xs).flatten) M) := bo_mulT
@[simp] theorem n_bo_addB {b : Bool} : (@rn _ (boP .add (.bl b) (.int j)) M ⟨Q, E0⟩) = Q (.int ((if b = true then 1 else 0) + j)) M := bo_addB
@[simp] theorem n_bo_subB {b : Bool} : (@rn _ (boP .sub (.bl b) (.int j)) M ⟨Q, E0⟩) = Q (.int ((if b = true then 1 else 0) - j)) M := bo_subB
@[simp] theorem n_bo_addS : (@rn _ (boP .add (.str x) (.str y)) M ⟨Q, E0⟩) = (x.length + y.length ≤ sizeLine ∧ Q (.str (x ++ y)) M) := bo_addS
@[simp] theorem n_bo_sub : (@rn _ (boP .sub (.int i) (.int j)) M ⟨Q, E0⟩) = Q (.int (i - j)) M := bo_sub
@[simp] theorem n_bo_mul : (@rn _ (boP .mul (.int i) (.int j)) M ⟨Q, E0⟩) = (CMul i j ∧ Q (.int (i * j)) M) := bo_mul
@[simp] theorem n_bo_mulL : (@rn _ (boP .mul (.lst xs) (.int j)) M ⟨Q, E0⟩) = ((0 ≤ j ∧ j < 2 ^ 63 ∧ xs.length * j.toNat ≤ sizeLine) ∧ Q (.lst (List.replicate j.toNat xs).flatten) M) := bo_mulL
@[simp] theorem n_bo_fdiv : (@rn _ (boP .fdiv (.int i) (.int j)) M ⟨Q, E0⟩) = (CDiv i j ∧ Q (.int (i / j)) M) := bo_fdiv
@[simp] theorem n_bo_mod : (@rn _ (boP .mod (.int i) (.int j)) M ⟨Q, E0⟩) = (0 < j ∧ Q (.int (i % j)) M) := bo_mod
@[simp] theorem n_co_eq : (@rn _ (coP .eq d e) M ⟨Q, E0⟩) = (eqOk d e ∧ Q (.bl (pyEq d e)) M) := co_eq
@[simp] theorem n_co_ne : (@rn _ (coP .ne d e) M ⟨Q, E0⟩) = (eqOk d e ∧ Q (.bl (!pyEq d e)) M) := co_ne
@[simp] theorem n_co_lt : (@rn _ (coP .lt (.int i) (.int j)) M ⟨Q, E0⟩) = Q (.bl (decide (i < j))) M := co_lt
@[simp] theorem n_co_le : (@rn _ (coP .le (.int i) (.int j)) M ⟨Q, E0⟩) = Q (.bl (decide (i ≤ j))) M := co_le
@[simp] theorem n_co_gt : (@rn _ (coP .gt (.int i) (.int j)) M ⟨Q, E0⟩) = Q (.bl (decide (j < i))) M := co_gt
@[simp] theorem n_co_ge : (@rn _ (coP .ge (.int i) (.int j)) M ⟨Q, E0⟩) = Q (.bl (decide (j ≤ i))) M := co_ge
@[simp] theorem n_co_inT : (@rn _ (coP .isin d (.tup xs)) M ⟨Q, E0⟩) = (inOk d xs ∧ Q (.bl (inD d xs)) M) := co_inT
@[simp] theorem n_co_inL : (@rn _ (coP .isin d (.lst xs)) M ⟨Q, E0⟩) = (inOk d xs ∧ Q (.bl (inD d xs)) M) := co_inL
@[simp] theorem n_co_niT : (@rn _ (coP .notin d (.tup xs)) M ⟨Q, E0⟩) = (inOk d xs ∧ Q (.bl (!inD d xs)) M) := co_niT
@[simp] theorem n_co_niL : (@rn _ (coP .notin d (.lst xs)) M ⟨Q, E0⟩) = (inOk d xs ∧ Q (.bl (!inD d xs)) M) := co_niL
@[simp] theorem n_b1_lenL : (@rn _ (b1P .len (.lst xs)) M ⟨Q, E0⟩) = Q (.int xs.length) M := b1_lenL
@[simp] theorem n_b1_lenT : (@rn _ (b1P .len (.tup xs)) M ⟨Q, E0⟩) = Q (.int xs.length) M := b1_lenT
@[simp] theorem n_b1_lenR {ns : List Int} : (@rn _ (b1P .len (.scr ns)) M ⟨Q, E0⟩) = Q (.int ns.length) M := b1_lenR
theorem n_b1_lenC {p : Addr} (h : M p = some (.lst xs)) : (@rn _ (b1P .len (.cell p)) M ⟨Q, E0⟩) = Q (.int xs.length) M := b1_lenC h
@[simp] theorem n_b1_abs : (@rn _ (b1P .abs (.int i)) M ⟨Q, E0⟩) = Q (.int (if i < 0 then -i else i)) M := b1_abs
@[simp] theorem n_b1_max : (@rn _ (b1P .max (.lst xs)) M ⟨Q, E0⟩) = (@rn _ (PM.opt (intsF xs)) M ⟨(fun ns M1 => ns ≠ [] ∧ Q (.int (maxL ns)) M1), E0⟩) := b1_max
@[simp] theorem n_b1_min : (@rn _ (b1P .min (.lst xs)) M ⟨Q, E0⟩) = (@rn _ (PM.opt (intsF xs)) M ⟨(fun ns M1 => ns ≠ [] ∧ Q (.int (minL ns)) M1), E0⟩) := b1_min
@[simp] theorem n_b1_all : (@rn _ (b1P .all (.lst xs)) M ⟨Q, E0⟩) = (@rn _ (PM.opt (blsF xs)) M ⟨(fun bs M1 => Q (.bl (bs.all id)) M1), E0⟩) := b1_all
@[simp] theorem n_b1_any : (@rn _ (b1P .any (.lst xs)) M ⟨Q, E0⟩) = (@rn _ (PM.opt (blsF xs)) M ⟨(fun bs M1 => Q (.bl (bs.any id)) M1), E0⟩) := b1_any
@[simp] theorem n_b1_sum : (@rn _ (b1P .sum (.lst xs)) M ⟨Q, E0⟩) = (@rn _ (PM.opt (intsF xs)) M ⟨(fun bs M1 => Q (.int bs.sum) M1), E0⟩) := b1_sum
@[simp] theorem n_b1_sorted : (@rn _ (b1P .sorted (.lst xs)) M ⟨Q, E0⟩) = (@rn _ (PM.opt (intsF xs)) M ⟨(fun bs M1 => Q (.lst ((sortI bs).map .int)) M1), E0⟩) := b1_sorted
@[simp] theorem n_b1_listL : (@rn _ (b1P .list (.lst xs)) M ⟨Q, E0⟩) = Q (.lst xs) M := b1_listL
@[simp] theorem n_b1_listT : (@rn _ (b1P .list (.tup xs)) M ⟨Q, E0⟩) = Q (.lst xs) M := b1_listT
@[simp] theorem n_b1_tupL : (@rn _ (b1P .tuple (.lst xs)) M ⟨Q, E0⟩) = Q (.tup xs) M := b1_tupL
@[simp] theorem n_b1_tupT : (@rn _ (b1P .tuple (.tup xs)) M ⟨Q, E0⟩) = Q (.tup xs) M := b1_tupT
@[simp] theorem n_b1_intB {t : Bool} : (@rn _ (b1P .int (.bl t)) M ⟨Q, E0⟩) = Q (.int (if t = true then 1 else 0)) M := b1_intB
@[simp] theorem n_b1_intI : (@rn _ (b1P .int (.int i)) M ⟨Q, E0⟩) = Q (.int i) M := b1_intI
@[simp] theorem n_b2_max : (@rn _ (b2P .max (.int i) (.int j)) M ⟨Q, E0⟩) = Q (.int (if j > i then j else i)) M := b2_max
@[simp] theorem n_b2_min : (@rn _ (b2P .min (.int i) (.int j)) M ⟨Q, E0⟩) = Q (.int (if j < i then j else i)) M := b2_min
@[simp] theorem n_ix_lst : (@rn _ (ixP (.lst xs) (.int i)) M ⟨Q, E0⟩) = (@rn _ (PM.opt (atI xs i)) M ⟨Q, E0⟩) := ix_lst
@[simp] theorem n_ix_tup : (@rn _ (ixP (.tup xs) (.int i)) M ⟨Q, E0⟩) = (@rn _ (PM.opt (atI xs i)) M ⟨Q, E0⟩) := ix_tup
@[simp] theorem n_ix_scr {ns : List Int} : (@rn _ (ixP (.scr ns) (.int i)) M ⟨Q, E0⟩) = (@rn _ (PM.opt (atI (ns.map D.int) i)) M ⟨Q, E0⟩) := ix_scr
theorem n_ix_cell {p : Addr} (h : M p = some (.lst xs)) : (@rn _ (ixP (.cell p) (.int i)) M ⟨Q, E0⟩) = (@rn _ (PM.opt (atI xs i)) M ⟨Q, E0⟩) := ix_cell h
@[simp] theorem n_it_seqL : (@rn _ (it1P .seq (.lst xs)) M ⟨Q, E0⟩) = Q (.tup xs) M := it_seqL
@[simp] theorem n_it_seqT : (@rn _ (it1P .seq (.tup xs)) M ⟨Q, E0⟩) = Q (.tup xs) M := it_seqT
@[simp] theorem n_it_seqR {ns : List Int} : (@rn _ (it1P .seq (.scr ns)) M ⟨Q, E0⟩) = Q (.tup (ns.map .int)) M := it_seqR
@[simp] theorem n_it_range : (@rn _ (it1P .range (.int j)) M ⟨Q, E0⟩) = ((-16777216 ≤ j ∧ j ≤ 16777216) ∧ Q (.tup (rangeD 0 j.toNat)) M) := it_range
@[simp] theorem n_it_range2 : (@rn _ (it2P .range (.int i) (.int j)) M ⟨Q, E0⟩) = ((-16777216 ≤ i ∧ i ≤ 16777216 ∧ -16777216 ≤ j ∧ j - i ≤ 16777216) ∧ Q (.tup (rangeD i (j - i).toNat)) M) := it_range2
@[simp] theorem n_it_enumL : (@rn _ (it1P .enum (.lst xs)) M ⟨Q, E0⟩) = Q (.tup (enumD 0 xs)) M := it_enumL
@[simp] theorem n_it_enumT : (@rn _ (it1P .enum (.tup xs)) M ⟨Q, E0⟩) = Q (.tup (enumD 0 xs)) M := it_enumT
@[simp] theorem n_it_zipLL : (@rn _ (it2P .zip (.lst xs) (.lst ys)) M ⟨Q, E0⟩) = Q (.tup (zipD xs ys)) M := it_zipLL
@[simp] theorem n_it_zipTT : (@rn _ (it2P .zip (.tup xs) (.tup ys)) M ⟨Q, E0⟩) = Q (.tup (zipD xs ys)) M := it_zipTT
@[simp] theorem n_it_zipTL : (@rn _ (it2P .zip (.tup xs) (.lst ys)) M ⟨Q, E0⟩) = Q (.tup (zipD xs ys)) M := it_zipTL
@[simp] theorem n_it_zipLT : (@rn _ (it2P .zip (.lst xs) (.tup ys)) M ⟨Q, E0⟩) = Q (.tup (zipD xs ys)) M := it_zipLT
end
section
variable {M : Mem} {Q : D → Mem → Prop} {E0 : EK} {ρ : Slots} {a b c : E} {P : Post} {s t : S} {i : Nat}
@[simp] theorem n_v_nop : (@sn (wpS .nop) (ρ) M ⟨P⟩) = P.nx ρ M := v_nop
@[simp] theorem n_v_seq : (@sn (wpS (.seq s t)) (ρ) M ⟨P⟩) = (@sn (wpS s) (ρ) M ⟨{ P with nx := fun ρ' M' => (@sn (wpS t) (ρ') M' ⟨P⟩) }⟩) := v_seq
@[simp] theorem n_v_set : (@sn (wpS (.set i a)) (ρ) M ⟨P⟩) = (@rn _ (wp a ρ) M ⟨(fun d M' => P.nx (ρ.set i (.val d)) M'), P.ex⟩) := v_set
@[simp] theorem n_v_ret : (@sn (wpS (.ret a)) (ρ) M ⟨P⟩) = (@rn _ (wp a ρ) M ⟨P.rt, P.ex⟩) := v_ret
@[simp] theorem n_v_ex : (@sn (wpS (.ex a)) (ρ) M ⟨P⟩) = (@rn _ (wp a ρ) M ⟨(fun _ M' => P.nx ρ M'), P.ex⟩) := v_ex
@[simp] theorem n_v_never : (@sn (wpS .never) (ρ) M ⟨P⟩) = False := v_never
@[simp] theorem n_v_rse {k : Nat} : (@sn (wpS (.rse k)) (ρ) M ⟨P⟩) = P.ex k M := v_rse
@[simp] theorem n_v_tryret {hs : List (Nat × Str)} : (@sn (wpS (.tryret a hs)) (ρ) M ⟨P⟩) = (@rn _ (wp a ρ) M ⟨P.rt, (SM.exTo hs P)⟩) := v_tryret
@[simp] theorem n_v_tryn : (@sn (wpS (.tryn s)) (ρ) M ⟨P⟩) = (@sn (wpS s) (ρ) M ⟨{ P with ex := fun _ _ => False }⟩) := v_tryn
@[simp] theorem n_v_iff : (@sn (wpS (.iff a s t)) (ρ) M ⟨P⟩) = (@rn _ (wp a ρ) M ⟨(fun d M1 => (@rn _ (truP d) M1 ⟨(fun b M2 => if b = true then (@sn (wpS s) (ρ) M2 ⟨P⟩) else (@sn (wpS t) (ρ) M2 ⟨P⟩)), P.ex⟩)), P.ex⟩) := v_iff
@[simp] theorem n_v_frz : (@sn (wpS (.frz i)) (ρ) M ⟨P⟩) = @oR ρ[i]? ⟨fun xs => P.nx (ρ.set i (.val (.lst xs))) M⟩ := v_frz
@[simp] theorem n_v_app : (@sn (wpS (.app i a)) (ρ) M ⟨P⟩) = @oR ρ[i]? ⟨fun xs => (@rn _ (wp a ρ) M ⟨(fun d M' => xs.length < sizeLine ∧ P.nx (ρ.set i (.own (xs ++ [d]))) M'), P.ex⟩)⟩ := v_app
@[simp] theorem n_v_new : (@sn (wpS (.new i a)) (ρ) M ⟨P⟩) = (@rn _ (wp a ρ) M ⟨(fun d M' => @lR d ⟨fun xs => P.nx (ρ.set i (.own xs)) M'⟩), P.ex⟩) := v_new
@[simp] theorem n_v_ext : (@sn (wpS (.ext i a)) (ρ) M ⟨P⟩) = @oR ρ[i]? ⟨fun xs => (@rn _ (wp a ρ) M ⟨(fun d M' => @lR d ⟨fun ys => xs.length + ys.length ≤ sizeLine ∧ P.nx (ρ.set i (.own (xs ++ ys))) M'⟩), P.ex⟩)⟩ := v_ext
@[simp] theorem n_v_par {is : List (Nat × Bool)} : (@sn (wpS (.par is a)) (ρ) M ⟨P⟩) = @aR a ρ M ⟨(fun ds M' => ds.length = is.length ∧ P.nx (setM ρ is ds) M'), P.ex⟩ := v_par
@[simp] theorem n_v_unp {is : List Nat} : (@sn (wpS (.unp is a)) (ρ) M ⟨P⟩) = (@rn _ (wp a ρ) M ⟨(fun d M' => (@rn _ (tgP (.many is) d ρ) M' ⟨P.nx, P.ex⟩)), P.ex⟩) := v_unp
@[simp] theorem n_tg_one {d : D} {k : Slots → Mem → Prop} : (@rn _ (tgP (.one i) d ρ) M ⟨k, E0⟩) = k (ρ.set i (.val d)) M := tg_one
@[simp] theorem n_tg_tup {is : List Nat} {ds : List D} {k : Slots → Mem → Prop} : (@rn _ (tgP (.many is) (.tup ds) ρ) M ⟨k, E0⟩) = (ds.length = is.length ∧ k (setAll ρ is ds) M) := tg_tup
@[simp] theorem n_tg_lst {is : List Nat} {ds : List D} {k : Slots → Mem → Prop} : (@rn _ (tgP (.many is) (.lst ds) ρ) M ⟨k, E0⟩) = (ds.length = is.length ∧ k (setAll ρ is ds) M) := tg_lst
@[simp] theorem n_v_aug : (@sn (wpS (.aug i a)) (ρ) M ⟨P⟩) = @iR ρ[i]? ⟨fun x => (@rn _ (wp a ρ) M ⟨(fun d M' => @iD d ⟨fun y => P.nx (ρ.set i (.val (.int (x + y)))) M'⟩), P.ex⟩)⟩ := v_aug
@[simp] theorem n_v_newcell : (@sn (wpS (.newcell i)) (ρ) M ⟨P⟩) = ∀ p, M p = none → P.nx (ρ.set i (.val (.cell p))) (M.put p (.lst [])) := v_newcell
theorem n_v_appc {p : Addr} {zs : List D} (h1 : ρ[i]? = some (.val (.cell p))) (h2 : M p = some (.lst zs)) : (@sn (wpS (.appc i a)) (ρ) M ⟨P⟩) = (@rn _ (wp a ρ) M ⟨(fun d M' => ∃ xs, M' p = some (.lst xs) ∧ xs.length < sizeLine ∧ P.nx ρ (M'.put p (.lst (xs ++ [d])))), P.ex⟩) := v_appc h1 h2
theorem n_v_putc {k : E} {p : Addr} (h1 : ρ[i]? = some (.val (.cell p))) : (@sn (wpS (.putc i k a)) (ρ) M ⟨P⟩) = (@rn _ (wp a ρ) M ⟨(fun d M' => (@rn _ (wp k ρ) M' ⟨(fun j M2 => ∃ xs z n, M2 p = some (.lst xs) ∧ j = .int z ∧ ixN xs.length z = some n ∧ P.nx ρ (M2.put p (.lst (xs.set n d)))), P.ex⟩)), P.ex⟩) := v_putc h1
@[simp] theorem n_tup_run {xs : List D} {Q : List D → Mem → Prop} : (@rn _ (tupP (.tup xs)) M ⟨Q, E0⟩) = Q xs M := tup_run
end
end PL
set_option Elab.async false
set_option linter.all false
set_option maxRecDepth 100000
namespace PL
open PySem L2 PyProof.Rows PySem.Spec

/-! ## run rules of the words about an own object -/
section
variable {M : Mem} {Q : D → Mem → Prop} {E0 : EK} {ρ : Slots} {a b c : E} {P : Post} {T : Bool → Mem → Prop} {d e : D} {p q : Addr} {f m : Str} {F : FS}
@[simp] theorem n_o_attr : @rn _ (wp (.ob (.attr f) a .nil) ρ) M ⟨Q, E0⟩ = @rn _ (wp a ρ) M ⟨fun d M1 => @rn _ (.opt (insAt M1 d)) M1 ⟨fun fs M2 => @rn _ (.opt (fs.lookup f)) M2 ⟨Q, E0⟩, E0⟩, E0⟩ := propext ⟨fun h => h, fun h => h⟩
theorem obL_meth {d : D} : obL (.meth m F) d = tupP d := rfl
@[simp] theorem n_o_meth : @rn _ (wp (.ob (.meth m F) a b) ρ) M ⟨Q, E0⟩ = @rn _ (wp a ρ) M ⟨fun d M1 => @rn _ (.opt (insAt M1 d)) M1 ⟨fun fs M2 => fs.lookup m = none ∧ @aR b ρ M2 ⟨fun ds M3 => @rn _ (PM.call F (d :: ds)) M3 ⟨Q, E0⟩, E0⟩, E0⟩, E0⟩ := by
  show (wp a ρ).run M (fun d M1 => (PM.opt (insAt M1 d)).run M1 (fun fs M2 => fs.lookup m = none ∧ (wp b ρ).run M2 (fun t M3 => (tupP t).run M3 (fun ds M4 => (PM.call F (d :: ds)).run M4 Q E0) E0) E0) E0) E0 = _
  simp only [arg_run]
  rfl
@[simp] theorem n_o_make : @rn _ (wp (.ob (.make f F) .nil b) ρ) M ⟨Q, E0⟩ = @aR b ρ M ⟨fun ds M3 => @rn _ (PM.make F ds) M3 ⟨Q, E0⟩, E0⟩ := by
  show (wp b ρ).run M (fun t M3 => (tupP t).run M3 (fun ds M4 => (PM.make F ds).run M4 Q E0) E0) E0 = _
  rw [arg_run]
  rfl
theorem n_make {ds : List D} : @rn _ (PM.make F ds) M ⟨Q, E0⟩ = ∀ a, M a = none → @rn _ (PM.call F (.cell a :: ds)) (M.put a (.ins [])) ⟨fun d M' => d = .non ∧ Q (.cell a) M', E0⟩ := propext ⟨fun h => h, fun h => h⟩
@[simp] theorem n_o_newl : @rn _ (wp (.ob .newl a .nil) ρ) M ⟨Q, E0⟩ = @rn _ (wp a ρ) M ⟨fun d M1 => @lR d ⟨fun xs => ∀ p, M1 p = none → Q (.cell p) (M1.put p (.lst xs))⟩, E0⟩ := by
  show (wp a ρ).run M (fun d M1 => (obP .newl d []).run M1 Q E0) E0 = (wp a ρ).run M (fun d M1 => lstR d fun xs => ∀ p, M1 p = none → Q (.cell p) (M1.put p (.lst xs))) E0
  congr 1; funext d M1
  cases d <;> rfl
/-- a call of a def that must not raise -/
@[simp] theorem n_o_len : @rn _ (wp (.ob (.lenO F) a .nil) ρ) M ⟨Q, E0⟩ = @rn _ (wp a ρ) M ⟨fun d M1 => @rn _ (.opt (insAt M1 d)) M1 ⟨fun _ M2 => @rn _ (PM.call F [d]) M2 ⟨fun r M3 => @iD r ⟨fun n => (0 ≤ n ∧ n < 2 ^ 63) ∧ Q (.int n) M3⟩, fun _ _ => False⟩, E0⟩, E0⟩ := by
  show (wp a ρ).run M (fun d M1 => (obP (.lenO F) d []).run M1 Q E0) E0 = (wp a ρ).run M (fun d M1 => (PM.opt (insAt M1 d)).run M1 (fun _ M2 => (PM.call F [d]).run M2 (fun r M3 => intD r fun n => (0 ≤ n ∧ n < 2 ^ 63) ∧ Q (.int n) M3) fun _ _ => False) E0) E0
  congr 1; funext d M1
  show (PM.opt (insAt M1 d)).run M1 (fun _ M2 => (PM.call F [d]).run M2 (fun r M3 => PM.run (match r with | .int n => PM.bind (.need (0 ≤ n ∧ n < 2 ^ 63)) fun _ => .pure (.int n) | _ => .fail : PM D) M3 Q E0) fun _ _ => False) E0 = _
  congr 1; funext _ M2; congr 1; funext r M3
  cases r <;> rfl
def blD : D → (Bool → Prop) → Prop | .bl x, k => k x | _, _ => False
@[simp] theorem blD_bl {x : Bool} {k : Bool → Prop} : blD (.bl x) k = k x := rfl
@[simp] theorem n_o_eq {neg : Bool} : @rn _ (wp (.ob (.eqO neg F) a b) ρ) M ⟨Q, E0⟩ = @rn _ (wp a ρ) M ⟨fun d M1 => @rn _ (wp b ρ) M1 ⟨fun e M2 => @rn _ (.opt (insAt M2 d)) M2 ⟨fun _ M3 => ((insAt M3 e).isSome = true ∨ ∃ xs, e = .tup xs) ∧ @rn _ (PM.call F [d, e]) M3 ⟨fun r M4 => blD r fun x => Q (.bl (x != neg)) M4, fun _ _ => False⟩, E0⟩, E0⟩, E0⟩ := by
  show (wp a ρ).run M (fun d M1 => (wp b ρ).run M1 (fun e M2 => (obP (.eqO neg F) d [e]).run M2 Q E0) E0) E0 = (wp a ρ).run M (fun d M1 => (wp b ρ).run M1 (fun e M2 => (PM.opt (insAt M2 d)).run M2 (fun _ M3 => ((insAt M3 e).isSome = true ∨ ∃ xs, e = .tup xs) ∧ (PM.call F [d, e]).run M3 (fun r M4 => blD r fun x => Q (.bl (x != neg)) M4) fun _ _ => False) E0) E0) E0
  congr 1; funext d M1; congr 1; funext e M2
  show (PM.opt (insAt M2 d)).run M2 (fun _ M3 => ((insAt M2 e).isSome = true ∨ ∃ xs, e = .tup xs) ∧ (PM.call F [d, e]).run M3 (fun r M4 => PM.run (match r with | .bl x => PM.pure (.bl (x != neg)) | _ => .fail : PM D) M4 Q E0) fun _ _ => False) E0 = _
  cases insAt M2 d with
  | none => rfl
  | some fs =>
    show (_ ∧ (PM.call F [d, e]).run M2 _ _) = (_ ∧ (PM.call F [d, e]).run M2 _ _)
    congr 2; funext r M4
    cases r <;> rfl
@[simp] theorem n_o_iskT {xs : List D} : @rn _ (obP (.isk f) (.tup xs) []) M ⟨Q, E0⟩ = Q (.bl false) M := propext ⟨fun h => h, fun h => h⟩
theorem n_o_iskC : @rn _ (obP (.isk f) (.cell p) []) M ⟨Q, E0⟩ = @rn _ (.opt (insAt M (.cell p))) M ⟨fun _ M1 => Q (.bl true) M1, E0⟩ := propext ⟨fun h => h, fun h => h⟩
@[simp] theorem n_o_isk : @rn _ (wp (.ob (.isk f) a .nil) ρ) M ⟨Q, E0⟩ = @rn _ (wp a ρ) M ⟨fun d M1 => @rn _ (obP (.isk f) d []) M1 ⟨Q, E0⟩, E0⟩ := propext ⟨fun h => h, fun h => h⟩
@[simp] theorem n_pop : @rn _ (sp1P .pop (.cell p)) M ⟨Q, E0⟩ = @rn _ (.opt (listAt M p)) M ⟨fun xs M1 => @rn _ (.opt xs.getLast?) M1 ⟨fun d M2 => Q d (M2.put p (.lst xs.dropLast)), E0⟩, E0⟩ := propext ⟨fun h => h, fun h => h⟩
@[simp] theorem n_listC : @rn _ (b1P .list (.cell p)) M ⟨Q, E0⟩ = @rn _ (.opt (listAt M p)) M ⟨fun xs M1 => Q (.lst xs) M1, E0⟩ := by
  show PM.run (match M p with | some (.lst xs) => PM.pure (.lst xs) | _ => .fail) M Q E0 = PM.run (.opt (listAt M p)) M (fun xs M1 => Q (.lst xs) M1) E0
  unfold listAt
  cases M p with
  | none => rfl
  | some c => cases c <;> rfl
theorem n_truC {xs : List D} (h : listAt M p = some xs) : @rn _ (truP (.cell p)) M ⟨T, E0⟩ = T (!xs.isEmpty) M := by
  refine tr_cell ?_
  unfold listAt at h
  split at h
  · cases h; assumption
  · cases h
def celR (o : Option Sl) (k : Addr → Prop) : Prop := match o with | some (.val (.cell a)) => k a | _ => False
@[simp] theorem celR_c {k : Addr → Prop} : celR (some (.val (.cell p))) k = k p := rfl
@[simp] theorem n_v_fset {i : Nat} : @sn (wpS (.fset i f a)) ρ M ⟨P⟩ = @rn _ (wp a ρ) M ⟨fun d M' => celR ρ[i]? fun p => @rn _ (.opt (insAt M' (.cell p))) M' ⟨fun fs M2 => fs.length < 1000 ∧ P.nx ρ (M2.put p (.ins (putD f d fs))), P.ex⟩, P.ex⟩ := by
  show (wp a ρ).run M (fun d M' => ∃ a fs, ρ[i]? = some (.val (.cell a)) ∧ M' a = some (.ins fs) ∧ fs.length < 1000 ∧ P.nx ρ (M'.put a (.ins (putD f d fs)))) P.ex = (wp a ρ).run M (fun d M' => celR ρ[i]? fun p => (PM.opt (insAt M' (.cell p))).run M' (fun fs M2 => fs.length < 1000 ∧ P.nx ρ (M2.put p (.ins (putD f d fs)))) P.ex) P.ex
  congr 1; funext d M'
  cases h : ρ[i]? with
  | none => simp [celR]
  | some s =>
    cases s with
    | unk => simp [celR]
    | own xs => simp [celR]
    | val d' =>
      cases d' <;> simp [celR, insAt]
      rename_i q
      cases M' q with
      | none => simp
      | some c => cases c <;> simp
def celD (d : D) (k : Addr → Prop) : Prop := match d with | .cell a => k a | _ => False
@[simp] theorem celD_c {k : Addr → Prop} : celD (.cell p) k = k p := rfl
@[simp] theorem n_v_appe : @sn (wpS (.appe a b)) ρ M ⟨P⟩ = @rn _ (wp a ρ) M ⟨fun d M1 => celD d fun p => (listAt M1 p).isSome = true ∧ @rn _ (wp b ρ) M1 ⟨fun d2 M2 => @rn _ (.opt (listAt M2 p)) M2 ⟨fun xs M3 => xs.length < sizeLine ∧ P.nx ρ (M3.put p (.lst (xs ++ [d2]))), P.ex⟩, P.ex⟩, P.ex⟩ := by
  show (wp a ρ).run M (fun d M1 => ∃ p zs, d = .cell p ∧ M1 p = some (.lst zs) ∧ (wp b ρ).run M1 (fun d2 M2 => ∃ xs, M2 p = some (.lst xs) ∧ xs.length < sizeLine ∧ P.nx ρ (M2.put p (.lst (xs ++ [d2])))) P.ex) P.ex
    = (wp a ρ).run M (fun d M1 => celD d fun p => (listAt M1 p).isSome = true ∧ (wp b ρ).run M1 (fun d2 M2 => (PM.opt (listAt M2 p)).run M2 (fun xs M3 => xs.length < sizeLine ∧ P.nx ρ (M3.put p (.lst (xs ++ [d2])))) P.ex) P.ex) P.ex
  have inner : ∀ (p : Addr) (d2 : D) (M2 : Mem), (∃ xs, M2 p = some (.lst xs) ∧ xs.length < sizeLine ∧ P.nx ρ (M2.put p (.lst (xs ++ [d2])))) = (PM.opt (listAt M2 p)).run M2 (fun xs M3 => xs.length < sizeLine ∧ P.nx ρ (M3.put p (.lst (xs ++ [d2])))) P.ex := fun p d2 M2 => by
    unfold listAt
    cases M2 p with
    | none => simp
    | some c => cases c <;> simp
  simp only [inner]
  congr 1; funext d M1
  cases d <;> simp [celD]
  rename_i q
  unfold listAt
  cases M1 q with
  | none => simp
  | some c => cases c <;> simp
/-! memory -/
@[simp] theorem ins_put {fs : List (Str × D)} : insAt (M.put p (.ins fs)) (.cell p) = some fs := by simp [insAt, Mem.put_same]
theorem ins_putN {c : Cell} (n : q ≠ p) : insAt (M.put p c) (.cell q) = insAt M (.cell q) := by simp [insAt, Mem.put_ne M c n]
@[simp] theorem list_put {xs : List D} : listAt (M.put p (.lst xs)) p = some xs := by simp [listAt, Mem.put_same]
theorem list_putN {c : Cell} (n : q ≠ p) : listAt (M.put p c) q = listAt M q := by simp [listAt, Mem.put_ne M c n]
@[simp] theorem n_o_dlit {ks : List (Str × Int × Int)} : @rn _ (wp (.ob (.dlit ks) .nil .nil) ρ) M ⟨Q, E0⟩ = ∀ p, M p = none → Q (.cell p) (M.put p (.dct ks)) := propext ⟨fun h => h, fun h => h⟩
@[simp] theorem n_o_dget : @rn _ (wp (.ob .dget a b) ρ) M ⟨Q, E0⟩ = @rn _ (wp a ρ) M ⟨fun d M1 => @rn _ (wp b ρ) M1 ⟨fun e M2 => @rn _ (obP .dget d [e]) M2 ⟨Q, E0⟩, E0⟩, E0⟩ := propext ⟨fun h => h, fun h => h⟩
@[simp] theorem n_o_dnin : @rn _ (wp (.ob .dnin a b) ρ) M ⟨Q, E0⟩ = @rn _ (wp a ρ) M ⟨fun d M1 => @rn _ (wp b ρ) M1 ⟨fun e M2 => @rn _ (obP .dnin d [e]) M2 ⟨Q, E0⟩, E0⟩, E0⟩ := propext ⟨fun h => h, fun h => h⟩
theorem dct_of {ks : List (Str × Int × Int)} (h : M p = some (.dct ks)) : dctAt M (.cell p) = some ks := by simp [dctAt, h]
theorem n_dget {ks : List (Str × Int × Int)} {x : Str} {u w : Int} (h : M p = some (.dct ks)) (e : ks.lookup x = some (u, w)) : @rn _ (obP .dget (.cell p) [.str x]) M ⟨Q, E0⟩ = Q (.tup [.int u, .int w]) M := by
  show (PM.opt (dctAt M (.cell p))).run M (fun ks M1 => (PM.opt (ks.lookup x)).run M1 (fun uv M2 => Q (.tup [.int uv.1, .int uv.2]) M2) E0) E0 = _
  rw [dct_of h]
  show (PM.opt (ks.lookup x)).run M (fun uv M2 => Q (.tup [.int uv.1, .int uv.2]) M2) E0 = _
  rw [e]
  rfl
theorem n_dnin {ks : List (Str × Int × Int)} {x : Str} (h : M p = some (.dct ks)) : @rn _ (obP .dnin (.str x) [.cell p]) M ⟨Q, E0⟩ = Q (.bl (ks.lookup x).isNone) M := by
  show (PM.opt (dctAt M (.cell p))).run M (fun ks M1 => Q (.bl (ks.lookup x).isNone) M1) E0 = _
  rw [dct_of h]
  rfl
theorem ins_of {fs : List (Str × D)} (h : M p = some (.ins fs)) : insAt M (.cell p) = some fs := by simp [insAt, h]
theorem list_of {xs : List D} (h : M p = some (.lst xs)) : listAt M p = some xs := by simp [listAt, h]
end
end PL
set_option Elab.async false
set_option linter.all false
set_option maxRecDepth 100000
namespace PL
open PySem L2 PyProof.Rows PySem.Spec

/-! ## the program's data, in plain Lean -/
structure Sgn where
  rank : Int
  start : Int
  stop : Int
  days : List Int
  first : Int
  last : Int
  word : Str
  value : Int
  deriving DecidableEq
def Sgn.d (s : Sgn) : D := .tup [.int s.rank, .int s.start, .int s.stop, .tup (s.days.map .int), .int s.first, .int s.last, .str s.word, .int s.value]
structure Strt where
  places : Int
  sgns : List Sgn
def Strt.d (t : Strt) : D := .tup [.int t.places, .tup (t.sgns.map Sgn.d)]
def plain0 : D → Bool | .cell _ => false | .scr _ => false | _ => true
mutual
/-- no cell anywhere -/
def plainD : D → Bool
  | .cell _ => false | .scr _ => false | .tup ds => plainL ds | .lst ds => plainL ds
  | .non => true | .bl _ => true | .int _ => true | .str _ => true
def plainL : List D → Bool | [] => true | d :: r => plainD d && plainL r
end
theorem plain_0 {d : D} (h : plainD d = true) : plain0 d = true := by cases d <;> simp [plainD] at h <;> rfl
theorem plainL_mem : ∀ {l : List D}, plainL l = true → ∀ d ∈ l, plainD d = true
  | [], _, _, h => nomatch h
  | _ :: _, h, d, hd => by
    simp only [plainL, Bool.and_eq_true] at h
    cases hd with
    | head => exact h.1
    | tail _ hd => exact plainL_mem h.2 d hd
def isIntD (lo hi : Int) : D → Bool | .int i => decide (lo ≤ i) && decide (i ≤ hi) | _ => false
def isWordD : D → D → Bool
  | .str w, v => if w = "only" then isIntD 0 2 v else if w = "limit" then isIntD 1 24 v else (decide (w = "none") || decide (w = "free")) && isIntD 0 0 v
  | _, _ => false
def ltD : D → D → Bool | .int i, .int j => decide (i < j) | _, _ => false
def incD : List D → Bool
  | x :: y :: r => ltD x y && incD (y :: r)
  | _ => true
def areDaysD : D → Bool | .tup ds => decide (1 ≤ ds.length ∧ ds.length ≤ 7) && ds.all (isIntD 0 6) && incD ds | _ => false
def lessD : D → Int | .int e => e - 1 | _ => 0
def isSignD (p : Int) : D → Bool
  | .tup [r, s, e, ds, f, l, w, v] => isIntD 0 3 r && isIntD 1 p e && isIntD 0 (lessD e) s && areDaysD ds && isIntD 0 23 f && isIntD 0 24 l && isWordD w v
  | _ => false
def isStreetD : D → Bool
  | .tup [.int p, .tup ss] => decide (1 ≤ p ∧ p ≤ 4) && decide (ss.length ≤ 6) && ss.all (isSignD p) && decide (((tupKeys ss).getD []).Nodup)
  | _ => false

/-! ### is_integer, is_word -/
def F_is_integer : FS := tyF 3 (fun (q : D × Int × Int) => [q.1, .int q.2.1, .int q.2.2]) (fun q _ => plain0 q.1 = true) fun q => .bl (isIntD q.2.1 q.2.2 q.1)
theorem inj_is_integer : ∀ x y : D × Int × Int, [x.1, .int x.2.1, .int x.2.2] = [y.1, D.int y.2.1, .int y.2.2] → x = y := fun ⟨a, b, c⟩ ⟨d, e, f⟩ h => by simpa using h
theorem call_is_integer {M : Mem} {E0 : EK} {Q : D → Mem → Prop} {d : D} {lo hi : Int} (h : plain0 d = true) : (PM.call F_is_integer [d, .int lo, .int hi]).run M Q E0 = Q (.bl (isIntD lo hi d)) M := call_tyE inj_is_integer (d, lo, hi) rfl rfl h
def b_is_integer : S := (.ret (.and (.isi (.var 0) .int) (.and (.not (.isi (.var 0) .bool)) (.chain .le .le (.var 1) (.var 0) (.var 2)))))
theorem ok_is_integer : BodyOk 3 b_is_integer F_is_integer := by
  refine body_ty inj_is_integer fun ⟨d, lo, hi⟩ M hp => ?_
  cases d <;> simp [plain0] at hp <;> simp [b_is_integer, startS, isiF, isIntD]
  rename_i i
  by_cases h1 : lo ≤ i <;> simp [h1]
def F_is_word : FS := tyF 2 (fun (q : D × D) => [q.1, q.2]) (fun q _ => plain0 q.1 = true ∧ plain0 q.2 = true) fun q => .bl (isWordD q.1 q.2)
def b_is_word : S := (.seq (.iff (.not (.isi (.var 0) .str))
  (.ret (.bl false))
  .nop)
  (.seq (.iff (.cmp .eq (.var 0) (.str "only"))
  (.ret (.call "is_integer" F_is_integer (.cons (.var 1) (.cons (.int 0) (.cons (.int 2) .nil)))))
  .nop)
  (.seq (.iff (.cmp .eq (.var 0) (.str "limit"))
  (.ret (.call "is_integer" F_is_integer (.cons (.var 1) (.cons (.int 1) (.cons (.int 24) .nil)))))
  .nop)
  (.ret (.and (.cmp .isin (.var 0) (.tup (.cons (.str "none") (.cons (.str "free") .nil)))) (.call "is_integer" F_is_integer (.cons (.var 1) (.cons (.int 0) (.cons (.int 0) .nil)))))))))
theorem inj_2 : ∀ x y : D × D, [x.1, x.2] = [y.1, y.2] → x = y := fun ⟨a, b⟩ ⟨d, e⟩ h => by simpa using h
theorem call_is_word {M : Mem} {E0 : EK} {Q : D → Mem → Prop} {d e : D} (h : plain0 d = true) (h2 : plain0 e = true) : (PM.call F_is_word [d, e]).run M Q E0 = Q (.bl (isWordD d e)) M := call_tyE inj_2 (d, e) rfl rfl ⟨h, h2⟩
@[simp] theorem w1 : (("limit" : Str) = "only") = False := eq_false (by decide +kernel)
@[simp] theorem w2 : (("none" : Str) = "only") = False := eq_false (by decide +kernel)
@[simp] theorem w3 : (("free" : Str) = "only") = False := eq_false (by decide +kernel)
@[simp] theorem w4 : (("none" : Str) = "limit") = False := eq_false (by decide +kernel)
@[simp] theorem w5 : (("free" : Str) = "limit") = False := eq_false (by decide +kernel)
@[simp] theorem w6 : (("only" : Str) = "limit") = False := eq_false (by decide +kernel)
@[simp] theorem w7 : (("only" : Str) = "none") = False := eq_false (by decide +kernel)
@[simp] theorem w8 : (("limit" : Str) = "none") = False := eq_false (by decide +kernel)
@[simp] theorem w9 : (("free" : Str) = "none") = False := eq_false (by decide +kernel)
@[simp] theorem w10 : (("only" : Str) = "free") = False := eq_false (by decide +kernel)
@[simp] theorem w11 : (("limit" : Str) = "free") = False := eq_false (by decide +kernel)
@[simp] theorem w12 : (("none" : Str) = "free") = False := eq_false (by decide +kernel)
theorem ok_is_word : BodyOk 2 b_is_word F_is_word := by
  refine body_ty inj_2 ?_
  rintro ⟨w, v⟩ M ⟨h1, h2⟩
  cases w with
  | cell a => exact Bool.noConfusion h1
  | scr a => exact Bool.noConfusion h1
  | str w =>
    have k : inOk (.str w) [.str "none", .str "free"] := inOk_flat rfl rfl
    simp [b_is_word, isiF, isWordD, k]
    by_cases c1 : w = "only"
    · rw [if_pos c1]
      rw [call_is_integer h2]
      simp [c1]
    · rw [if_neg c1]
      by_cases c2 : w = "limit"
      · rw [if_pos c2]
        rw [call_is_integer h2]
        simp [c2]
      · rw [if_neg c2]
        split
        · rename_i c3
          rw [call_is_integer h2]
          rcases c3 with rfl | rfl <;> simp
        · rename_i c3
          rw [not_or] at c3
          have c4 : ¬ w = "none" := fun e => c3.1 e.symm
          have c5 : ¬ w = "free" := fun e => c3.2 e.symm
          simp [c1, c2, c3, c4, c5]
  | _ => simp [b_is_word, isiF, isWordD]

/-! ### are_days -/
def F_are_days : FS := tyF 1 (fun (d : D) => [d]) (fun d _ => plainD d = true) fun d => .bl (areDaysD d)
def b_are_days : S := (.seq (.iff (.or (.not (.isi (.var 0) .tuple)) (.not (.chain .le .le (.int 1) (.b1 .len (.var 0)) (.int 7))))
  (.ret (.bl false))
  .nop)
  (.seq (.iff (.not (.b1 .all (.comp (.call "is_integer" F_is_integer (.cons (.var 1) (.cons (.int 0) (.cons (.int 6) .nil)))) (.one 1) (.it1 .seq (.var 0)) (.bl true) [1])))
  (.ret (.bl false))
  .nop)
  (.ret (.b1 .all (.comp (.cmp .lt (.var 1) (.var 2)) (.many [1, 2]) (.it2 .zip (.var 0) (.cut true false (.var 0) (.int 1) .non)) (.bl true) [1, 2])))))
theorem inj_1 : ∀ x y : D, [x] = [y] → x = y := fun _ _ h => by simpa using h
theorem call_are_days {M : Mem} {E0 : EK} {Q : D → Mem → Prop} {d : D} (h : plainD d = true) : (PM.call F_are_days [d]).run M Q E0 = Q (.bl (areDaysD d)) M := call_tyE inj_1 d rfl rfl h
theorem blsF_map {α : Type} (f : α → Bool) : ∀ l : List α, blsF (l.map fun x => D.bl (f x)) = some (l.map f)
  | [] => rfl
  | x :: r => by
    show (blsF (r.map fun x => D.bl (f x))).map (f x :: ·) = _
    rw [blsF_map f r]
    rfl
theorem fm_map {α β : Type} (f : α → β) (l : List α) : (l.filterMap fun x => some (f x)) = l.map f := by
  induction l with
  | nil => rfl
  | cons x r ih => simp
theorem zip_inc : ∀ ds : List D, ((zipD ds (ds.drop 1)).all fun p => match p with | .tup [x, y] => ltD x y | _ => false) = incD ds
  | [] => rfl
  | [x] => rfl
  | x :: y :: r => by
    have ih := zip_inc (y :: r)
    simp only [List.drop_succ_cons, List.drop_zero] at ih ⊢
    rw [zipD, List.all_cons, ih]
    rfl
theorem zip_mem : ∀ {xs ys : List D} {p : D}, p ∈ zipD xs ys → ∃ x y, p = .tup [x, y] ∧ x ∈ xs ∧ y ∈ ys
  | [], _, p, h => by simp [zipD] at h
  | _ :: _, [], p, h => by simp [zipD] at h
  | x :: xs, y :: ys, p, h => by
    rw [zipD] at h
    cases h with
    | head => exact ⟨x, y, rfl, List.mem_cons_self, List.mem_cons_self⟩
    | tail _ h =>
      obtain ⟨a, b, h1, h2, h3⟩ := zip_mem h
      exact ⟨a, b, h1, List.mem_cons_of_mem _ h2, List.mem_cons_of_mem _ h3⟩
theorem isInt_ex {lo hi : Int} {d : D} (h : isIntD lo hi d = true) : ∃ i, d = .int i ∧ lo ≤ i ∧ i ≤ hi := by
  cases d <;> simp [isIntD] at h
  exact ⟨_, rfl, h⟩
theorem cut_nat (ds : List D) (k : Nat) : cutD ds (some (k : Int)) none = ds.drop k := by
  unfold cutD
  rw [HT.sIx_nat, HT.sIx_none]
  by_cases h : k ≤ ds.length
  · rw [Nat.min_eq_left h, List.take_of_length_le (by rw [List.length_drop]; omega)]
  · rw [Nat.min_eq_right (by omega), List.drop_length, List.drop_of_length_le (by omega)]
    simp
@[simp] theorem cut_1 (ds : List D) : cutD ds (some 1) none = ds.drop 1 := cut_nat ds 1
def pairLt : D → Bool | .tup [x, y] => ltD x y | _ => false
theorem pair_all (ds : List D) : (zipD ds ds.tail).all pairLt = incD ds := by
  rw [← List.drop_one, ← zip_inc ds]
  congr 1
theorem zip_len (xs ys : List D) : (zipD xs ys).length ≤ xs.length := by
  rw [zipD_len]
  omega
theorem ok_are_days : BodyOk 3 b_are_days F_are_days := by
  refine body_ty (fun a b h => by simpa using h) ?_
  intro d M hp
  cases d with
  | cell a => exact Bool.noConfusion hp
  | scr a => exact Bool.noConfusion hp
  | tup ds =>
    generalize hr : areDaysD (.tup ds) = r
    simp only [areDaysD] at hr
    have pl := plainL_mem (show plainL ds = true from hp)
    simp [b_are_days, isiF, w_comp]
    by_cases c1 : 1 ≤ ds.length ∧ ds.length ≤ 7
    · have c1' : (1 : Int) ≤ ds.length := by omega
      have c2' : (ds.length : Int) ≤ 7 := by omega
      rw [if_pos c1', if_pos c2']
      refine ⟨by omega, comp_go (fun x => some (.bl (isIntD 0 6 x))) (fun x hx Q hq => ?_) ?_⟩
      · simp [call_is_integer (plain_0 (pl x hx))]
        exact hq
      · rw [fm_map, blsF_map]
        simp
        split
        · rename_i h
          obtain ⟨a, ha, hb⟩ := h
          rw [← hr, show ds.all (isIntD 0 6) = false from List.all_eq_false.mpr ⟨a, ha, by simp [hb]⟩]
          simp
        · rename_i h
          have all : ∀ x ∈ ds, isIntD 0 6 x = true := fun x hx => by
            cases q : isIntD 0 6 x with
            | true => rfl
            | false => exact absurd ⟨x, hx, q⟩ h
          refine ⟨by have := zip_len ds ds.tail; omega, comp_go (fun x => some (.bl (pairLt x))) (fun x hx Q hq => ?_) ?_⟩
          · obtain ⟨a, b, rfl, ha, hb⟩ := zip_mem hx
            obtain ⟨i, rfl, _⟩ := isInt_ex (all a ha)
            obtain ⟨j, rfl, _⟩ := isInt_ex (all b (List.mem_of_mem_tail hb))
            simpa [pairLt, ltD] using hq
          · rw [fm_map, blsF_map]
            simp only [run_some, List.all_map]
            refine ⟨trivial, ?_⟩
            rw [show (id ∘ pairLt) = pairLt from rfl, pair_all, ← hr, List.all_eq_true.mpr all, decide_eq_true c1]
            simp
    · have c : ¬ ((1 : Int) ≤ ds.length ∧ (ds.length : Int) ≤ 7) := fun z => c1 (by omega)
      rw [decide_eq_false c1] at hr
      rw [← hr]
      by_cases c2 : (1 : Int) ≤ ds.length
      · rw [if_pos c2, if_neg fun z => c ⟨c2, z⟩]
        simp
      · rw [if_neg c2]
        simp
  | _ => simp [b_are_days, isiF, areDaysD]

/-! ### is_sign -/
def F_is_sign : FS := tyF 2 (fun (q : Int × D) => [.int q.1, q.2]) (fun q _ => plainD q.2 = true) fun q => .bl (isSignD q.1 q.2)
def b_is_sign : S := (.seq (.iff (.or (.not (.isi (.var 1) .tuple)) (.cmp .ne (.b1 .len (.var 1)) (.int 8)))
  (.ret (.bl false))
  .nop)
  (.seq (.unp [2, 3, 4, 5, 6, 7, 8, 9] (.var 1))
  (.seq (.iff (.or (.not (.call "is_integer" F_is_integer (.cons (.var 2) (.cons (.int 0) (.cons (.int 3) .nil))))) (.or (.not (.call "is_integer" F_is_integer (.cons (.var 4) (.cons (.int 1) (.cons (.var 0) .nil))))) (.not (.call "is_integer" F_is_integer (.cons (.var 3) (.cons (.int 0) (.cons (.bin .sub (.var 4) (.int 1)) .nil)))))))
  (.ret (.bl false))
  .nop)
  (.seq (.iff (.or (.not (.call "are_days" F_are_days (.cons (.var 5) .nil))) (.or (.not (.call "is_integer" F_is_integer (.cons (.var 6) (.cons (.int 0) (.cons (.int 23) .nil))))) (.not (.call "is_integer" F_is_integer (.cons (.var 7) (.cons (.int 0) (.cons (.int 24) .nil)))))))
  (.ret (.bl false))
  .nop)
  (.ret (.call "is_word" F_is_word (.cons (.var 8) (.cons (.var 9) .nil))))))))
theorem inj_is_sign : ∀ x y : Int × D, [D.int x.1, x.2] = [.int y.1, y.2] → x = y := fun ⟨a, b⟩ ⟨c, d⟩ h => by simpa using h
theorem call_is_sign {M : Mem} {E0 : EK} {Q : D → Mem → Prop} {p : Int} {d : D} (h : plainD d = true) : (PM.call F_is_sign [.int p, d]).run M Q E0 = Q (.bl (isSignD p d)) M := call_tyE inj_is_sign (p, d) rfl rfl h
theorem len8 {α : Type} : ∀ {l : List α}, l.length = 8 → ∃ a b c d e f g h, l = [a, b, c, d, e, f, g, h]
  | [a, b, c, d, e, f, g, h], _ => ⟨a, b, c, d, e, f, g, h, rfl⟩
theorem isSign_8 {p : Int} {ds : List D} (h : ds.length ≠ 8) : isSignD p (.tup ds) = false := by
  unfold isSignD
  split
  · rename_i e
    cases e
    exact absurd rfl h
  · rfl
theorem ok_is_sign : BodyOk 10 b_is_sign F_is_sign := by
  refine body_ty (fun ⟨a, b⟩ ⟨c, d⟩ h => by simpa using h) ?_
  rintro ⟨p, d⟩ M hp
  have hp : plainD d = true := hp
  cases d with
  | cell a => exact Bool.noConfusion hp
  | scr a => exact Bool.noConfusion hp
  | tup ds =>
    by_cases c1 : ds.length = 8
    · obtain ⟨a, b, c, d, e, f, g, h, rfl⟩ := len8 c1
      generalize hr : isSignD p (.tup [a, b, c, d, e, f, g, h]) = r
      simp only [isSignD] at hr
      have pl := plainL_mem (show plainL [a, b, c, d, e, f, g, h] = true from hp)
      have p1 := plain_0 (pl a (by simp))
      have p2 := plain_0 (pl b (by simp))
      have p3 := plain_0 (pl c (by simp))
      have p4 := pl d (by simp)
      have p5 := plain_0 (pl e (by simp))
      have p6 := plain_0 (pl f (by simp))
      have p7 := plain_0 (pl g (by simp))
      have p8 := plain_0 (pl h (by simp))
      cases k : isIntD 1 p c with
      | false =>
        rw [← hr, k]
        simp [b_is_sign, isiF, call_is_integer, p1, p3, k]
        cases isIntD 0 3 a <;> simp
      | true =>
        obtain ⟨z, rfl, _⟩ := isInt_ex k
        simp [b_is_sign, isiF, call_is_integer, call_are_days, call_is_word, p1, p2, p3, p4, p5, p6, p7, p8, k]
        simp only [k, lessD, Bool.and_true, Bool.true_and] at hr
        subst hr
        cases isIntD 0 3 a <;> cases isIntD 0 (z - 1) b <;> cases areDaysD d <;> cases isIntD 0 23 e <;> cases isIntD 0 24 f <;> simp
    · have c3 : ¬ (ds.length : Int) = 8 := by omega
      simp [b_is_sign, isiF, isSign_8 c1, c3]
  | _ => simp [b_is_sign, isiF, isSignD]

/-! ### is_street -/
theorem plain_sub {p : Int} {d : D} (_h : isSignD p d = true) : True := trivial
/-- what a sign is in a set -/
def Sgn.key (s : Sgn) : NestedKey := .tup [.num s.rank, .num s.start, .num s.stop, .tup (s.days.map .num), .num s.first, .num s.last, .text s.word, .num s.value]
def wordOk (w : Str) (v : Int) : Bool := if w = "only" then decide (0 ≤ v) && decide (v ≤ 2) else if w = "limit" then decide (1 ≤ v) && decide (v ≤ 24) else (decide (w = "none") || decide (w = "free")) && (decide (0 ≤ v) && decide (v ≤ 0))
def incI : List Int → Bool
  | x :: y :: r => decide (x < y) && incI (y :: r)
  | _ => true
def daysOk (l : List Int) : Bool := decide (1 ≤ l.length ∧ l.length ≤ 7) && l.all (fun i => decide (0 ≤ i) && decide (i ≤ 6)) && incI l
def Sgn.ok (p : Int) (s : Sgn) : Bool := (decide (0 ≤ s.rank) && decide (s.rank ≤ 3)) && (decide (1 ≤ s.stop) && decide (s.stop ≤ p)) && (decide (0 ≤ s.start) && decide (s.start ≤ s.stop - 1)) && daysOk s.days && (decide (0 ≤ s.first) && decide (s.first ≤ 23)) && (decide (0 ≤ s.last) && decide (s.last ≤ 24)) && wordOk s.word s.value
theorem all_days : ∀ l : List Int, (l.map D.int).all (isIntD 0 6) = l.all fun i => decide (0 ≤ i) && decide (i ≤ 6)
  | [] => rfl
  | x :: r => by rw [List.map_cons, List.all_cons, List.all_cons, all_days r]; rfl
theorem inc_days : ∀ l : List Int, incD (l.map .int) = incI l
  | [] => rfl
  | [x] => rfl
  | x :: y :: r => by
    have ih := inc_days (y :: r)
    simp only [List.map_cons] at ih ⊢
    rw [incD, ih]
    rfl
theorem days_d (l : List Int) : areDaysD (.tup (l.map .int)) = daysOk l := by
  show (decide (1 ≤ (l.map D.int).length ∧ (l.map D.int).length ≤ 7) && (l.map D.int).all (isIntD 0 6) && incD (l.map .int)) = _
  rw [all_days, inc_days, List.length_map]
  rfl
theorem sign_d (p : Int) (s : Sgn) : isSignD p s.d = s.ok p := by
  show (isIntD 0 3 (.int s.rank) && isIntD 1 p (.int s.stop) && isIntD 0 (s.stop - 1) (.int s.start) && areDaysD (.tup (s.days.map .int)) && isIntD 0 23 (.int s.first) && isIntD 0 24 (.int s.last) && isWordD (.str s.word) (.int s.value)) = _
  rw [days_d]
  rfl
theorem ints_of : ∀ {l : List D}, l.all (isIntD 0 6) = true → ∃ ns : List Int, l = ns.map .int
  | [], _ => ⟨[], rfl⟩
  | d :: r, h => by
    rw [List.all_cons, Bool.and_eq_true] at h
    obtain ⟨i, rfl, _⟩ := isInt_ex h.1
    obtain ⟨ns, rfl⟩ := ints_of h.2
    exact ⟨i :: ns, rfl⟩
theorem sign_of {p : Int} {d : D} (h : isSignD p d = true) : ∃ s : Sgn, d = s.d ∧ s.ok p = true := by
  have h0 := h
  unfold isSignD at h
  split at h
  · rename_i r s e ds f l w v
    simp only [Bool.and_eq_true] at h
    obtain ⟨⟨⟨⟨⟨⟨h1, h2⟩, h3⟩, h4⟩, h5⟩, h6⟩, h7⟩ := h
    obtain ⟨r, rfl, _⟩ := isInt_ex h1
    obtain ⟨e, rfl, _⟩ := isInt_ex h2
    obtain ⟨s, rfl, _⟩ := isInt_ex h3
    obtain ⟨f, rfl, _⟩ := isInt_ex h5
    obtain ⟨l, rfl, _⟩ := isInt_ex h6
    unfold areDaysD at h4
    split at h4
    · simp only [Bool.and_eq_true] at h4
      obtain ⟨ns, rfl⟩ := ints_of h4.1.2
      unfold isWordD at h7
      split at h7
      · rename_i w
        have : ∃ v', v = .int v' := by
          split at h7
          · obtain ⟨i, rfl, _⟩ := isInt_ex h7; exact ⟨i, rfl⟩
          · split at h7
            · obtain ⟨i, rfl, _⟩ := isInt_ex h7; exact ⟨i, rfl⟩
            · rw [Bool.and_eq_true] at h7
              obtain ⟨i, rfl, _⟩ := isInt_ex h7.2; exact ⟨i, rfl⟩
        obtain ⟨v, rfl⟩ := this
        exact ⟨⟨r, s, e, ns, f, l, w, v⟩, rfl, by rw [← sign_d]; exact h0⟩
      · cases h7
    · cases h4
  · cases h
theorem signs_of {p : Int} : ∀ {ds : List D}, ds.all (isSignD p) = true → ∃ ss : List Sgn, ds = ss.map Sgn.d ∧ ss.all (Sgn.ok p) = true
  | [], _ => ⟨[], rfl, rfl⟩
  | d :: r, h => by
    rw [List.all_cons, Bool.and_eq_true] at h
    obtain ⟨s, rfl, h1⟩ := sign_of h.1
    obtain ⟨ss, rfl, h2⟩ := signs_of h.2
    exact ⟨s :: ss, rfl, by rw [List.all_cons, h1, h2]; rfl⟩
theorem all_sign (p : Int) : ∀ ss : List Sgn, (ss.map Sgn.d).all (isSignD p) = ss.all (Sgn.ok p)
  | [] => rfl
  | s :: r => by rw [List.map_cons, List.all_cons, List.all_cons, sign_d, all_sign p r]
theorem keysD_ints : ∀ l : List Int, keysD (l.map .int) = some (l.map .num)
  | [] => rfl
  | x :: r => by
    show (some (NestedKey.num x)).bind _ = _
    rw [Option.bind_some, keysD_ints r]
    rfl
theorem depth_nums : ∀ l : List Int, NestedKey.depthAll (l.map .num) = 0
  | [] => rfl
  | x :: r => by
    show max 0 (NestedKey.depthAll (r.map .num)) = 0
    rw [depth_nums r]
    rfl
theorem key_sign (s : Sgn) : keyD s.d = some s.key := by
  simp [Sgn.d, Sgn.key, keyD, keysD, keysD_ints]
theorem depth_key (s : Sgn) : s.key.depth ≤ 8 := by
  simp [Sgn.key, NestedKey.depth, NestedKey.depthAll, depth_nums]
theorem tup_keys : ∀ ss : List Sgn, tupKeys (ss.map Sgn.d) = some (ss.map Sgn.key)
  | [] => rfl
  | s :: r => by
    have e := key_sign s
    have dk := depth_key s
    have ih := tup_keys r
    rw [List.map_cons, List.map_cons]
    unfold Sgn.d Sgn.key at *
    rw [keyD] at e
    cases k : keysD [.int s.rank, .int s.start, .int s.stop, .tup (s.days.map .int), .int s.first, .int s.last, .str s.word, .int s.value] with
    | none => rw [k] at e; cases e
    | some ks =>
      rw [k] at e
      injection e with e
      rw [tupKeys, k, ih]
      show (if (NestedKey.tup ks).depth ≤ 8 then _ else none) = _
      rw [e, if_pos dk]
theorem nums_inj : ∀ {a b : List Int}, a.map NestedKey.num = b.map .num → a = b
  | [], [], _ => rfl
  | [], _ :: _, h => by simp at h
  | _ :: _, [], h => by simp at h
  | x :: r, y :: s, h => by
    simp only [List.map_cons, List.cons.injEq, NestedKey.num.injEq] at h
    rw [h.1, nums_inj h.2]
theorem key_inj {s t : Sgn} (h : s.key = t.key) : s = t := by
  obtain ⟨a1, a2, a3, a4, a5, a6, a7, a8⟩ := s
  obtain ⟨b1, b2, b3, b4, b5, b6, b7, b8⟩ := t
  simp only [Sgn.key, NestedKey.tup.injEq, List.cons.injEq, NestedKey.num.injEq, NestedKey.text.injEq, and_true] at h
  obtain ⟨rfl, rfl, rfl, h4, rfl, rfl, rfl, rfl⟩ := h
  rw [nums_inj h4]
theorem distN_le : ∀ ks : List NestedKey, distN ks ≤ ks.length
  | [] => Nat.le_refl _
  | k :: r => by
    have := distN_le r
    unfold distN
    split <;> simp only [List.length_cons] <;> omega
theorem distN_eq : ∀ ks : List NestedKey, distN ks = ks.length ↔ ks.Nodup
  | [] => by simp [distN]
  | k :: r => by
    have l := distN_le r
    have ih := distN_eq r
    rw [List.nodup_cons]
    unfold distN
    split
    · rename_i h
      simp only [List.length_cons]
      exact ⟨fun e => by omega, fun e => absurd h e.1⟩
    · rename_i h
      simp only [List.length_cons]
      exact ⟨fun e => ⟨h, ih.mp (by omega)⟩, fun e => by rw [ih.mpr e.2]⟩
theorem nodup_key (ss : List Sgn) : (ss.map Sgn.key).Nodup ↔ ss.Nodup := by
  constructor
  · exact fun h => List.Pairwise.of_map Sgn.key (fun a b n e => n (congrArg _ e)) h
  · exact fun h => List.Pairwise.map Sgn.key (fun a b n e => n (key_inj e)) h
def F_is_street : FS := tyF 1 (fun (d : D) => [d]) (fun d _ => plainD d = true) fun d => .bl (isStreetD d)
def b_is_street : S := (.seq (.iff (.or (.not (.isi (.var 0) .tuple)) (.or (.cmp .ne (.b1 .len (.var 0)) (.int 2)) (.not (.call "is_integer" F_is_integer (.cons (.ix (.var 0) (.int 0)) (.cons (.int 1) (.cons (.int 4) .nil)))))))
  (.ret (.bl false))
  .nop)
  (.seq (.unp [1, 2] (.var 0))
  (.seq (.iff (.or (.not (.isi (.var 2) .tuple)) (.or (.cmp .gt (.b1 .len (.var 2)) (.int 6)) (.not (.b1 .all (.comp (.call "is_sign" F_is_sign (.cons (.var 1) (.cons (.var 3) .nil))) (.one 3) (.it1 .seq (.var 2)) (.bl true) [3])))))
  (.ret (.bl false))
  .nop)
  (.ret (.cmp .eq (.sp1 .lens (.var 2)) (.b1 .len (.var 2)))))))
theorem call_is_street {M : Mem} {E0 : EK} {Q : D → Mem → Prop} {d : D} (h : plainD d = true) : (PM.call F_is_street [d]).run M Q E0 = Q (.bl (isStreetD d)) M := call_tyE inj_1 d rfl rfl h
theorem len2 {α : Type} : ∀ {l : List α}, l.length = 2 → ∃ a b, l = [a, b]
  | [a, b], _ => ⟨a, b, rfl⟩
theorem isStreet_2 {ds : List D} (h : ds.length ≠ 2) : isStreetD (.tup ds) = false := by
  unfold isStreetD
  split
  · rename_i e
    cases e
    exact absurd rfl h
  · rfl
theorem ok_is_street : BodyOk 4 b_is_street F_is_street := by
  refine body_ty inj_1 ?_
  intro d M hp
  cases d with
  | cell a => exact Bool.noConfusion hp
  | scr a => exact Bool.noConfusion hp
  | tup ds =>
    by_cases c1 : ds.length = 2
    · obtain ⟨a, b, rfl⟩ := len2 c1
      have pl := plainL_mem (show plainL [a, b] = true from hp)
      have p1 := plain_0 (pl a (by simp))
      have p2 := pl b (by simp)
      cases k : isIntD 1 4 a with
      | false =>
        have : isStreetD (.tup [a, b]) = false := by
          cases a <;> cases b <;> simp [isStreetD]
          simp [isIntD] at k
          intro h1 h2
          omega
        rw [this]
        simp [b_is_street, isiF, call_is_integer, p1, k]
      | true =>
        obtain ⟨z, rfl, z1, z2⟩ := isInt_ex k
        cases b with
        | cell a => exact Bool.noConfusion p2
        | scr a => exact Bool.noConfusion p2
        | tup ss =>
          have pl2 := plainL_mem (show plainL ss = true from p2)
          have zz : decide (1 ≤ z ∧ z ≤ 4) = true := decide_eq_true ⟨z1, z2⟩
          generalize hr : isStreetD (.tup [.int z, .tup ss]) = r
          simp only [isStreetD, zz, Bool.true_and] at hr
          simp [b_is_street, isiF, call_is_integer, p1, k, w_comp]
          by_cases c2 : ss.length ≤ 6
          · have c2' : ¬ (6 : Int) < ss.length := by omega
            rw [if_neg c2']
            refine ⟨by omega, comp_go (fun x => some (.bl (isSignD z x))) (fun x hx Q hq => ?_) ?_⟩
            · simp [call_is_sign (pl2 x hx)]
              exact hq
            · rw [fm_map, blsF_map]
              simp
              cases hs : ss.all (isSignD z) with
              | false =>
                obtain ⟨x, hx, hf⟩ := List.all_eq_false.mp hs
                rw [if_pos ⟨x, hx, by simpa using hf⟩, ← hr, hs]
                simp
              | true =>
                rw [if_neg fun ⟨x, hx, hf⟩ => by rw [List.all_eq_true.mp hs x hx] at hf; cases hf]
                obtain ⟨sg, rfl, h2⟩ := signs_of hs
                rw [tup_keys] at hr
                have ek : setKeys (.tup (sg.map Sgn.d)) = some (sg.map Sgn.key) := by
                  have few : (sg.map Sgn.d).length < 64 := by omega
                  rw [List.length_map] at few
                  have dl := distN_le (sg.map Sgn.key)
                  rw [List.length_map] at dl
                  show (tupKeys (sg.map Sgn.d)).bind (fun ks => if distN ks < 63 then some ks else none) = _
                  rw [tup_keys]
                  have f6 : sg.length ≤ 6 := by simpa using c2
                  show (if distN (sg.map Sgn.key) < 63 then some (sg.map Sgn.key) else none) = _
                  rw [if_pos (by omega)]
                rw [ek]
                simp only [run_some]
                refine ⟨trivial, ?_⟩
                rw [← hr, hs]
                have e := distN_eq (sg.map Sgn.key)
                rw [List.length_map] at e
                rw [List.length_map] at c2
                simp only [List.length_map, Option.getD_some, Bool.and_true, decide_eq_true c2, Bool.true_and]
                by_cases nd : (sg.map Sgn.key).Nodup
                · rw [decide_eq_true nd, e.mpr nd]
                  simp
                · have : ¬ distN (sg.map Sgn.key) = sg.length := fun z => nd (e.mp z)
                  rw [decide_eq_false nd]
                  simpa using fun z => this (by omega)
          · have c2' : (6 : Int) < ss.length := by omega
            rw [if_pos c2', ← hr, decide_eq_false c2]
            simp
            exact fun z => absurd z (by omega)
        | _ => simp [b_is_street, isiF, call_is_integer, p1, k, isStreetD]
    · have c3 : ¬ (ds.length : Int) = 2 := by omega
      simp [b_is_street, isiF, isStreet_2 c1, c3]
  | _ => simp [b_is_street, isiF, isStreetD]
end PL
set_option Elab.async false
set_option linter.all false
set_option maxRecDepth 100000
namespace PL
open PySem L2 PyProof.Rows PySem.Spec
/-! ## data read back -/
def unI : D → Int | .int i => i | _ => 0
def unIs : D → List Int | .tup l => l.map unI | _ => []
def unW : D → Str | .str w => w | _ => ""
def unG : D → Sgn | .tup [r, s, e, ds, f, l, w, v] => ⟨unI r, unI s, unI e, unIs ds, unI f, unI l, unW w, unI v⟩ | _ => ⟨0, 0, 0, [], 0, 0, "", 0⟩
def unT : D → Strt | .tup [p, .tup ss] => ⟨unI p, ss.map unG⟩ | _ => ⟨0, []⟩
theorem un_ints (l : List Int) : (l.map D.int).map unI = l := by
  rw [List.map_map]
  exact List.map_id' l
theorem unG_d (s : Sgn) : unG s.d = s := by
  show Sgn.mk s.rank s.start s.stop ((s.days.map D.int).map unI) s.first s.last s.word s.value = s
  rw [un_ints]
theorem unT_d (t : Strt) : unT t.d = t := by
  show Strt.mk t.places ((t.sgns.map Sgn.d).map unG) = t
  rw [List.map_map, show t.sgns.map (unG ∘ Sgn.d) = t.sgns from (List.map_congr_left fun s _ => unG_d s).trans (List.map_id t.sgns)]
theorem street_of {d : D} (h : isStreetD d = true) : ∃ t : Strt, d = t.d ∧ isStreetD t.d = true := by
  have h0 := h
  unfold isStreetD at h
  split at h
  · rename_i p ss
    simp only [Bool.and_eq_true] at h
    obtain ⟨sg, rfl, _⟩ := signs_of h.1.2
    exact ⟨⟨p, sg⟩, rfl, h0⟩
  · cases h
end PL
set_option Elab.async false
set_option linter.all false
set_option maxRecDepth 100000
namespace PL
open PySem L2 PyProof.Rows PySem.Spec

/-! ## streets -/
instance : Inhabited Sgn := ⟨⟨0, 0, 0, [], 0, 0, "", 0⟩⟩
def Strt.ok (t : Strt) : Prop := isStreetD t.d = true
theorem ints_inj : ∀ {a b : List Int}, a.map D.int = b.map .int → a = b
  | [], [], _ => rfl
  | [], _ :: _, h => by simp at h
  | _ :: _, [], h => by simp at h
  | x :: r, y :: s, h => by
    simp only [List.map_cons, List.cons.injEq, D.int.injEq] at h
    rw [h.1, ints_inj h.2]
theorem sgn_inj {s t : Sgn} (h : s.d = t.d) : s = t := by
  obtain ⟨a1, a2, a3, a4, a5, a6, a7, a8⟩ := s
  obtain ⟨b1, b2, b3, b4, b5, b6, b7, b8⟩ := t
  simp only [Sgn.d, D.tup.injEq, List.cons.injEq, D.int.injEq, D.str.injEq, and_true] at h
  obtain ⟨rfl, rfl, rfl, h4, rfl, rfl, rfl, rfl⟩ := h
  rw [ints_inj h4]
theorem sgns_inj : ∀ {a b : List Sgn}, a.map Sgn.d = b.map Sgn.d → a = b
  | [], [], _ => rfl
  | [], _ :: _, h => by simp at h
  | _ :: _, [], h => by simp at h
  | x :: r, y :: s, h => by
    simp only [List.map_cons, List.cons.injEq] at h
    rw [sgn_inj h.1, sgns_inj h.2]
theorem strt_inj {s t : Strt} (h : s.d = t.d) : s = t := by
  obtain ⟨a, b⟩ := s
  obtain ⟨c, e⟩ := t
  simp only [Strt.d, D.tup.injEq, List.cons.injEq, D.int.injEq, and_true] at h
  obtain ⟨rfl, h2⟩ := h
  rw [sgns_inj h2]
theorem plain_ints : ∀ l : List Int, plainL (l.map .int) = true
  | [] => rfl
  | _ :: r => by rw [List.map_cons, plainL, plain_ints r]; rfl
theorem plain_sgn (s : Sgn) : plainD s.d = true := by
  simp [Sgn.d, plainD, plainL, plain_ints]
theorem plain_sgns : ∀ l : List Sgn, plainL (l.map Sgn.d) = true
  | [] => rfl
  | s :: r => by rw [List.map_cons, plainL, plain_sgn, plain_sgns r]; rfl
theorem plain_strt (t : Strt) : plainD t.d = true := by
  simp [Strt.d, plainD, plainL, plain_sgns]
structure Strt.Is (t : Strt) : Prop where
  lo : 1 ≤ t.places
  hi : t.places ≤ 4
  few : t.sgns.length ≤ 6
  all : ∀ s ∈ t.sgns, s.ok t.places = true
  nd : t.sgns.Nodup
theorem Strt.ok_iff (t : Strt) : t.ok ↔ t.Is := by
  unfold Strt.ok
  show (decide (1 ≤ t.places ∧ t.places ≤ 4) && decide ((t.sgns.map Sgn.d).length ≤ 6) && (t.sgns.map Sgn.d).all (isSignD t.places) && decide (((tupKeys (t.sgns.map Sgn.d)).getD []).Nodup)) = true ↔ _
  rw [tup_keys, all_sign, List.length_map]
  simp only [Bool.and_eq_true, decide_eq_true_eq, Option.getD_some, nodup_key, List.all_eq_true]
  constructor
  · rintro ⟨⟨⟨⟨h1, h2⟩, h3⟩, h4⟩, h5⟩
    exact ⟨h1, h2, h3, h4, h5⟩
  · rintro ⟨h1, h2, h3, h4, h5⟩
    exact ⟨⟨⟨⟨h1, h2⟩, h3⟩, h4⟩, h5⟩
/-! ### what a sign keeps -/
structure Sgn.Is (p : Int) (s : Sgn) : Prop where
  r0 : 0 ≤ s.rank
  r3 : s.rank ≤ 3
  e1 : 1 ≤ s.stop
  ep : s.stop ≤ p
  s0 : 0 ≤ s.start
  se : s.start ≤ s.stop - 1
  dl : s.days.length ≤ 7
  d0 : s.days ≠ []
  dd : ∀ i ∈ s.days, 0 ≤ i ∧ i ≤ 6
  f0 : 0 ≤ s.first
  f1 : s.first ≤ 23
  l0 : 0 ≤ s.last
  l1 : s.last ≤ 24
  w : wordOk s.word s.value = true
theorem Sgn.ok_is {p : Int} {s : Sgn} (h : s.ok p = true) : s.Is p := by
  unfold Sgn.ok daysOk at h
  simp only [Bool.and_eq_true, decide_eq_true_eq, List.all_eq_true] at h
  obtain ⟨⟨⟨⟨⟨⟨⟨h1, h2⟩, h3, h4⟩, h5, h6⟩, ⟨⟨h7, h8⟩, h9⟩, h10⟩, h11, h12⟩, h13, h14⟩, h15⟩ := h
  exact ⟨h1, h2, h3, h4, h5, h6, h8, fun e => by rw [e] at h7; simp at h7, h9, h11, h12, h13, h14, h15⟩
theorem word_four {w : Str} {v : Int} (h : wordOk w v = true) : w = "only" ∨ w = "limit" ∨ w = "none" ∨ w = "free" := by
  unfold wordOk at h
  split at h
  · exact .inl (by assumption)
  · split at h
    · exact .inr (.inl (by assumption))
    · simp only [Bool.and_eq_true, Bool.or_eq_true, decide_eq_true_eq] at h
      exact .inr (.inr h.1)

@[simp] theorem plain0_int {i : Int} : plain0 (.int i) = true := id rfl
@[simp] theorem isIntD_int {lo hi i : Int} : isIntD lo hi (.int i) = (decide (lo ≤ i) && decide (i ≤ hi)) := rfl
/-! ### require_street, require_hour, require_place -/
def F_require_street : FS := txF 1 (fun (d : D) => [d]) (fun d _ => plainD d = true) fun d => if isStreetD d = true then .ok .non else .error 0
def b_require_street : S := (.iff (.not (.call "is_street" F_is_street (.cons (.var 0) .nil)))
  (.rse 0)
  .nop)
theorem call_require_street {M : Mem} {E0 : EK} {Q : D → Mem → Prop} {d : D} (h : plainD d = true) : (PM.call F_require_street [d]).run M Q E0 = outR (if isStreetD d = true then .ok .non else .error 0) Q E0 M := call_txE inj_1 d rfl rfl h
theorem ok_require_street : BodyOk 1 b_require_street F_require_street := by
  refine body_tx inj_1 ?_
  intro d M h1
  simp [b_require_street, call_is_street h1]
def F_require_hour : FS := txF 1 (fun (d : D) => [d]) (fun d _ => plain0 d = true) fun d => if isIntD 0 167 d = true then .ok .non else .error 3
def b_require_hour : S := (.iff (.not (.call "is_integer" F_is_integer (.cons (.var 0) (.cons (.int 0) (.cons (.int 167) .nil)))))
  (.rse 3)
  .nop)
theorem call_require_hour {M : Mem} {E0 : EK} {Q : D → Mem → Prop} {d : D} (h : plain0 d = true) : (PM.call F_require_hour [d]).run M Q E0 = outR (if isIntD 0 167 d = true then .ok .non else .error 3) Q E0 M := call_txE inj_1 d rfl rfl h
theorem ok_require_hour : BodyOk 1 b_require_hour F_require_hour := by
  refine body_tx inj_1 ?_
  intro d M h1
  simp [b_require_hour, call_is_integer h1]
theorem inj_int : ∀ x y : Int, [D.int x] = [.int y] → x = y := fun _ _ h => by simpa using h
abbrev enSP (q : Strt × D) : List D := [q.1.d, q.2]
theorem inj_sp : ∀ x y : Strt × D, enSP x = enSP y → x = y := fun ⟨a, b⟩ ⟨c, d⟩ h => by
  simp only [enSP, List.cons.injEq, and_true] at h
  rw [strt_inj h.1, h.2]
def F_require_place : FS := txF 2 enSP (fun q _ => plain0 q.2 = true) fun q => if isIntD 0 (q.1.places - 1) q.2 = true then .ok .non else .error 2
def b_require_place : S := (.iff (.not (.call "is_integer" F_is_integer (.cons (.var 1) (.cons (.int 0) (.cons (.bin .sub (.ix (.var 0) (.int 0)) (.int 1)) .nil)))))
  (.rse 2)
  .nop)
theorem call_require_place {M : Mem} {E0 : EK} {Q : D → Mem → Prop} {t : Strt} {d : D} (h : plain0 d = true) : (PM.call F_require_place [t.d, d]).run M Q E0 = outR (if isIntD 0 (t.places - 1) d = true then .ok .non else .error 2) Q E0 M := call_txE inj_sp (t, d) rfl rfl h
theorem ok_require_place : BodyOk 2 b_require_place F_require_place := by
  refine body_tx inj_sp ?_
  rintro ⟨t, d⟩ M h1
  have h1 : plain0 d = true := h1
  simp [b_require_place, enSP, Strt.d, call_is_integer h1]
/-! ### holds -/
def Sgn.len (s : Sgn) : Int := if s.first < s.last then s.last - s.first else 24 - s.first + s.last
def Sgn.on (s : Sgn) (h : Int) : Bool := s.days.any fun day => decide ((h - 24 * day - s.first) % 168 < s.len)
def Sgn.holds (s : Sgn) (p h : Int) : Bool := decide (s.start ≤ p) && decide (p < s.stop) && s.on h
@[simp] theorem cmul24 {x : Int} : CMul 24 x := .inl ⟨by decide, by decide⟩
abbrev enG (q : Sgn × Int × Int) : List D := [q.1.d, .int q.2.1, .int q.2.2]
theorem inj_g : ∀ x y : Sgn × Int × Int, enG x = enG y → x = y := fun ⟨a, b, c⟩ ⟨d, e, f⟩ h => by
  simp only [enG, List.cons.injEq, D.int.injEq, and_true] at h
  obtain ⟨h1, rfl, rfl⟩ := h
  rw [sgn_inj h1]
def F_holds : FS := tyF 3 enG (fun q _ => q.1.days.length ≤ 7) fun q => .bl (q.1.holds q.2.1 q.2.2)
def b_holds : S := (.seq (.unp [3, 4, 5, 6, 7, 8, 9, 10] (.var 0))
  (.seq (.iff (.not (.chain .le .lt (.var 4) (.var 1) (.var 5)))
  (.ret (.bl false))
  .nop)
  (.seq (.set 11 (.ite (.cmp .gt (.var 8) (.var 7)) (.bin .sub (.var 8) (.var 7)) (.bin .add (.bin .sub (.int 24) (.var 7)) (.var 8))))
  (.ret (.b1 .any (.comp (.cmp .lt (.bin .mod (.bin .sub (.bin .sub (.var 2) (.bin .mul (.int 24) (.var 12))) (.var 7)) (.int 168)) (.var 11)) (.one 12) (.it1 .seq (.var 6)) (.bl true) [12]))))))
theorem call_holds {M : Mem} {E0 : EK} {Q : D → Mem → Prop} {s : Sgn} {p h : Int} (o : s.days.length ≤ 7) : (PM.call F_holds [s.d, .int p, .int h]).run M Q E0 = Q (.bl (s.holds p h)) M := call_tyE inj_g (s, p, h) rfl rfl o
theorem ok_holds : BodyOk 13 b_holds F_holds := by
  refine body_ty inj_g ?_
  rintro ⟨s, p, h⟩ M o
  have o : s.days.length ≤ 7 := o
  generalize hr : (D.bl (s.holds p h)) = r
  simp [b_holds, enG, Sgn.d, w_comp]
  have hl : s.days.length ≤ 16777216 := by omega
  by_cases c1 : s.start ≤ p
  · by_cases c2 : p < s.stop
    · rw [if_pos c1, if_pos c2]
      split
      all_goals
        rename_i c3
        refine ⟨hl, comp_ty (fun day => some (.bl (decide ((h - 24 * day - s.first) % 168 < s.len)))) (fun x hx Q hq => ?_) ?_⟩
        · simp
          simpa [Sgn.len, c3] using hq
        · rw [fm_map, blsF_map]
          simp only [run_some]
          refine ⟨trivial, ?_⟩
          rw [← hr]
          simp [Sgn.holds, Sgn.on, c1, c2, List.any_map]
    · rw [if_pos c1, if_neg c2, ← hr]
      simp [Sgn.holds, c2]
  · rw [if_neg c1, ← hr]
    simp [Sgn.holds, c1]

/-! ### find_holding, find_counting -/
abbrev enH (q : Strt × Int × Int) : List D := [q.1.d, .int q.2.1, .int q.2.2]
theorem inj_h : ∀ x y : Strt × Int × Int, enH x = enH y → x = y := fun ⟨a, b, c⟩ ⟨d, e, f⟩ h => by
  simp only [enH, List.cons.injEq, D.int.injEq, and_true] at h
  obtain ⟨h1, rfl, rfl⟩ := h
  rw [strt_inj h1]
/-- what is needed of a street to ask it -/
def Strt.Ask (t : Strt) : Prop := t.sgns.length ≤ 6 ∧ ∀ s ∈ t.sgns, s.days.length ≤ 7 ∧ wordOk s.word s.value = true
theorem Strt.Is.ask {t : Strt} (h : t.Is) : t.Ask := ⟨h.few, fun s hs => ⟨(Sgn.ok_is (h.all s hs)).dl, (Sgn.ok_is (h.all s hs)).w⟩⟩
def nats (l : List Nat) : D := .lst (l.map fun (k : Nat) => D.int k)
def Strt.hold (t : Strt) (p h : Int) : List Nat := (t.sgns.zipIdx.filter fun q => q.1.holds p h).map (·.2)
theorem enum_map : ∀ (k : Nat) (l : List Sgn), enumD k (l.map Sgn.d) = (l.zipIdx k).map fun q => .tup [.int (q.2 : Nat), q.1.d]
  | _, [] => rfl
  | k, s :: r => by
    rw [List.map_cons, enumD, enum_map (k + 1) r, List.zipIdx_cons, List.map_cons]
theorem fm_if {α β : Type} (c : α → Bool) (f : α → β) : ∀ l : List α, (l.filterMap fun x => if c x = true then some (f x) else none) = (l.filter c).map f
  | [] => rfl
  | x :: r => by
    rw [List.filterMap_cons, List.filter_cons]
    cases h : c x with
    | true => simp [fm_if c f r]
    | false => simp [fm_if c f r]
def F_find_holding : FS := tyF 3 enH (fun q _ => q.1.Ask) fun q => nats (q.1.hold q.2.1 q.2.2)
def b_find_holding : S := (.ret (.comp (.var 3) (.many [3, 4]) (.it1 .enum (.ix (.var 0) (.int 1))) (.call "holds" F_holds (.cons (.var 4) (.cons (.var 1) (.cons (.var 2) .nil)))) [3, 4]))
theorem call_find_holding {M : Mem} {E0 : EK} {Q : D → Mem → Prop} {t : Strt} {p h : Int} (o : t.Ask) : (PM.call F_find_holding [t.d, .int p, .int h]).run M Q E0 = Q (nats (t.hold p h)) M := call_tyE inj_h (t, p, h) rfl rfl o
theorem ok_find_holding : BodyOk 5 b_find_holding F_find_holding := by
  refine body_ty inj_h ?_
  rintro ⟨t, p, h⟩ M o
  have o : t.Ask := o
  have few := o.1
  simp [b_find_holding, enH, Strt.d, w_comp]
  rw [enum_map]
  refine ⟨by simp; omega, comp_ty (fun q => if q.1.holds p h = true then some (.int (q.2 : Nat)) else none) (fun q hq Q k => ?_) ?_⟩
  · have ms : q.1 ∈ t.sgns := by
      obtain ⟨a, b⟩ := q
      exact (List.mem_zipIdx hq).2.2 ▸ List.getElem_mem _
    simp [call_holds (o.2 q.1 ms).1]
    cases c : q.1.holds p h with
    | true => simpa [c] using k
    | false => simpa [c] using k
  · refine ⟨rfl, ?_⟩
    rw [fm_if (fun q : Sgn × Nat => q.1.holds p h) fun q => D.int (q.2 : Nat)]
    show _ = nats _
    unfold nats Strt.hold
    rw [List.map_map]
    rfl
def Strt.at (t : Strt) (k : Nat) : Sgn := t.sgns.getD k default
theorem Strt.at_d {t : Strt} {k : Nat} (h : k < t.sgns.length) : (t.sgns.map Sgn.d)[k]? = some (t.at k).d := by
  rw [List.getElem?_map, List.getElem?_eq_getElem h]
  unfold Strt.at
  rw [List.getD_eq_getElem?_getD, List.getElem?_eq_getElem h]
  rfl
theorem hold_lt {t : Strt} {p h : Int} {k : Nat} (hk : k ∈ t.hold p h) : k < t.sgns.length := by
  unfold Strt.hold at hk
  obtain ⟨⟨s, k'⟩, h1, rfl⟩ := List.mem_map.mp hk
  have := (List.mem_zipIdx (List.mem_filter.mp h1).1)
  simpa using this.2.1
theorem ints_map {α : Type} (f : α → Int) : ∀ l : List α, intsF (l.map fun x => D.int (f x)) = some (l.map f)
  | [] => rfl
  | x :: r => by
    show (intsF (r.map fun x => D.int (f x))).map (f x :: ·) = _
    rw [ints_map f r]
    rfl
def Strt.top (t : Strt) (p h : Int) : Int := maxL ((t.hold p h).map (fun k => (t.at k).rank) ++ [-1])
def Strt.count (t : Strt) (p h : Int) : List Nat := (t.hold p h).filter fun k => decide ((t.at k).rank = t.top p h)
theorem ints_app : ∀ {a b : List D} {ns ms : List Int}, intsF a = some ns → intsF b = some ms → intsF (a ++ b) = some (ns ++ ms)
  | [], b, ns, ms, h1, h2 => by cases h1; exact h2
  | .int i :: r, b, ns, ms, h1, h2 => by
    cases e : intsF r with
    | none => rw [intsF, e] at h1; cases h1
    | some l =>
      rw [intsF, e] at h1
      cases h1
      show (intsF (r ++ b)).map (i :: ·) = _
      rw [ints_app e h2]
      rfl
  | .non :: _, _, _, _, h, _ => by cases h
  | .bl _ :: _, _, _, _, h, _ => by cases h
  | .str _ :: _, _, _, _, h, _ => by cases h
  | .tup _ :: _, _, _, _, h, _ => by cases h
  | .lst _ :: _, _, _, _, h, _ => by cases h
  | .cell _ :: _, _, _, _, h, _ => by cases h
  | .scr _ :: _, _, _, _, h, _ => by cases h
def F_find_counting : FS := tyF 3 enH (fun q _ => q.1.Ask) fun q => nats (q.1.count q.2.1 q.2.2)
def b_find_counting : S := (.seq (.set 3 (.call "find_holding" F_find_holding (.cons (.var 0) (.cons (.var 1) (.cons (.var 2) .nil)))))
  (.seq (.set 4 (.b1 .max (.bin .add (.comp (.ix (.ix (.ix (.var 0) (.int 1)) (.var 5)) (.int 0)) (.one 5) (.it1 .seq (.var 3)) (.bl true) [5]) (.lst (.cons (.neg (.int 1)) .nil)))))
  (.ret (.comp (.var 5) (.one 5) (.it1 .seq (.var 3)) (.cmp .eq (.ix (.ix (.ix (.var 0) (.int 1)) (.var 5)) (.int 0)) (.var 4)) [5]))))
theorem call_find_counting {M : Mem} {E0 : EK} {Q : D → Mem → Prop} {t : Strt} {p h : Int} (o : t.Ask) : (PM.call F_find_counting [t.d, .int p, .int h]).run M Q E0 = Q (nats (t.count p h)) M := call_tyE inj_h (t, p, h) rfl rfl o
theorem hold_len (t : Strt) (p h : Int) : (t.hold p h).length ≤ t.sgns.length := by
  unfold Strt.hold
  rw [List.length_map]
  have := List.length_filter_le (fun q : Sgn × Nat => q.1.holds p h) t.sgns.zipIdx
  rwa [List.length_zipIdx] at this
theorem ok_find_counting : BodyOk 6 b_find_counting F_find_counting := by
  refine body_ty inj_h ?_
  rintro ⟨t, p, h⟩ M o
  have o : t.Ask := o
  have few := o.1
  have hl := hold_len t p h
  simp [b_find_counting, enH, call_find_holding o]
  simp [nats, w_comp, Strt.d]
  refine ⟨by omega, comp_ty (fun (k : Nat) => some (.int (t.at k).rank)) (fun k hk Q q => ?_) ?_⟩
  · simp [at_nat, t.at_d (hold_lt hk)]
    simpa [Sgn.d] using q
  · rw [fm_map]
    simp
    refine ⟨by omega, ?_⟩
    rw [ints_app (ints_map _ _) (show intsF [D.int (-1)] = some [-1] from rfl)]
    simp
    refine ⟨by omega, comp_ty (fun (k : Nat) => if decide ((t.at k).rank = t.top p h) = true then some (.int (k : Nat)) else none) (fun k hk Q q => ?_) ?_⟩
    · simp [at_nat, t.at_d (hold_lt hk)]
      have e : ∀ z, (t.at k).d = .tup z → z[0]? = some (.int (t.at k).rank) := fun z e => by
        cases e
        rfl
      simp [Sgn.d]
      show if (t.at k).rank = t.top p h then Q (some (D.int ↑k)) M else Q none M
      by_cases c : (t.at k).rank = t.top p h
      · rw [if_pos c]
        simpa [c] using q
      · rw [if_neg c]
        simpa [c] using q
    · rw [fm_if]
      exact ⟨rfl, rfl⟩

/-! ### what is asked of arguments, in its order -/
def gR : List (Bool × Nat) → Except Nat D → Except Nat D
  | [], x => x
  | (b, k) :: r, x => if b = true then gR r x else .error k
theorem gR_key : ∀ {gs : List (Bool × Nat)} {x : Except Nat D} {k : Nat}, gR gs x = .error k → k ∈ gs.map (·.2) ∨ x = .error k
  | [], _, _, h => .inr h
  | (b, j) :: r, d, k, h => by
    cases b with
    | true => exact (gR_key (gs := r) h).imp (List.mem_cons_of_mem _) id
    | false => cases h; exact .inl (by simp)
theorem gR_all : ∀ {gs : List (Bool × Nat)}, (∀ g ∈ gs, g.1 = true) → ∀ x, gR gs x = x
  | [], _, _ => rfl
  | (b, j) :: r, h, x => by
    have e : b = true := h (b, j) (by simp)
    subst e
    exact gR_all (gs := r) (fun g hg => h g (List.mem_cons_of_mem _ hg)) x
theorem gR_or : ∀ gs : List (Bool × Nat), (∃ k, ∀ x, gR gs x = .error k) ∨ ∀ g ∈ gs, g.1 = true
  | [] => .inr fun _ h => nomatch h
  | (b, j) :: r => by
    cases b with
    | false => exact .inl ⟨j, fun _ => rfl⟩
    | true =>
      rcases gR_or r with ⟨k, h⟩ | h
      · exact .inl ⟨k, h⟩
      · exact .inr fun g hg => by
          rcases List.mem_cons.mp hg with rfl | hg
          · rfl
          · exact h g hg
def streetG (a : D) : List (Bool × Nat) := [(isStreetD a, 0)]
def hourG (c : D) : List (Bool × Nat) := [(isIntD 0 167 c, 3)]
def hoursG (c : D) : List (Bool × Nat) := [(isIntD 1 168 c, 4)]
def spotG (a b c : D) : List (Bool × Nat) := [(isStreetD a, 0), (isIntD 0 ((unT a).places - 1) b, 2), (isIntD 0 167 c, 3)]
def carG (a k b : D) : List (Bool × Nat) := [(isStreetD a, 0), (isIntD 0 2 k, 1), (isIntD 0 ((unT a).places - 1) b, 2)]
def searchG (a k c : D) : List (Bool × Nat) := [(isStreetD a, 0), (isIntD 0 2 k, 1), (isIntD 0 167 c, 3)]
theorem street_cases {a : D} : (∃ k, ∀ x, gR (streetG a) x = .error k) ∨ ∃ t : Strt, a = t.d ∧ t.Is ∧ ∀ x, gR (streetG a) x = x := by
  rcases gR_or (streetG a) with h | h
  · exact .inl h
  · have h0 := h
    simp [streetG] at h
    obtain ⟨t, rfl, o⟩ := street_of h
    exact .inr ⟨t, rfl, t.ok_iff.mp o, gR_all h0⟩
theorem hour_cases {c : D} : (∃ k, ∀ x, gR (hourG c) x = .error k) ∨ ∃ h : Int, c = .int h ∧ 0 ≤ h ∧ h ≤ 167 ∧ ∀ x, gR (hourG c) x = x := by
  rcases gR_or (hourG c) with h | h
  · exact .inl h
  · have h0 := h
    simp [hourG] at h
    obtain ⟨p, rfl, p0, p1⟩ := isInt_ex h
    exact .inr ⟨p, rfl, p0, p1, gR_all h0⟩
theorem hours_cases {c : D} : (∃ k, ∀ x, gR (hoursG c) x = .error k) ∨ ∃ h : Int, c = .int h ∧ 1 ≤ h ∧ h ≤ 168 ∧ ∀ x, gR (hoursG c) x = x := by
  rcases gR_or (hoursG c) with h | h
  · exact .inl h
  · have h0 := h
    simp [hoursG] at h
    obtain ⟨p, rfl, p0, p1⟩ := isInt_ex h
    exact .inr ⟨p, rfl, p0, p1, gR_all h0⟩
theorem spot_cases {a b c : D} : (∃ k, ∀ x, gR (spotG a b c) x = .error k) ∨ ∃ (t : Strt) (p h : Int), a = t.d ∧ b = .int p ∧ c = .int h ∧ t.Is ∧ (0 ≤ p ∧ p ≤ t.places - 1) ∧ (0 ≤ h ∧ h ≤ 167) ∧ ∀ x, gR (spotG a b c) x = x := by
  rcases gR_or (spotG a b c) with h | h
  · exact .inl h
  · have h0 := h
    simp [spotG] at h
    obtain ⟨h1, h2, h3⟩ := h
    obtain ⟨t, rfl, o⟩ := street_of h1
    rw [unT_d] at h2
    obtain ⟨p, rfl, p0, p1⟩ := isInt_ex h2
    obtain ⟨h, rfl, q0, q1⟩ := isInt_ex h3
    exact .inr ⟨t, p, h, rfl, rfl, rfl, t.ok_iff.mp o, ⟨p0, p1⟩, ⟨q0, q1⟩, gR_all h0⟩
theorem car_cases {a k b : D} : (∃ j, ∀ x, gR (carG a k b) x = .error j) ∨ ∃ (t : Strt) (kd p : Int), a = t.d ∧ k = .int kd ∧ b = .int p ∧ t.Is ∧ (0 ≤ kd ∧ kd ≤ 2) ∧ (0 ≤ p ∧ p ≤ t.places - 1) ∧ ∀ x, gR (carG a k b) x = x := by
  rcases gR_or (carG a k b) with h | h
  · exact .inl h
  · have h0 := h
    simp [carG] at h
    obtain ⟨h1, h2, h3⟩ := h
    obtain ⟨t, rfl, o⟩ := street_of h1
    rw [unT_d] at h3
    obtain ⟨kd, rfl, p0, p1⟩ := isInt_ex h2
    obtain ⟨p, rfl, q0, q1⟩ := isInt_ex h3
    exact .inr ⟨t, kd, p, rfl, rfl, rfl, t.ok_iff.mp o, ⟨p0, p1⟩, ⟨q0, q1⟩, gR_all h0⟩
theorem search_cases {a k c : D} : (∃ j, ∀ x, gR (searchG a k c) x = .error j) ∨ ∃ (t : Strt) (kd h : Int), a = t.d ∧ k = .int kd ∧ c = .int h ∧ t.Is ∧ (0 ≤ kd ∧ kd ≤ 2) ∧ (0 ≤ h ∧ h ≤ 167) ∧ ∀ x, gR (searchG a k c) x = x := by
  rcases gR_or (searchG a k c) with h | h
  · exact .inl h
  · have h0 := h
    simp [searchG] at h
    obtain ⟨h1, h2, h3⟩ := h
    obtain ⟨t, rfl, o⟩ := street_of h1
    obtain ⟨kd, rfl, p0, p1⟩ := isInt_ex h2
    obtain ⟨h, rfl, q0, q1⟩ := isInt_ex h3
    exact .inr ⟨t, kd, h, rfl, rfl, rfl, t.ok_iff.mp o, ⟨p0, p1⟩, ⟨q0, q1⟩, gR_all h0⟩
/-! ### a place and an hour of a street -/
structure Strt.Spot (t : Strt) (p h : Int) : Prop where
  is : t.Is
  p0 : 0 ≤ p
  p1 : p ≤ t.places - 1
  h0 : 0 ≤ h
  h1 : h ≤ 167
theorem Strt.Is.okD {t : Strt} (h : t.Is) : isStreetD t.d = true := t.ok_iff.mpr h
theorem Strt.Spot.first {t : Strt} {p h : Int} (o : t.Spot p h) (x : Except Nat D) : gR (spotG t.d (.int p) (.int h)) x = x := gR_all (by
  have := o.is.okD
  have := o.p0
  have := o.p1
  have := o.h0
  have := o.h1
  intro g hg
  simp only [spotG, unT_d, List.mem_cons, List.not_mem_nil, or_false] at hg
  rcases hg with rfl | rfl | rfl
  · assumption
  · simp [isIntD]; omega
  · simp [isIntD]; omega) x
theorem car_first {t : Strt} {k p : Int} (o : t.Is) (k0 : 0 ≤ k) (k2 : k ≤ 2) (p0 : 0 ≤ p) (p1 : p ≤ t.places - 1) (x : Except Nat D) : gR (carG t.d (.int k) (.int p)) x = x := gR_all (by
  have := o.okD
  intro g hg
  simp only [carG, unT_d, List.mem_cons, List.not_mem_nil, or_false] at hg
  rcases hg with rfl | rfl | rfl
  · assumption
  · simp [isIntD]; omega
  · simp [isIntD]; omega) x
theorem search_first {t : Strt} {k h : Int} (o : t.Is) (k0 : 0 ≤ k) (k2 : k ≤ 2) (p0 : 0 ≤ h) (p1 : h ≤ 167) (x : Except Nat D) : gR (searchG t.d (.int k) (.int h)) x = x := gR_all (by
  have := o.okD
  intro g hg
  simp only [searchG, List.mem_cons, List.not_mem_nil, or_false] at hg
  rcases hg with rfl | rfl | rfl
  · assumption
  · simp [isIntD]; omega
  · simp [isIntD]; omega) x
theorem hour_first {h : Int} (p0 : 0 ≤ h) (p1 : h ≤ 167) (x : Except Nat D) : gR (hourG (.int h)) x = x := gR_all (by simp [hourG, isIntD]; omega) x
theorem hours_first {h : Int} (p0 : 1 ≤ h) (p1 : h ≤ 168) (x : Except Nat D) : gR (hoursG (.int h)) x = x := gR_all (by simp [hoursG, isIntD]; omega) x
theorem street_first {t : Strt} (o : t.Is) (x : Except Nat D) : gR (streetG t.d) x = x := gR_all (by
  have := o.okD
  simpa [streetG]) x
/-! ### require_spot, holding, counting -/
abbrev en3 (q : D × D × D) : List D := [q.1, q.2.1, q.2.2]
theorem inj_3 : ∀ x y : D × D × D, en3 x = en3 y → x = y := fun ⟨a, b, c⟩ ⟨d, e, f⟩ h => by simpa [en3] using h
def pre3 (q : D × D × D) (_ : Mem) : Prop := plainD q.1 = true ∧ plain0 q.2.1 = true ∧ plain0 q.2.2 = true
abbrev en4 (q : D × D × D × D) : List D := [q.1, q.2.1, q.2.2.1, q.2.2.2]
theorem inj_4 : ∀ x y : D × D × D × D, en4 x = en4 y → x = y := fun ⟨a, b, c, g⟩ ⟨d, e, f, h⟩ z => by simpa [en4] using z
def pre4 (q : D × D × D × D) (_ : Mem) : Prop := plainD q.1 = true ∧ plain0 q.2.1 = true ∧ plain0 q.2.2.1 = true ∧ plain0 q.2.2.2 = true
abbrev en5 (q : D × D × D × D × D) : List D := [q.1, q.2.1, q.2.2.1, q.2.2.2.1, q.2.2.2.2]
theorem inj_5 : ∀ x y : D × D × D × D × D, en5 x = en5 y → x = y := fun ⟨a, b, c, g, k⟩ ⟨d, e, f, h, l⟩ z => by simpa [en5] using z
def pre5 (q : D × D × D × D × D) (_ : Mem) : Prop := plainD q.1 = true ∧ plain0 q.2.1 = true ∧ plain0 q.2.2.1 = true ∧ plain0 q.2.2.2.1 = true ∧ plain0 q.2.2.2.2 = true
@[simp] theorem outR_ite {c : Prop} [Decidable c] {a b : Except Nat D} {Q : D → Mem → Prop} {E : EK} {M : Mem} : outR (if c then a else b) Q E M = if c then outR a Q E M else outR b Q E M := by split <;> rfl
def F_require_spot : FS := txF 3 en3 pre3 fun q => gR (spotG q.1 q.2.1 q.2.2) (.ok .non)
def b_require_spot : S := (.seq (.ex (.call "require_street" F_require_street (.cons (.var 0) .nil)))
  (.seq (.ex (.call "require_place" F_require_place (.cons (.var 0) (.cons (.var 1) .nil))))
  (.ex (.call "require_hour" F_require_hour (.cons (.var 2) .nil)))))
theorem call_require_spot {M : Mem} {E0 : EK} {Q : D → Mem → Prop} {a b c : D} (h1 : plainD a = true) (h2 : plain0 b = true) (h3 : plain0 c = true) : (PM.call F_require_spot [a, b, c]).run M Q E0 = outR (gR (spotG a b c) (.ok .non)) Q E0 M := call_txE inj_3 (a, b, c) rfl rfl ⟨h1, h2, h3⟩
theorem ok_require_spot : BodyOk 3 b_require_spot F_require_spot := by
  refine body_tx inj_3 ?_
  rintro ⟨a, b, c⟩ M ⟨h1, h2, h3⟩
  have h1 : plainD a = true := h1
  have h2 : plain0 b = true := h2
  have h3 : plain0 c = true := h3
  show (wpS b_require_spot).run [.val a, .val b, .val c] M _
  simp [b_require_spot, call_require_street h1, spotG, gR]
  cases k : isStreetD a with
  | false => simp
  | true =>
    obtain ⟨t, rfl, _⟩ := street_of k
    simp [unT_d, call_require_place h2]
    cases isIntD 0 (t.places - 1) b with
    | false => simp
    | true =>
      simp [call_require_hour h3]
def F_holding : FS := txF 3 en3 pre3 fun q => gR (spotG q.1 q.2.1 q.2.2) (.ok (nats ((unT q.1).hold (unI q.2.1) (unI q.2.2))))
def b_holding : S := (.seq (.ex (.call "require_spot" F_require_spot (.cons (.var 0) (.cons (.var 1) (.cons (.var 2) .nil)))))
  (.ret (.call "find_holding" F_find_holding (.cons (.var 0) (.cons (.var 1) (.cons (.var 2) .nil))))))
theorem call_holding {M : Mem} {E0 : EK} {Q : D → Mem → Prop} {a b c : D} (h1 : plainD a = true) (h2 : plain0 b = true) (h3 : plain0 c = true) : (PM.call F_holding [a, b, c]).run M Q E0 = outR (gR (spotG a b c) (.ok (nats ((unT a).hold (unI b) (unI c))))) Q E0 M := call_txE inj_3 (a, b, c) rfl rfl ⟨h1, h2, h3⟩
theorem go_holding {M : Mem} {E0 : EK} {Q : D → Mem → Prop} {t : Strt} {p h : Int} (o : t.Spot p h) : (PM.call F_holding [t.d, .int p, .int h]).run M Q E0 = Q (nats (t.hold p h)) M := by
  rw [call_holding (plain_strt t) rfl rfl, o.first, unT_d]
  try rfl
theorem ok_holding : BodyOk 3 b_holding F_holding := by
  refine body_tx inj_3 ?_
  rintro ⟨a, b, c⟩ M ⟨h1, h2, h3⟩
  have h1 : plainD a = true := h1
  have h2 : plain0 b = true := h2
  have h3 : plain0 c = true := h3
  show (wpS b_holding).run [.val a, .val b, .val c] M _
  simp [b_holding, call_require_spot h1 h2 h3]
  rcases spot_cases (a := a) (b := b) (c := c) with ⟨k, e⟩ | ⟨t, p, h, rfl, rfl, rfl, o, _, _, e⟩
  · simp [e]
  · simp [e, call_find_holding o.ask, unT_d, unI]
def F_counting : FS := txF 3 en3 pre3 fun q => gR (spotG q.1 q.2.1 q.2.2) (.ok (nats ((unT q.1).count (unI q.2.1) (unI q.2.2))))
def b_counting : S := (.seq (.ex (.call "require_spot" F_require_spot (.cons (.var 0) (.cons (.var 1) (.cons (.var 2) .nil)))))
  (.ret (.call "find_counting" F_find_counting (.cons (.var 0) (.cons (.var 1) (.cons (.var 2) .nil))))))
theorem call_counting {M : Mem} {E0 : EK} {Q : D → Mem → Prop} {a b c : D} (h1 : plainD a = true) (h2 : plain0 b = true) (h3 : plain0 c = true) : (PM.call F_counting [a, b, c]).run M Q E0 = outR (gR (spotG a b c) (.ok (nats ((unT a).count (unI b) (unI c))))) Q E0 M := call_txE inj_3 (a, b, c) rfl rfl ⟨h1, h2, h3⟩
theorem go_counting {M : Mem} {E0 : EK} {Q : D → Mem → Prop} {t : Strt} {p h : Int} (o : t.Spot p h) : (PM.call F_counting [t.d, .int p, .int h]).run M Q E0 = Q (nats (t.count p h)) M := by
  rw [call_counting (plain_strt t) rfl rfl, o.first, unT_d]
  try rfl
theorem ok_counting : BodyOk 3 b_counting F_counting := by
  refine body_tx inj_3 ?_
  rintro ⟨a, b, c⟩ M ⟨h1, h2, h3⟩
  have h1 : plainD a = true := h1
  have h2 : plain0 b = true := h2
  have h3 : plain0 c = true := h3
  show (wpS b_counting).run [.val a, .val b, .val c] M _
  simp [b_counting, call_require_spot h1 h2 h3]
  rcases spot_cases (a := a) (b := b) (c := c) with ⟨k, e⟩ | ⟨t, p, h, rfl, rfl, rfl, o, _, _, e⟩
  · simp [e]
  · simp [e, call_find_counting o.ask, unT_d, unI]
/-! ### kinds, limit -/
def F_require_kind : FS := txF 1 (fun (d : D) => [d]) (fun d _ => plain0 d = true) fun d => if isIntD 0 2 d = true then .ok .non else .error 1
def b_require_kind : S := (.iff (.not (.call "is_integer" F_is_integer (.cons (.var 0) (.cons (.int 0) (.cons (.int 2) .nil)))))
  (.rse 1)
  .nop)
theorem call_require_kind {M : Mem} {E0 : EK} {Q : D → Mem → Prop} {d : D} (h : plain0 d = true) : (PM.call F_require_kind [d]).run M Q E0 = outR (if isIntD 0 2 d = true then .ok .non else .error 1) Q E0 M := call_txE inj_1 d rfl rfl h
theorem ok_require_kind : BodyOk 1 b_require_kind F_require_kind := by
  refine body_tx inj_1 ?_
  intro d M h1
  simp [b_require_kind, call_is_integer h1]
abbrev Wd := Str × Int
def Wd.d (q : Wd) : D := .tup [.str q.1, .int q.2]
def wds (l : List Wd) : D := .lst (l.map Wd.d)
def Strt.words (t : Strt) (p h : Int) : List Wd := (t.count p h).map fun k => ((t.at k).word, (t.at k).value)
theorem count_hold {t : Strt} {p h : Int} {k : Nat} (hk : k ∈ t.count p h) : k ∈ t.hold p h := (List.mem_filter.mp hk).1
theorem count_len (t : Strt) (p h : Int) : (t.count p h).length ≤ t.sgns.length := Nat.le_trans (List.length_filter_le _ _) (hold_len t p h)
theorem at_mem {t : Strt} {k : Nat} (h : k < t.sgns.length) : t.at k ∈ t.sgns := by
  unfold Strt.at
  rw [List.getD_eq_getElem?_getD, List.getElem?_eq_getElem h]
  exact List.getElem_mem h
def F_words_at : FS := tyF 3 enH (fun q _ => q.1.Ask) fun q => wds (q.1.words q.2.1 q.2.2)
def b_words_at : S := (.ret (.comp (.cut true false (.ix (.ix (.var 0) (.int 1)) (.var 3)) (.int 6) .non) (.one 3) (.it1 .seq (.call "find_counting" F_find_counting (.cons (.var 0) (.cons (.var 1) (.cons (.var 2) .nil))))) (.bl true) [3]))
theorem call_words_at {M : Mem} {E0 : EK} {Q : D → Mem → Prop} {t : Strt} {p h : Int} (o : t.Ask) : (PM.call F_words_at [t.d, .int p, .int h]).run M Q E0 = Q (wds (t.words p h)) M := call_tyE inj_h (t, p, h) rfl rfl o
theorem cut_6 (ds : List D) : cutD ds (some 6) none = ds.drop 6 := cut_nat ds 6
theorem ok_words_at : BodyOk 4 b_words_at F_words_at := by
  refine body_ty inj_h ?_
  rintro ⟨t, p, h⟩ M o
  have o : t.Ask := o
  have few := o.1
  have hl := count_len t p h
  simp [b_words_at, enH, w_comp, call_find_counting o]
  simp [nats, Strt.d]
  refine ⟨by omega, comp_ty (fun (k : Nat) => some (Wd.d ((t.at k).word, (t.at k).value))) (fun k hk Q q => ?_) ?_⟩
  · simp [at_nat, t.at_d (hold_lt (count_hold hk))]
    simpa [Sgn.d, Wd.d, cut_6] using q
  · rw [fm_map]
    refine ⟨rfl, ?_⟩
    show _ = wds _
    unfold wds Strt.words
    rw [List.map_map]
    rfl
theorem words_four {t : Strt} {p h : Int} (o : t.Ask) : ∀ q ∈ t.words p h, wordOk q.1 q.2 = true := fun q hq => by
  obtain ⟨k, hk, rfl⟩ := List.mem_map.mp hq
  exact (o.2 _ (at_mem (hold_lt (count_hold hk)))).2
theorem words_len (t : Strt) (p h : Int) : (t.words p h).length ≤ t.sgns.length := by
  unfold Strt.words
  rw [List.length_map]
  exact count_len t p h
def kindsOf (ws : List Wd) : List Int := if ws.any (fun q => decide (q.1 = "none" ∧ q.2 = 0)) = true then [] else [0, 1, 2].filter fun k => ws.all fun q => decide (q.1 ≠ "only") || decide (q.2 = k)
def Strt.kinds (t : Strt) (p h : Int) : List Int := kindsOf (t.words p h)
def iL (l : List Int) : D := .lst (l.map .int)
theorem strOk4 : PyData.strOk "only" = true ∧ PyData.strOk "limit" = true ∧ PyData.strOk "none" = true ∧ PyData.strOk "free" = true := by decide +kernel
theorem sh_word {q : Wd} (h : wordOk q.1 q.2 = true) (n : Nat) : shN (n + 1) q.d := by
  obtain ⟨w, v⟩ := q
  have s : PyData.strOk w = true := by
    rcases word_four h with rfl | rfl | rfl | rfl
    · exact strOk4.1
    · exact strOk4.2.1
    · exact strOk4.2.2.1
    · exact strOk4.2.2.2
  intro x hx
  simp at hx
  rcases hx with rfl | rfl
  · cases n <;> exact s
  · cases n <;> trivial
theorem py_word (q : Wd) (w : Str) (v : Int) : pyEq q.d (.tup [.str w, .int v]) = decide (q.1 = w ∧ q.2 = v) := by
  obtain ⟨a, b⟩ := q
  show (PyData.eqv (.str a) (.str w) && (PyData.eqv (.int b) (.int v) && true)) = _
  show ((a == w) && ((b == v) && true)) = _
  by_cases h1 : a = w <;> by_cases h2 : b = v <;> simp [h1, h2]
theorem inD_word (w : Str) (v : Int) : ∀ l : List Wd, inD (.tup [.str w, .int v]) (l.map Wd.d) = l.any fun q => decide (q.1 = w ∧ q.2 = v)
  | [] => rfl
  | q :: r => by rw [List.map_cons, inD_cons, inD_word w v r, py_word, List.any_cons]
def F_find_kinds : FS := tyF 3 enH (fun q _ => q.1.Ask) fun q => iL (q.1.kinds q.2.1 q.2.2)
def b_find_kinds : S := (.seq (.set 3 (.call "words_at" F_words_at (.cons (.var 0) (.cons (.var 1) (.cons (.var 2) .nil)))))
  (.seq (.iff (.cmp .isin (.tup (.cons (.str "none") (.cons (.int 0) .nil))) (.var 3))
  (.ret (.lst .nil))
  .nop)
  (.ret (.comp (.var 4) (.one 4) (.it1 .range (.int 3)) (.b1 .all (.comp (.or (.cmp .ne (.var 5) (.str "only")) (.cmp .eq (.var 6) (.var 4))) (.many [5, 6]) (.it1 .seq (.var 3)) (.bl true) [5, 6])) [4]))))
theorem call_find_kinds {M : Mem} {E0 : EK} {Q : D → Mem → Prop} {t : Strt} {p h : Int} (o : t.Ask) : (PM.call F_find_kinds [t.d, .int p, .int h]).run M Q E0 = Q (iL (t.kinds p h)) M := call_tyE inj_h (t, p, h) rfl rfl o
theorem false_mem {α : Type} {l : List α} {f : α → Bool} : (false ∈ l.map f) = ¬ (l.all f = true) := by
  rw [List.all_eq_true]
  refine propext ⟨fun h z => ?_, fun h => ?_⟩
  · obtain ⟨x, hx, e⟩ := List.mem_map.mp h
    rw [z x hx] at e
    cases e
  · refine Classical.byContradiction fun n => h fun x hx => ?_
    cases e : f x with
    | true => rfl
    | false => exact absurd (List.mem_map.mpr ⟨x, hx, e⟩) n
theorem range3 : rangeD 0 3 = ([0, 1, 2] : List Int).map .int := by rfl
theorem ok_find_kinds : BodyOk 7 b_find_kinds F_find_kinds := by
  refine body_ty inj_h ?_
  rintro ⟨t, p, h⟩ M o
  have o : t.Ask := o
  have few := o.1
  have hl := words_len t p h
  have hw := words_four (p := p) (h := h) o
  have io : inOk (.tup [.str "none", .int 0]) ((t.words p h).map Wd.d) := .inr ⟨sh_word (q := ("none", 0)) (by decide +kernel) 59, fun y hy => by
    obtain ⟨q, hq, rfl⟩ := List.mem_map.mp hy
    exact sh_word (hw q hq) 59⟩
  generalize hr : iL (t.kinds p h) = r
  unfold Strt.kinds kindsOf at hr
  simp [b_find_kinds, enH, w_comp, call_words_at o]
  simp only [wds, co_inL, inD_word, tr_bl]
  refine ⟨io, ?_⟩
  split
  · rename_i c
    rw [if_pos c] at hr
    exact ⟨trivial, hr⟩
  · rename_i c
    rw [if_neg c] at hr
    rw [range3]
    refine ⟨by decide, comp_ty (fun (k : Int) => if (t.words p h).all (fun q => decide (q.1 ≠ "only") || decide (q.2 = k)) = true then some (.int k) else none) (fun k hk Q q => ?_) ?_⟩
    · simp [w_comp]
      refine ⟨by omega, comp_ty (fun q => some (.bl (decide (q.1 ≠ "only") || decide (q.2 = k)))) (fun y hy Q q => ?_) ?_⟩
      · simp [Wd.d]
        by_cases c1 : y.1 = "only"
        · simp only [c1, not_true, if_false]
          simpa [c1] using q
        · simp only [c1, not_false_eq_true, if_true]
          simpa [c1] using q
      · rw [fm_map, blsF_map]
        simp only [run_some, false_mem]
        cases c2 : (t.words p h).all (fun q => decide (q.1 ≠ "only") || decide (q.2 = k)) with
        | true =>
          rw [c2] at q
          simpa using q
        | false =>
          rw [c2] at q
          simpa using q
    · rw [fm_if]
      exact ⟨rfl, hr⟩
def limOf (ws : List Wd) : List Int := (ws.filter fun (q : Wd) => decide (q.1 = ("limit" : Str))).map fun (q : Wd) => q.2
def optI : List Int → D | [] => .non | l => .int (minL l)
def Strt.lim (t : Strt) (p h : Int) : D := optI (limOf (t.words p h))
def F_find_limit : FS := tyF 3 enH (fun q _ => q.1.Ask) fun q => q.1.lim q.2.1 q.2.2
def b_find_limit : S := (.seq (.set 3 (.comp (.var 5) (.many [4, 5]) (.it1 .seq (.call "words_at" F_words_at (.cons (.var 0) (.cons (.var 1) (.cons (.var 2) .nil))))) (.cmp .eq (.var 4) (.str "limit")) [4, 5]))
  (.ret (.ite (.var 3) (.b1 .min (.var 3)) .non)))
theorem call_find_limit {M : Mem} {E0 : EK} {Q : D → Mem → Prop} {t : Strt} {p h : Int} (o : t.Ask) : (PM.call F_find_limit [t.d, .int p, .int h]).run M Q E0 = Q (t.lim p h) M := call_tyE inj_h (t, p, h) rfl rfl o
theorem ok_find_limit : BodyOk 6 b_find_limit F_find_limit := by
  refine body_ty inj_h ?_
  rintro ⟨t, p, h⟩ M o
  have o : t.Ask := o
  have few := o.1
  have hl := words_len t p h
  generalize hr : t.lim p h = r
  unfold Strt.lim at hr
  simp [b_find_limit, enH, w_comp, call_words_at o]
  simp only [wds, it_seqL, tup_run, List.length_map]
  refine ⟨by omega, comp_ty (fun (q : Wd) => if decide (q.1 = ("limit" : Str)) = true then some (.int q.2) else none) (fun y hy Q q => ?_) ?_⟩
  · simp [Wd.d]
    by_cases c1 : y.1 = "limit"
    · simpa [c1] using q
    · simpa [c1] using q
  · rw [fm_if]
    have e : ((t.words p h).filter fun (q : Wd) => decide (q.1 = ("limit" : Str))).map (fun q => D.int q.2) = (limOf (t.words p h)).map .int := by
      unfold limOf
      rw [List.map_map]
      rfl
    rw [e]
    simp only [tr_lst]
    cases c : limOf (t.words p h) with
    | nil =>
      rw [c] at hr
      simp only [List.map_nil, List.isEmpty_nil]
      exact ⟨trivial, hr⟩
    | cons a l =>
      rw [c] at hr
      have ei : intsF ((a :: l).map D.int) = some (a :: l) := by
        have := ints_map (fun x : Int => x) (a :: l)
        simpa using this
      simp only [b1_min, ei, run_some]
      exact ⟨by simp, trivial, hr⟩

def F_kinds_at : FS := txF 3 en3 pre3 fun q => gR (spotG q.1 q.2.1 q.2.2) (.ok (iL ((unT q.1).kinds (unI q.2.1) (unI q.2.2))))
def b_kinds_at : S := (.seq (.ex (.call "require_spot" F_require_spot (.cons (.var 0) (.cons (.var 1) (.cons (.var 2) .nil)))))
  (.ret (.call "find_kinds" F_find_kinds (.cons (.var 0) (.cons (.var 1) (.cons (.var 2) .nil))))))
theorem call_kinds_at {M : Mem} {E0 : EK} {Q : D → Mem → Prop} {a b c : D} (h1 : plainD a = true) (h2 : plain0 b = true) (h3 : plain0 c = true) : (PM.call F_kinds_at [a, b, c]).run M Q E0 = outR (gR (spotG a b c) (.ok (iL ((unT a).kinds (unI b) (unI c))))) Q E0 M := call_txE inj_3 (a, b, c) rfl rfl ⟨h1, h2, h3⟩
theorem go_kinds_at {M : Mem} {E0 : EK} {Q : D → Mem → Prop} {t : Strt} {p h : Int} (o : t.Spot p h) : (PM.call F_kinds_at [t.d, .int p, .int h]).run M Q E0 = Q (iL (t.kinds p h)) M := by
  rw [call_kinds_at (plain_strt t) rfl rfl, o.first, unT_d]
  try rfl
theorem ok_kinds_at : BodyOk 3 b_kinds_at F_kinds_at := by
  refine body_tx inj_3 ?_
  rintro ⟨a, b, c⟩ M ⟨h1, h2, h3⟩
  have h1 : plainD a = true := h1
  have h2 : plain0 b = true := h2
  have h3 : plain0 c = true := h3
  show (wpS b_kinds_at).run [.val a, .val b, .val c] M _
  simp [b_kinds_at, call_require_spot h1 h2 h3]
  rcases spot_cases (a := a) (b := b) (c := c) with ⟨k, e⟩ | ⟨t, p, h, rfl, rfl, rfl, o, _, _, e⟩
  · simp [e]
  · simp [e, call_find_kinds o.ask, unT_d, unI]
def F_limit : FS := txF 3 en3 pre3 fun q => gR (spotG q.1 q.2.1 q.2.2) (.ok ((unT q.1).lim (unI q.2.1) (unI q.2.2)))
def b_limit : S := (.seq (.ex (.call "require_spot" F_require_spot (.cons (.var 0) (.cons (.var 1) (.cons (.var 2) .nil)))))
  (.ret (.call "find_limit" F_find_limit (.cons (.var 0) (.cons (.var 1) (.cons (.var 2) .nil))))))
theorem call_limit {M : Mem} {E0 : EK} {Q : D → Mem → Prop} {a b c : D} (h1 : plainD a = true) (h2 : plain0 b = true) (h3 : plain0 c = true) : (PM.call F_limit [a, b, c]).run M Q E0 = outR (gR (spotG a b c) (.ok ((unT a).lim (unI b) (unI c)))) Q E0 M := call_txE inj_3 (a, b, c) rfl rfl ⟨h1, h2, h3⟩
theorem go_limit {M : Mem} {E0 : EK} {Q : D → Mem → Prop} {t : Strt} {p h : Int} (o : t.Spot p h) : (PM.call F_limit [t.d, .int p, .int h]).run M Q E0 = Q (t.lim p h) M := by
  rw [call_limit (plain_strt t) rfl rfl, o.first, unT_d]
  try rfl
theorem ok_limit : BodyOk 3 b_limit F_limit := by
  refine body_tx inj_3 ?_
  rintro ⟨a, b, c⟩ M ⟨h1, h2, h3⟩
  have h1 : plainD a = true := h1
  have h2 : plain0 b = true := h2
  have h3 : plain0 c = true := h3
  show (wpS b_limit).run [.val a, .val b, .val c] M _
  simp [b_limit, call_require_spot h1 h2 h3]
  rcases spot_cases (a := a) (b := b) (c := c) with ⟨k, e⟩ | ⟨t, p, h, rfl, rfl, rfl, o, _, _, e⟩
  · simp [e]
  · simp [e, call_find_limit o.ask, unT_d, unI]
theorem inD_int (k : Int) : ∀ l : List Int, inD (.int k) (l.map .int) = decide (k ∈ l)
  | [] => by simp
  | x :: r => by
    rw [List.map_cons, inD_cons, inD_int k r, pyEq_int]
    by_cases h1 : x = k <;> by_cases h2 : k ∈ r <;> simp [h1, h2, eq_comm]
    exact fun e => h1 e.symm
theorem inOk_int (k : Int) (l : List Int) : inOk (.int k) (l.map .int) := inOk_flat rfl (by simp [List.all_map]; exact fun _ _ => rfl)
section
variable {M : Mem} {E0 : EK} {Q : D → Mem → Prop} {k : Int} {l a b : List Int}
@[simp] theorem co_inI : (coP .isin (.int k) (iL l)).run M Q E0 = Q (.bl (decide (k ∈ l))) M := by
  unfold iL
  rw [co_inL, inD_int]
  exact propext ⟨fun h => h.2, fun h => ⟨inOk_int k l, h⟩⟩
@[simp] theorem co_niI : (coP .notin (.int k) (iL l)).run M Q E0 = Q (.bl (!decide (k ∈ l))) M := by
  unfold iL
  rw [co_niL, inD_int]
  exact propext ⟨fun h => h.2, fun h => ⟨inOk_int k l, h⟩⟩
theorem sh_int {i : Int} : ∀ n, shN n (.int i)
  | 0 => trivial
  | _ + 1 => trivial
theorem sh_iL (l : List Int) (n : Nat) : ∀ x ∈ l.map D.int, shN n x := fun x hx => by
  obtain ⟨i, _, rfl⟩ := List.mem_map.mp hx
  exact sh_int n
theorem eqv_ints : ∀ a b : List Int, PyData.eqvAll (toPys (a.map .int)) (toPys (b.map .int)) = decide (a = b)
  | [], [] => rfl
  | [], _ :: _ => by simp [toPys, PyData.eqvAll]
  | _ :: _, [] => by simp [toPys, PyData.eqvAll]
  | x :: r, y :: s => by
    show ((x == y) && PyData.eqvAll (toPys (r.map .int)) (toPys (s.map .int))) = _
    rw [eqv_ints r s]
    by_cases h1 : x = y <;> by_cases h2 : r = s <;> simp [h1, h2]
@[simp] theorem py_iL (a b : List Int) : pyEq (iL a) (iL b) = decide (a = b) := eqv_ints a b
@[simp] theorem ok_iL (a b : List Int) : eqOk (iL a) (iL b) := .inr ⟨sh_iL a 63, sh_iL b 63⟩
@[simp] theorem it_iL : (it1P .seq (iL l)).run M Q E0 = Q (.tup (l.map .int)) M := rfl
@[simp] theorem tr_iL {T : Bool → Mem → Prop} : (truP (iL l)).run M T E0 = T (!l.isEmpty) M := by
  unfold iL
  rw [tr_lst]
  cases l <;> rfl
@[simp] theorem nil_iL : D.lst [] = iL [] := rfl
theorem intsF_map : ∀ l : List Int, intsF (l.map D.int) = some l
  | [] => rfl
  | x :: r => by
    show (intsF (r.map D.int)).map (x :: ·) = _
    rw [intsF_map r]
    rfl
@[simp] theorem max_iL : (b1P .max (iL l)).run M Q E0 = (l ≠ [] ∧ Q (.int (maxL l)) M) := by
  unfold iL
  rw [b1_max, intsF_map]
  rfl
@[simp] theorem min_iL : (b1P .min (iL l)).run M Q E0 = (l ≠ [] ∧ Q (.int (minL l)) M) := by
  unfold iL
  rw [b1_min, intsF_map]
  rfl
@[simp] theorem len_iL : (b1P .len (iL l)).run M Q E0 = Q (.int l.length) M := by
  unfold iL
  rw [b1_lenL, List.length_map]
@[simp] theorem add_iL : (boP .add (iL a) (iL b)).run M Q E0 = (a.length + b.length ≤ sizeLine ∧ Q (iL (a ++ b)) M) := by
  unfold iL
  rw [bo_addL, List.length_map, List.length_map, ← List.map_append]
theorem nats_iL (l : List Nat) : nats l = iL (l.map fun (k : Nat) => (k : Int)) := by
  unfold nats iL
  rw [List.map_map]
  rfl
end
/-! ### may_stand -/
def F_may_stand : FS := txF 4 en4 pre4 fun q => gR (carG q.1 q.2.1 q.2.2.1) (gR (hourG q.2.2.2) (.ok (.bl (decide (unI q.2.1 ∈ (unT q.1).kinds (unI q.2.2.1) (unI q.2.2.2))))))
def b_may_stand : S := (.seq (.ex (.call "require_street" F_require_street (.cons (.var 0) .nil)))
  (.seq (.ex (.call "require_kind" F_require_kind (.cons (.var 1) .nil)))
  (.seq (.ex (.call "require_place" F_require_place (.cons (.var 0) (.cons (.var 2) .nil))))
  (.seq (.ex (.call "require_hour" F_require_hour (.cons (.var 3) .nil)))
  (.ret (.cmp .isin (.var 1) (.call "find_kinds" F_find_kinds (.cons (.var 0) (.cons (.var 2) (.cons (.var 3) .nil))))))))))
theorem call_may_stand {M : Mem} {E0 : EK} {Q : D → Mem → Prop} {a k b c : D} (h1 : plainD a = true) (h0 : plain0 k = true) (h2 : plain0 b = true) (h3 : plain0 c = true) : (PM.call F_may_stand [a, k, b, c]).run M Q E0 = outR (gR (carG a k b) (gR (hourG c) (.ok (.bl (decide (unI k ∈ (unT a).kinds (unI b) (unI c))))))) Q E0 M := call_txE inj_4 (a, k, b, c) rfl rfl ⟨h1, h0, h2, h3⟩
theorem go_may_stand {M : Mem} {E0 : EK} {Q : D → Mem → Prop} {t : Strt} {k p h : Int} (o : t.Spot p h) (k0 : 0 ≤ k) (k2 : k ≤ 2) : (PM.call F_may_stand [t.d, .int k, .int p, .int h]).run M Q E0 = Q (.bl (decide (k ∈ t.kinds p h))) M := by
  rw [call_may_stand (plain_strt t) rfl rfl rfl, car_first o.is k0 k2 o.p0 o.p1, hour_first o.h0 o.h1, unT_d]
  try rfl
theorem ok_may_stand : BodyOk 4 b_may_stand F_may_stand := by
  refine body_tx inj_4 ?_
  rintro ⟨a, k, b, c⟩ M ⟨h1, h0, h2, h3⟩
  have h1 : plainD a = true := h1
  have h0 : plain0 k = true := h0
  have h2 : plain0 b = true := h2
  have h3 : plain0 c = true := h3
  show (wpS b_may_stand).run [.val a, .val k, .val b, .val c] M _
  simp [b_may_stand, call_require_street h1, carG, hourG, gR]
  cases k1 : isStreetD a with
  | false => simp
  | true =>
    obtain ⟨t, rfl, o⟩ := street_of k1
    have ask : t.Ask := (t.ok_iff.mp o).ask
    simp [call_require_kind h0]
    cases k2 : isIntD 0 2 k with
    | false => simp
    | true =>
      obtain ⟨z, rfl, _⟩ := isInt_ex k2
      simp [call_require_place h2, k1, unT_d]
      cases k3 : isIntD 0 (t.places - 1) b with
      | false => simp
      | true =>
        obtain ⟨p, rfl, _⟩ := isInt_ex k3
        simp [call_require_hour h3]
        cases k4 : isIntD 0 167 c with
        | false => simp
        | true =>
          obtain ⟨h, rfl, _⟩ := isInt_ex k4
          simp [call_find_kinds ask, unI]
          rfl
/-! ### an exception's name instead -/
def orR (hs : List (Nat × Str)) (r : Except Nat D) : D := match r with | .ok d => d | .error k => .str ((hs.lookup k).getD "")
@[simp] theorem orR_ok {hs : List (Nat × Str)} {d : D} : orR hs (.ok d) = d := rfl
@[simp] theorem orR_ite {hs : List (Nat × Str)} {c : Prop} [Decidable c] {a b : Except Nat D} : orR hs (if c then a else b) = if c then orR hs a else orR hs b := by split <;> rfl
@[simp] theorem isIntD_non {lo hi : Int} : isIntD lo hi .non = false := rfl
@[simp] theorem isIntD_bl {lo hi : Int} {b : Bool} : isIntD lo hi (.bl b) = false := rfl
@[simp] theorem isIntD_str {lo hi : Int} {s : Str} : isIntD lo hi (.str s) = false := rfl
@[simp] theorem isIntD_tup {lo hi : Int} {s : List D} : isIntD lo hi (.tup s) = false := rfl
@[simp] theorem isIntD_lst {lo hi : Int} {s : List D} : isIntD lo hi (.lst s) = false := rfl
@[simp] theorem isStreetD_non : isStreetD .non = false := rfl
@[simp] theorem isStreetD_int {i : Int} : isStreetD (.int i) = false := rfl
@[simp] theorem isStreetD_str {i : Str} : isStreetD (.str i) = false := rfl
@[simp] theorem isStreetD_lst {i : List D} : isStreetD (.lst i) = false := rfl
@[simp] theorem isStreetD_t0 : isStreetD (.tup []) = false := rfl
@[simp] theorem isStreetD_0 {l : List D} : isStreetD (.tup [.int 0, .tup l]) = false := rfl
@[simp] theorem isStreetD_5 {l : List D} : isStreetD (.tup [.int 5, .tup l]) = false := rfl
theorem or_done {hs : List (Nat × Str)} {r : Except Nat D} {M : Mem} {nx : Slots → Mem → Prop} {ex : EK} {v : D} (hv : v = orR hs r) (h : ∀ k, r = .error k → (hs.lookup k).isSome = true) : outR r (fun d M' => M' = M ∧ d = v) (SM.exTo hs { nx := nx, rt := fun d M' => M' = M ∧ d = v, ex := ex }) M := by
  subst hv
  cases r with
  | ok d => exact ⟨rfl, rfl⟩
  | error k =>
    show SM.exTo hs _ k M
    have z := h k rfl
    unfold SM.exTo
    cases e : hs.lookup k with
    | none => rw [e] at z; cases z
    | some s =>
      refine ⟨rfl, ?_⟩
      show D.str s = .str ((hs.lookup k).getD "")
      rw [e]
      rfl
theorem or_1 {hs : List (Nat × Str)} {gs : List (Bool × Nat)} {d : D} (h : (gs.map (·.2)).all fun k => (hs.lookup k).isSome) : ∀ k, gR gs (.ok d) = .error k → (hs.lookup k).isSome = true := fun k e => by
  rcases gR_key e with q | q
  · exact List.all_eq_true.mp h k q
  · cases q
theorem or_2 {hs : List (Nat × Str)} {gs fs : List (Bool × Nat)} {d : D} (h : (gs.map (·.2)).all fun k => (hs.lookup k).isSome) (h2 : (fs.map (·.2)).all fun k => (hs.lookup k).isSome) : ∀ k, gR gs (gR fs (.ok d)) = .error k → (hs.lookup k).isSome = true := fun k e => by
  rcases gR_key e with q | q
  · exact List.all_eq_true.mp h k q
  · exact or_1 h2 k q
theorem or_3 {hs : List (Nat × Str)} {gs fs es : List (Bool × Nat)} {d : D} (h : (gs.map (·.2)).all fun k => (hs.lookup k).isSome) (h2 : (fs.map (·.2)).all fun k => (hs.lookup k).isSome) (h3 : (es.map (·.2)).all fun k => (hs.lookup k).isSome) : ∀ k, gR gs (gR fs (gR es (.ok d))) = .error k → (hs.lookup k).isSome = true := fun k e => by
  rcases gR_key e with q | q
  · exact List.all_eq_true.mp h k q
  · exact or_2 h2 h3 k q
/-! ### a comprehension as an equation -/
theorem comp_eq {α : Type} {M : Mem} {E0 : EK} {f : D → PM (Option D)} {ys : List α} {enc : α → D} {C : List D → Mem → Prop} (g : α → Option D) (hs : ∀ y ∈ ys, ∀ (Q : Option D → Mem → Prop) (E : EK), (f (enc y)).run M Q E = Q (g y) M) : (compGo f (ys.map enc) []).run M C E0 = C (ys.filterMap g) M := by
  have go : ∀ (zs : List α) (acc : List D), (∀ x ∈ zs, x ∈ ys) → (compGo f (zs.map enc) acc).run M C E0 = C (acc ++ zs.filterMap g) M := by
    intro zs
    induction zs with
    | nil => intro acc _; simp [compGo]
    | cons z zs ih =>
      intro acc hz
      show (f (enc z)).run M (fun o M' => (match o with | some y => compGo f (zs.map enc) (acc ++ [y]) | none => compGo f (zs.map enc) acc : PM (List D)).run M' C E0) E0 = _
      rw [hs z (hz z List.mem_cons_self)]
      cases e : g z with
      | none => simp only [List.filterMap_cons, e]; exact ih acc fun x hx => hz x (List.mem_cons_of_mem _ hx)
      | some y => simp only [List.filterMap_cons, e]; rw [ih (acc ++ [y]) fun x hx => hz x (List.mem_cons_of_mem _ hx)]; simp
  exact go ys [] fun _ h => h
/-! ### ranges -/
theorem range_get {n k : Nat} {x : D} (h : (rangeD 0 n)[k]? = some x) : x = .int (k : Nat) ∧ k < n := by
  unfold rangeD at h
  rw [List.getElem?_map] at h
  by_cases l : k < n
  · rw [List.getElem?_range l] at h
    cases h
    exact ⟨by simp, l⟩
  · rw [List.getElem?_eq_none (by simpa using l)] at h
    cases h
theorem range_len (i : Int) (n : Nat) : (rangeD i n).length = n := by
  unfold rangeD
  rw [List.length_map, List.length_range]
theorem range_map (n : Nat) : rangeD 0 n = (List.range n).map fun (k : Nat) => D.int k := by
  unfold rangeD
  exact List.map_congr_left fun k _ => by simp
end PL
set_option Elab.async false
set_option linter.all false
set_option maxRecDepth 100000
namespace PL
open PySem L2 PyProof.Rows PySem.Spec

/-! ## the greatest number of hours, in plain Lean -/
def okN (b : Nat → Bool) (c : Nat → Int) (n : Nat) : Prop := ∀ i, i < n → b i = true ∧ (n : Int) ≤ c i
theorem okN.le {b : Nat → Bool} {c : Nat → Int} {n m : Nat} (h : okN b c n) (l : m ≤ n) : okN b c m := fun i hi => ⟨(h i (by omega)).1, by have := (h i (by omega)).2; omega⟩
theorem okN_zero {b : Nat → Bool} {c : Nat → Int} : okN b c 0 := fun i hi => by omega
instance {b : Nat → Bool} {c : Nat → Int} {n : Nat} : Decidable (okN b c n) := by unfold okN; infer_instance
def runF (b : Nat → Bool) (c : Nat → Int) : Nat → Nat
  | 0 => 0
  | n + 1 => if okN b c (n + 1) then n + 1 else runF b c n
theorem runF_le (b : Nat → Bool) (c : Nat → Int) : ∀ m, runF b c m ≤ m
  | 0 => Nat.le_refl _
  | n + 1 => by
    have := runF_le b c n
    unfold runF
    split <;> omega
theorem runF_ok (b : Nat → Bool) (c : Nat → Int) : ∀ m, okN b c (runF b c m)
  | 0 => okN_zero
  | n + 1 => by
    unfold runF
    split
    · assumption
    · exact runF_ok b c n
theorem runF_ge (b : Nat → Bool) (c : Nat → Int) : ∀ m n, n ≤ m → okN b c n → n ≤ runF b c m
  | 0, n, l, _ => l
  | m + 1, n, l, h => by
    unfold runF
    split
    · exact l
    · rename_i q
      by_cases e : n = m + 1
      · exact absurd (e ▸ h) q
      · exact runF_ge b c m n (by omega) h
theorem le_runF {b : Nat → Bool} {c : Nat → Int} {m n : Nat} (l : n ≤ m) : n ≤ runF b c m ↔ okN b c n :=
  ⟨fun h => (runF_ok b c m).le h, runF_ge b c m n l⟩
theorem runF_eq {b : Nat → Bool} {c : Nat → Int} {m n : Nat} (l : n ≤ m) (h : okN b c n) (g : n = m ∨ ¬ okN b c (n + 1)) : runF b c m = n := by
  have h1 := runF_ge b c m n l h
  have h2 := runF_le b c m
  rcases g with g | g
  · omega
  · by_cases e : runF b c m = n
    · exact e
    · exact absurd ((runF_ok b c m).le (show n + 1 ≤ _ by omega)) g

/-! ## a week -/
def Strt.cap (t : Strt) (p h : Int) : Int := match limOf (t.words p h) with | [] => 168 | l => minL l
abbrev Hr := List Int × Int
instance : Inhabited Hr := ⟨([], 0)⟩
def hrD (q : Hr) : D := .tup [iL q.1, .int q.2]
def Strt.hr (t : Strt) (p h : Int) : Hr := (t.kinds p h, t.cap p h)
def Strt.week (t : Strt) (p : Int) : List Hr := (List.range 168).map fun (h : Nat) => t.hr p h
def weekD (w : List Hr) : D := .lst (w.map hrD)
abbrev enP (q : Strt × Int) : List D := [q.1.d, .int q.2]
theorem inj_p : ∀ x y : Strt × Int, enP x = enP y → x = y := fun ⟨a, b⟩ ⟨c, d⟩ h => by
  simp only [enP, List.cons.injEq, D.int.injEq, and_true] at h
  rw [strt_inj h.1, h.2]
theorem lim_cap (t : Strt) (p h : Int) : (t.lim p h = .non ∧ t.cap p h = 168) ∨ t.lim p h = .int (t.cap p h) := by
  unfold Strt.lim Strt.cap
  cases limOf (t.words p h) with
  | nil => exact .inl ⟨rfl, rfl⟩
  | cons a r => exact .inr rfl
theorem week_len (t : Strt) (p : Int) : (t.week p).length = 168 := by simp [Strt.week]
def F_week : FS := tyF 2 enP (fun q _ => q.1.Ask) fun q => weekD (q.1.week q.2)
def b_week : S := (.seq (.new 2 (.lst .nil))
  (.seq (.forr (.one 3) (.it1 .range (.int 168))
  (.seq (.set 4 (.call "find_limit" F_find_limit (.cons (.var 0) (.cons (.var 1) (.cons (.var 3) .nil)))))
  (.app 2 (.tup (.cons (.call "find_kinds" F_find_kinds (.cons (.var 0) (.cons (.var 1) (.cons (.var 3) .nil)))) (.cons (.ite (.isN (.var 4)) (.int 168) (.var 4)) .nil))))))
  (.seq (.frz 2)
  (.ret (.var 2)))))
theorem call_week {M : Mem} {E0 : EK} {Q : D → Mem → Prop} {t : Strt} {p : Int} (o : t.Ask) : (PM.call F_week [t.d, .int p]).run M Q E0 = Q (weekD (t.week p)) M := call_tyE inj_p (t, p) rfl rfl o
theorem ok_week : BodyOk 5 b_week F_week := by
  refine body_ty inj_p ?_
  rintro ⟨t, p⟩ M o
  have o : t.Ask := o
  show (wpS b_week).run [.val t.d, .val (.int p), .unk, .unk, .unk] M _
  unfold b_week
  rw [v_seq]
  simp [-v_seq]
  rw [v_seq, v_forr]
  simp [-v_seq]
  refine for_run (fun k ρ M' => M' = M ∧ k ≤ 168 ∧ ∃ x y : Sl, ρ = [.val t.d, .val (.int p), .own (((List.range k).map fun (h : Nat) => t.hr p h).map hrD), x, y]) ⟨rfl, by decide, _, _, rfl⟩ ?_ ?_
  · rintro k x ρ M' hx ⟨rfl, hk, y, z, rfl⟩
    obtain ⟨rfl, lt⟩ := range_get hx
    rw [tg_one, v_seq]
    simp [-v_seq, call_find_limit o, call_find_kinds o]
    rcases lim_cap t p k with ⟨e1, e2⟩ | e1
    · simp [e1]
      exact ⟨by omega, by omega, by simp [List.range_succ, hrD, Strt.hr, e2]⟩
    · simp [e1]
      exact ⟨by omega, by omega, by simp [List.range_succ, hrD, Strt.hr]⟩
  · rw [range_len]
    rintro ρ M' ⟨rfl, hk, y, z, rfl⟩
    simp
    rfl

/-! ### run -/
def hrAt (w : List Hr) (x : Int) : Hr := w.getD (x % 168).toNat default
def hrB (w : List Hr) (k s : Int) (i : Nat) : Bool := decide (k ∈ (hrAt w (s + i)).1)
def hrC (w : List Hr) (s : Int) (i : Nat) : Int := (hrAt w (s + i)).2
def runW (w : List Hr) (k s : Int) : Nat := runF (hrB w k s) (hrC w s) 168
abbrev enW (q : List Hr × Int × Int) : List D := [weekD q.1, .int q.2.1, .int q.2.2]
theorem iL_inj {a b : List Int} (h : iL a = iL b) : a = b := ints_inj (by simpa [iL] using h)
theorem hrs_inj : ∀ {a b : List Hr}, a.map hrD = b.map hrD → a = b
  | [], [], _ => rfl
  | [], _ :: _, h => by simp at h
  | _ :: _, [], h => by simp at h
  | (x, i) :: r, (y, j) :: s, h => by
    simp only [List.map_cons, List.cons.injEq, hrD, D.tup.injEq, D.int.injEq, and_true] at h
    rw [iL_inj h.1.1, h.1.2, hrs_inj h.2]
theorem week_inj {a b : List Hr} (h : weekD a = weekD b) : a = b := hrs_inj (by simpa [weekD] using h)
theorem inj_w : ∀ x y : List Hr × Int × Int, enW x = enW y → x = y := fun ⟨a, b, c⟩ ⟨d, e, f⟩ h => by
  simp only [enW, List.cons.injEq, D.int.injEq, and_true] at h
  obtain ⟨h1, rfl, rfl⟩ := h
  rw [week_inj h1]
theorem mod_nat (x : Int) : ((x % 168).toNat : Int) = x % 168 ∧ (x % 168).toNat < 168 := by omega
theorem ix_week {M : Mem} {E0 : EK} {Q : D → Mem → Prop} {w : List Hr} (hw : w.length = 168) (x : Int) : (ixP (weekD w) (.int (x % 168))).run M Q E0 = Q (.tup [iL (hrAt w x).1, .int (hrAt w x).2]) M := by
  obtain ⟨h1, h2⟩ := mod_nat x
  unfold weekD hrAt
  rw [ix_lst]
  conv => lhs; rw [← h1]
  rw [at_nat, List.getElem?_map, List.getElem?_eq_getElem (by omega), List.getD_eq_getElem?_getD, List.getElem?_eq_getElem (by omega)]
  rfl
theorem v_whl {M : Mem} {ρ : Slots} {P : Post} {c : E} {s : S} : (wpS (.whl c s)).run ρ M P = whileGo (testP c) (wpS s) ρ M P := rfl
@[simp] theorem test_run {M : Mem} {ρ : Slots} {c : E} {Q : Bool → Mem → Prop} {E0 : EK} : (testP c ρ).run M Q E0 = (wp c ρ).run M (fun d M1 => (truP d).run M1 Q E0) E0 := rfl
theorem while_run {c : E} {b : SM} {ρ : Slots} {M : Mem} {P : Post} (W : Nat → Slots → Mem → Prop) (m : Nat) (h0 : W m ρ M)
    (hs : ∀ m ρ M, W m ρ M → (wp c ρ).run M (fun d M1 => (truP d).run M1 (fun t M2 => if t = true then b.run ρ M2 { P with nx := fun ρ2 M2 => ∃ m', m' < m ∧ W m' ρ2 M2 } else P.nx ρ M2) P.ex) P.ex) : whileGo (testP c) b ρ M P :=
  ⟨W, ⟨m, h0⟩, hs⟩
def F_run : FS := tyF 3 enW (fun q _ => q.1.length = 168) fun q => .int (runW q.1 q.2.1 q.2.2 : Nat)
def b_run : S := (.seq (.unp [3, 4] (.tup (.cons (.int 0) (.cons (.int 168) .nil))))
  (.seq (.whl (.cmp .lt (.var 3) (.var 4))
  (.seq (.unp [5, 6] (.ix (.var 0) (.bin .mod (.bin .add (.var 2) (.var 3)) (.int 168))))
  (.seq (.iff (.or (.cmp .notin (.var 1) (.var 5)) (.cmp .lt (.var 6) (.bin .add (.var 3) (.int 1))))
  (.ret (.var 3))
  .nop)
  (.seq (.set 4 (.b2 .min (.var 4) (.var 6)))
  (.aug 3 (.int 1))))))
  (.ret (.var 3))))
theorem call_run {M : Mem} {E0 : EK} {Q : D → Mem → Prop} {w : List Hr} {k s : Int} (o : w.length = 168) : (PM.call F_run [weekD w, .int k, .int s]).run M Q E0 = Q (.int (runW w k s : Nat)) M := call_tyE inj_w (w, k, s) rfl rfl o
theorem ok_run : BodyOk 7 b_run F_run := by
  refine body_ty inj_w ?_
  rintro ⟨w, kd, s⟩ M o
  have o : w.length = 168 := o
  show (wpS b_run).run [.val (weekD w), .val (.int kd), .val (.int s), .unk, .unk, .unk, .unk] M _
  generalize hr : (D.int (runW w kd s : Nat)) = r
  unfold b_run
  rw [v_seq]
  simp [-v_seq]
  rw [v_seq, v_whl]
  refine while_run (fun m ρ M' => M' = M ∧ ∃ (n : Nat) (mo : Int) (x y : Sl), ρ = [.val (weekD w), .val (.int kd), .val (.int s), .val (.int n), .val (.int mo), x, y] ∧ m + n = 168 ∧ okN (hrB w kd s) (hrC w s) n ∧ (n : Int) ≤ mo ∧ (mo = 168 ∨ ∃ i, i < n ∧ hrC w s i = mo) ∧ mo ≤ 168 ∧ ∀ i, i < n → mo ≤ hrC w s i) 168 ⟨rfl, 0, 168, _, _, rfl, rfl, okN_zero, by decide, .inl rfl, by decide, fun i hi => by omega⟩ ?_
  rintro m ρ M' ⟨rfl, n, mo, x, y, rfl, hm, hok, hn, h3, h168, hall⟩
  simp [-v_seq]
  by_cases c1 : (n : Int) < mo
  · rw [if_pos c1]
    rw [v_seq]
    simp [-v_seq, ix_week o]
    rw [v_seq]
    simp [-v_seq]
    by_cases c2 : kd ∈ (hrAt w (s + n)).1
    · by_cases c3 : (hrAt w (s + n)).2 < n + 1
      · have q : runW w kd s = n := runF_eq (by omega) hok (.inr fun z => by have := (z n (by omega)).2; unfold hrC at this; omega)
        simp [c2, c3, ← hr, q]
      · simp [c2, c3]
        have ok2 : okN (hrB w kd s) (hrC w s) (n + 1) := fun i hi => by
          by_cases e : i = n
          · subst e
            exact ⟨by simpa [hrB] using c2, by unfold hrC; omega⟩
          · have := hok i (by omega)
            have := hall i (by omega)
            exact ⟨(hok i (by omega)).1, by omega⟩
        refine ⟨m - 1, by omega, n + 1, _, ⟨by omega, rfl⟩, by omega, ok2, ?_, ?_, ?_, fun i hi => ?_⟩
        · split <;> omega
        · split
          · exact .inr ⟨n, by omega, rfl⟩
          · rcases h3 with h3 | ⟨i, hi, hc⟩
            · exact .inl h3
            · exact .inr ⟨i, by omega, hc⟩
        · split <;> omega
        · by_cases e : i = n
          · subst e
            show _ ≤ (hrAt w (s + i)).2
            split <;> omega
          · have := hall i (by omega)
            split <;> omega
    · have q : runW w kd s = n := runF_eq (by omega) hok (.inr fun z => by have := (z n (by omega)).1; unfold hrB at this; simp [c2] at this)
      simp [c2, ← hr, q]
  · rw [if_neg c1, ← hr]
    have e : mo = n := by omega
    have q : runW w kd s = n := runF_eq (by omega) hok (by
      rcases h3 with h3 | ⟨i, hi, hc⟩
      · exact .inl (by omega)
      · exact .inr fun z => by have := (z i (by omega)).2; omega)
    simp [q]
/-! ### stays of a street -/
def Strt.long (t : Strt) (k p h : Int) : Nat := runW (t.week p) k h
def Strt.okB (t : Strt) (k p h : Int) (i : Nat) : Bool := decide (k ∈ t.kinds p ((h + i) % 168))
def Strt.okC (t : Strt) (p h : Int) (i : Nat) : Int := t.cap p ((h + i) % 168)
theorem hrAt_week (t : Strt) (p x : Int) : hrAt (t.week p) x = t.hr p (x % 168) := by
  obtain ⟨h1, h2⟩ := mod_nat x
  unfold hrAt Strt.week
  rw [List.getD_eq_getElem?_getD, List.getElem?_map, List.getElem?_range h2]
  simp only [Option.map_some, Option.getD_some]
  rw [h1]
theorem long_eq (t : Strt) (k p h : Int) : t.long k p h = runF (t.okB k p h) (t.okC p h) 168 := by
  unfold Strt.long runW
  congr 1
  · funext i
    unfold hrB Strt.okB
    rw [hrAt_week]
    rfl
  · funext i
    unfold hrC Strt.okC
    rw [hrAt_week]
    rfl
theorem long_le (t : Strt) (k p h : Int) : t.long k p h ≤ 168 := runF_le _ _ _
theorem le_long {t : Strt} {k p h : Int} {n : Nat} (l : n ≤ 168) : n ≤ t.long k p h ↔ okN (t.okB k p h) (t.okC p h) n := by
  rw [long_eq]
  exact le_runF l
def F_require_hours : FS := txF 1 (fun (d : D) => [d]) (fun d _ => plain0 d = true) fun d => gR (hoursG d) (.ok .non)
def b_require_hours : S := (.iff (.not (.call "is_integer" F_is_integer (.cons (.var 0) (.cons (.int 1) (.cons (.int 168) .nil)))))
  (.rse 4)
  .nop)
theorem call_require_hours {M : Mem} {E0 : EK} {Q : D → Mem → Prop} {d : D} (h : plain0 d = true) : (PM.call F_require_hours [d]).run M Q E0 = outR (gR (hoursG d) (.ok .non)) Q E0 M := call_txE inj_1 d rfl rfl h
theorem ok_require_hours : BodyOk 1 b_require_hours F_require_hours := by
  refine body_tx inj_1 ?_
  intro d M h1
  simp [b_require_hours, call_is_integer h1, hoursG, gR]
theorem hour_gR (d : D) : (if isIntD 0 167 d = true then .ok .non else .error 3 : Except Nat D) = gR (hourG d) (.ok .non) := rfl
def F_require_car : FS := txF 3 en3 pre3 fun q => gR (carG q.1 q.2.1 q.2.2) (.ok .non)
def b_require_car : S := (.seq (.ex (.call "require_street" F_require_street (.cons (.var 0) .nil)))
  (.seq (.ex (.call "require_kind" F_require_kind (.cons (.var 1) .nil)))
  (.ex (.call "require_place" F_require_place (.cons (.var 0) (.cons (.var 2) .nil))))))
theorem call_require_car {M : Mem} {E0 : EK} {Q : D → Mem → Prop} {a b c : D} (h1 : plainD a = true) (h2 : plain0 b = true) (h3 : plain0 c = true) : (PM.call F_require_car [a, b, c]).run M Q E0 = outR (gR (carG a b c) (.ok .non)) Q E0 M := call_txE inj_3 (a, b, c) rfl rfl ⟨h1, h2, h3⟩
theorem ok_require_car : BodyOk 3 b_require_car F_require_car := by
  refine body_tx inj_3 ?_
  rintro ⟨a, b, c⟩ M ⟨h1, h2, h3⟩
  have h1 : plainD a = true := h1
  have h2 : plain0 b = true := h2
  have h3 : plain0 c = true := h3
  show (wpS b_require_car).run [.val a, .val b, .val c] M _
  simp [b_require_car, call_require_street h1, carG, gR]
  cases k : isStreetD a with
  | false => simp
  | true =>
    obtain ⟨t, rfl, _⟩ := street_of k
    simp [unT_d, call_require_kind h2]
    cases isIntD 0 2 b with
    | false => simp
    | true => simp [call_require_place h3]
def F_longest : FS := txF 4 en4 pre4 fun q => gR (carG q.1 q.2.1 q.2.2.1) (gR (hourG q.2.2.2) (.ok (.int ((unT q.1).long (unI q.2.1) (unI q.2.2.1) (unI q.2.2.2) : Nat))))
def b_longest : S := (.seq (.ex (.call "require_car" F_require_car (.cons (.var 0) (.cons (.var 1) (.cons (.var 2) .nil)))))
  (.seq (.ex (.call "require_hour" F_require_hour (.cons (.var 3) .nil)))
  (.ret (.call "run" F_run (.cons (.call "week" F_week (.cons (.var 0) (.cons (.var 2) .nil))) (.cons (.var 1) (.cons (.var 3) .nil)))))))
theorem call_longest {M : Mem} {E0 : EK} {Q : D → Mem → Prop} {a k b c : D} (h1 : plainD a = true) (h0 : plain0 k = true) (h2 : plain0 b = true) (h3 : plain0 c = true) : (PM.call F_longest [a, k, b, c]).run M Q E0 = outR (gR (carG a k b) (gR (hourG c) (.ok (.int ((unT a).long (unI k) (unI b) (unI c) : Nat))))) Q E0 M := call_txE inj_4 (a, k, b, c) rfl rfl ⟨h1, h0, h2, h3⟩
theorem go_longest {M : Mem} {E0 : EK} {Q : D → Mem → Prop} {t : Strt} {k p h : Int} (o : t.Spot p h) (k0 : 0 ≤ k) (k2 : k ≤ 2) : (PM.call F_longest [t.d, .int k, .int p, .int h]).run M Q E0 = Q (.int (t.long k p h : Nat)) M := by
  rw [call_longest (plain_strt t) rfl rfl rfl, car_first o.is k0 k2 o.p0 o.p1, hour_first o.h0 o.h1, unT_d]
  rfl
theorem ok_longest : BodyOk 4 b_longest F_longest := by
  refine body_tx inj_4 ?_
  rintro ⟨a, k, b, c⟩ M ⟨h1, h0, h2, h3⟩
  have h1 : plainD a = true := h1
  have h0 : plain0 k = true := h0
  have h2 : plain0 b = true := h2
  have h3 : plain0 c = true := h3
  show (wpS b_longest).run [.val a, .val k, .val b, .val c] M _
  simp [-outR_ite, b_longest, call_require_car h1 h0 h2, call_require_hour h3, hour_gR]
  rcases car_cases (a := a) (k := k) (b := b) with ⟨j, e⟩ | ⟨t, kd, p, rfl, rfl, rfl, o, _, _, e⟩
  · simp [e]
  · rcases hour_cases (c := c) with ⟨j, e2⟩ | ⟨h, rfl, _, _, e2⟩
    · simp [e, e2]
    · simp [e, e2, call_week o.ask, call_run (week_len t p), unT_d, unI]
      rfl
def F_is_allowed : FS := txF 5 en5 pre5 fun q => gR (carG q.1 q.2.1 q.2.2.1) (gR (hourG q.2.2.2.1) (gR (hoursG q.2.2.2.2) (.ok (.bl (decide (unI q.2.2.2.2 ≤ ((unT q.1).long (unI q.2.1) (unI q.2.2.1) (unI q.2.2.2.1) : Nat)))))))
def b_is_allowed : S := (.seq (.ex (.call "require_car" F_require_car (.cons (.var 0) (.cons (.var 1) (.cons (.var 2) .nil)))))
  (.seq (.ex (.call "require_hour" F_require_hour (.cons (.var 3) .nil)))
  (.seq (.ex (.call "require_hours" F_require_hours (.cons (.var 4) .nil)))
  (.ret (.cmp .le (.var 4) (.call "run" F_run (.cons (.call "week" F_week (.cons (.var 0) (.cons (.var 2) .nil))) (.cons (.var 1) (.cons (.var 3) .nil)))))))))
theorem call_is_allowed {M : Mem} {E0 : EK} {Q : D → Mem → Prop} {a k b c n : D} (h1 : plainD a = true) (h0 : plain0 k = true) (h2 : plain0 b = true) (h3 : plain0 c = true) (h4 : plain0 n = true) : (PM.call F_is_allowed [a, k, b, c, n]).run M Q E0 = outR (gR (carG a k b) (gR (hourG c) (gR (hoursG n) (.ok (.bl (decide (unI n ≤ ((unT a).long (unI k) (unI b) (unI c) : Nat)))))))) Q E0 M := call_txE inj_5 (a, k, b, c, n) rfl rfl ⟨h1, h0, h2, h3, h4⟩
theorem go_is_allowed {M : Mem} {E0 : EK} {Q : D → Mem → Prop} {t : Strt} {k p h n : Int} (o : t.Spot p h) (k0 : 0 ≤ k) (k2 : k ≤ 2) (n1 : 1 ≤ n) (n2 : n ≤ 168) : (PM.call F_is_allowed [t.d, .int k, .int p, .int h, .int n]).run M Q E0 = Q (.bl (decide (n ≤ (t.long k p h : Nat)))) M := by
  rw [call_is_allowed (plain_strt t) rfl rfl rfl rfl, car_first o.is k0 k2 o.p0 o.p1, hour_first o.h0 o.h1, hours_first n1 n2, unT_d]
  rfl
theorem ok_is_allowed : BodyOk 5 b_is_allowed F_is_allowed := by
  refine body_tx inj_5 ?_
  rintro ⟨a, k, b, c, n⟩ M ⟨h1, h0, h2, h3, h4⟩
  have h1 : plainD a = true := h1
  have h0 : plain0 k = true := h0
  have h2 : plain0 b = true := h2
  have h3 : plain0 c = true := h3
  have h4 : plain0 n = true := h4
  show (wpS b_is_allowed).run [.val a, .val k, .val b, .val c, .val n] M _
  simp [-outR_ite, b_is_allowed, call_require_car h1 h0 h2, call_require_hour h3, hour_gR, call_require_hours h4]
  rcases car_cases (a := a) (k := k) (b := b) with ⟨j, e⟩ | ⟨t, kd, p, rfl, rfl, rfl, o, _, _, e⟩
  · simp [e]
  · rcases hour_cases (c := c) with ⟨j, e2⟩ | ⟨h, rfl, _, _, e2⟩
    · simp [e, e2]
    · rcases hours_cases (c := n) with ⟨j, e3⟩ | ⟨m, rfl, _, _, e3⟩
      · simp [e, e2, e3]
      · simp [e, e2, e3, call_week o.ask, call_run (week_len t p), unT_d, unI]
        rfl
end PL
set_option Elab.async false
set_option linter.all false
set_option maxRecDepth 100000
namespace PL
open PySem L2 PyProof.Rows PySem.Spec

/-! ## the law's own state, and what is drawn -/
def gd (xs : List D) : Prop := xs = [] ∨ ∃ i r, xs = .int i :: r
structure StOk (a : Addr) (c : Nat) (M : Mem) : Prop where
  ex : ∃ xs, M a = some (.lst xs) ∧ gd xs ∧ xs.length ≤ c
def Else (a : Addr) (M M' : Mem) : Prop := ∀ b, b ≠ a → M' b = M b
theorem Else.refl {a : Addr} {M : Mem} : Else a M M := fun _ _ => rfl
theorem Else.trans {a : Addr} {M M' M2 : Mem} (h : Else a M M') (g : Else a M' M2) : Else a M M2 := fun b n => (g b n).trans (h b n)
theorem Else.put {a : Addr} {M M' : Mem} {c : Cell} (h : Else a M M') : Else a M (M'.put a c) := fun b n => (Mem.put_ne M' c n).trans (h b n)
theorem StOk.mono {a : Addr} {c d : Nat} {M : Mem} (h : StOk a c M) (l : c ≤ d) : StOk a d M := by
  obtain ⟨xs, h1, h2, h3⟩ := h.ex
  exact ⟨xs, h1, h2, Nat.le_trans h3 l⟩
def F_l_draw : FS where
  ar := 3
  pre := fun ds M => ∃ ns a n c, ds = [.scr ns, .cell a, .int n] ∧ ns.length ≤ 63 ∧ 0 < n ∧ StOk a c M ∧ c + 2 ≤ 16777216
  post := fun ds M r M' => ∀ ns a n c, ds = [.scr ns, .cell a, .int n] → ns.length ≤ 63 → 0 < n → StOk a c M → c + 2 ≤ 16777216 → ∃ v, r = .int v ∧ 0 ≤ v ∧ v < n ∧ StOk a (c + 2) M' ∧ Else a M M'
def b_l_draw : S := (.seq (.iff (.not (.var 1))
  (.appc 1 (.b1 .max (.bin .add (.comp (.b1 .abs (.var 3)) (.one 3) (.it1 .seq (.var 0)) (.bl true) [3]) (.lst (.cons (.int 0) .nil)))))
  .nop)
  (.seq (.appc 1 (.int 0))
  (.seq (.set 4 (.b1 .len (.var 1)))
  (.seq (.set 3 (.ite (.var 0) (.ix (.var 0) (.bin .mod (.var 4) (.b1 .len (.var 0)))) (.int 0)))
  (.seq (.set 5 (.bin .mod (.ix (.var 1) (.int 0)) (.int 65536)))
  (.seq (.putc 1 (.int 0) (.bin .fdiv (.ix (.var 1) (.int 0)) (.int 65536)))
  (.seq (.set 6 (.bin .mod (.bin .add (.bin .add (.var 3) (.bin .mul (.int 40503) (.var 5))) (.bin .mul (.int 104729) (.var 4))) (.int 4294967291)))
  (.seq (.set 6 (.bin .mod (.bin .mul (.bin .mod (.bin .mul (.var 6) (.var 6)) (.int 4294967279)) (.int 48271)) (.int 4294967291)))
  (.seq (.set 7 (.bin .mod (.bin .mul (.bin .mod (.bin .mul (.var 6) (.var 6)) (.int 4294967279)) (.int 69621)) (.int 4294967291)))
  (.ret (.bin .mod (.bin .add (.bin .mul (.bin .fdiv (.var 6) (.int 64)) (.int 67108864)) (.bin .fdiv (.var 7) (.int 64))) (.var 2))))))))))))
theorem call_draw {M : Mem} {E0 : EK} {Q : D → Mem → Prop} {ns : List Int} {a : Addr} {n : Int} {c : Nat} (l : ns.length ≤ 63) (hn : 0 < n) (st : StOk a c M) (hc : c + 2 ≤ 16777216) (q : ∀ v M', 0 ≤ v → v < n → StOk a (c + 2) M' → Else a M M' → Q (.int v) M') : (PM.call F_l_draw [.scr ns, .cell a, .int n]).run M Q E0 :=
  ⟨rfl, ⟨ns, a, n, c, rfl, l, hn, st, hc⟩, fun d M' h => by
    obtain ⟨v, rfl, h1, h2, h3, h4⟩ := h ns a n c rfl l hn st hc
    exact q v M' h1 h2 h3 h4, fun _ _ z => False.elim z⟩
theorem at_mod {α : Type} (xs : List α) (k : Int) (h : xs ≠ []) : ∃ x, atI xs (k % xs.length) = some x ∧ x ∈ xs := by
  have pos : (0 : Int) < xs.length := by
    have := List.length_pos_iff.mpr h
    omega
  have h1 := Int.emod_nonneg k (Int.ne_of_gt pos)
  have h2 := Int.emod_lt_of_pos k pos
  have e : k % xs.length = ((k % xs.length).toNat : Int) := (Int.toNat_of_nonneg h1).symm
  have lt : (k % xs.length).toNat < xs.length := by omega
  refine ⟨xs[(k % xs.length).toNat], ?_, List.getElem_mem lt⟩
  have z := at_nat xs (k % xs.length).toNat
  rw [List.getElem?_eq_getElem lt, ← e] at z
  exact z
theorem cm1 {i j : Int} (h1 : -18446744073709551616 < i) (h2 : i < 18446744073709551616) : CMul i j := .inl ⟨h1, h2⟩
@[simp] theorem cmulA {x : Int} : CMul 40503 x := cm1 (by decide) (by decide)
@[simp] theorem cmulB {x : Int} : CMul 104729 x := cm1 (by decide) (by decide)
theorem cm2 {i j : Int} (h1 : -18446744073709551616 < j) (h2 : j < 18446744073709551616) : CMul i j := .inr ⟨h1, h2⟩
@[simp] theorem cmulC {x : Int} : CMul x 48271 := cm2 (by decide) (by decide)
@[simp] theorem cmulD {x : Int} : CMul x 69621 := cm2 (by decide) (by decide)
@[simp] theorem cmulE {x : Int} : CMul x 67108864 := cm2 (by decide) (by decide)
@[simp] theorem cmulF {x y : Int} : CMul (x % 4294967291) y := cm1 (by have := Int.emod_nonneg x (show (4294967291 : Int) ≠ 0 by decide); omega) (by have := Int.emod_lt_of_pos x (show (0 : Int) < 4294967291 by decide); omega)
@[simp] theorem cdiv1 {x : Int} : CDiv x 65536 := ⟨by decide, by decide⟩
@[simp] theorem cdiv2 {x : Int} : CDiv x 64 := ⟨by decide, by decide⟩
def dr1 : S := .seq (.set 5 (.bin .mod (.ix (.var 1) (.int 0)) (.int 65536)))
  (.seq (.putc 1 (.int 0) (.bin .fdiv (.ix (.var 1) (.int 0)) (.int 65536)))
  (.seq (.set 6 (.bin .mod (.bin .add (.bin .add (.var 3) (.bin .mul (.int 40503) (.var 5))) (.bin .mul (.int 104729) (.var 4))) (.int 4294967291)))
  (.seq (.set 6 (.bin .mod (.bin .mul (.bin .mod (.bin .mul (.var 6) (.var 6)) (.int 4294967279)) (.int 48271)) (.int 4294967291)))
  (.seq (.set 7 (.bin .mod (.bin .mul (.bin .mod (.bin .mul (.var 6) (.var 6)) (.int 4294967279)) (.int 69621)) (.int 4294967291)))
  (.ret (.bin .mod (.bin .add (.bin .mul (.bin .fdiv (.var 6) (.int 64)) (.int 67108864)) (.bin .fdiv (.var 7) (.int 64))) (.var 2)))))))
theorem dr1_ok {M : Mem} {P : Post} {ns : List Int} {a : Addr} {n i cell k : Int} {r : List D} (hn : 0 < n) (hM : M a = some (.lst (.int i :: r)))
    (hP : ∀ v, 0 ≤ v → v < n → P.rt (.int v) (M.put a (.lst (.int (i / 65536) :: r)))) : (wpS dr1).run [.val (.scr ns), .val (.cell a), .val (.int n), .val (.int cell), .val (.int k), .unk, .unk, .unk] M P := by
  unfold dr1
  rw [v_seq]
  simp [-v_seq, ix_cell hM]
  rw [v_seq, v_putc (p := a) rfl]
  simp [-v_seq, ix_cell hM]
  refine ⟨_, hM, 0, by simp [ixN], ?_⟩
  simp
  exact ⟨hn, hP _ (Int.emod_nonneg _ (Int.ne_of_gt hn)) (Int.emod_lt_of_pos _ hn)⟩
def dr2 : S := .seq (.appc 1 (.int 0))
  (.seq (.set 4 (.b1 .len (.var 1)))
  (.seq (.set 3 (.ite (.var 0) (.ix (.var 0) (.bin .mod (.var 4) (.b1 .len (.var 0)))) (.int 0))) dr1))
theorem dr2_ok {M : Mem} {P : Post} {ns : List Int} {a : Addr} {n i : Int} {r : List D} (hn : 0 < n) (hM : M a = some (.lst (.int i :: r))) (hl : (D.int i :: r).length < 16777216)
    (hP : ∀ v, 0 ≤ v → v < n → P.rt (.int v) ((M.put a (.lst (.int i :: (r ++ [.int 0])))).put a (.lst (.int (i / 65536) :: (r ++ [.int 0]))))) : (wpS dr2).run [.val (.scr ns), .val (.cell a), .val (.int n), .unk, .unk, .unk, .unk, .unk] M P := by
  unfold dr2
  rw [v_seq, v_appc (p := a) rfl hM]
  simp [-v_seq]
  refine ⟨_, hM, by simpa using hl, ?_⟩
  have hM2 : (M.put a (.lst (.int i :: (r ++ [.int 0])))) a = some (.lst (.int i :: (r ++ [.int 0]))) := Mem.put_same _ _ _
  rw [v_seq]
  simp [-v_seq]
  rw [b1_lenC hM2]
  rw [v_seq]
  simp [-v_seq]
  by_cases c : ns = []
  · rw [if_pos c]
    exact dr1_ok hn hM2 hP
  · rw [if_neg c]
    have pos : (0 : Int) < ns.length := by
      have := List.length_pos_iff.mpr c
      omega
    refine ⟨by omega, ?_⟩
    obtain ⟨x, e, hx⟩ := at_mod (ns.map D.int) ((r.length : Int) + 1 + 1) (by simpa using c)
    rw [List.length_map] at e
    rw [e]
    obtain ⟨z, _, rfl⟩ := List.mem_map.mp hx
    exact dr1_ok hn hM2 hP
theorem ok_l_draw : BodyOk 8 b_l_draw F_l_draw := by
  rintro _ M hl ⟨ns, a, n, c, rfl, hs, hn, ⟨xs, hM, g, lx⟩, hc⟩
  have post : ∀ (M1 : Mem) (v : Int) (i : Int) (r : List D), Else a M M1 → r.length + 1 ≤ xs.length + 2 → 0 ≤ v → v < n → F_l_draw.post [.scr ns, .cell a, .int n] M (.int v) (M1.put a (.lst (.int i :: r))) := by
    rintro M1 v i r hE hl h0 h1 ns' a' n' c' e _ _ st' _
    simp only [List.cons.injEq, D.scr.injEq, D.cell.injEq, D.int.injEq, and_true] at e
    obtain ⟨rfl, rfl, rfl⟩ := e
    obtain ⟨ys, hy, _, ly⟩ := st'.ex
    rw [hM] at hy
    cases hy
    exact ⟨v, rfl, h0, h1, ⟨_, Mem.put_same _ _ _, .inr ⟨i, r, rfl⟩, by simp only [List.length_cons]; omega⟩, hE.put⟩
  show (wpS (.seq (.iff (.not (.var 1)) (.appc 1 (.b1 .max (.bin .add (.comp (.b1 .abs (.var 3)) (.one 3) (.it1 .seq (.var 0)) (.bl true) [3]) (.lst (.cons (.int 0) .nil))))) .nop) dr2)).run [.val (.scr ns), .val (.cell a), .val (.int n), .unk, .unk, .unk, .unk, .unk] M _
  rw [v_seq, v_iff]
  simp only [w_not, w_var, List.getElem?_cons_succ, List.getElem?_cons_zero, slV_val, tr_cell hM, tr_bl]
  rcases g with rfl | ⟨i, r, rfl⟩
  · simp only [List.isEmpty_nil, Bool.not_true, Bool.not_false, if_true]
    rw [v_appc (p := a) rfl hM]
    simp [-v_seq, w_comp]
    refine ⟨by omega, comp_ty (fun (z : Int) => some (.int (if z < 0 then -z else z))) (fun z hz Q q => by simpa using q) ?_⟩
    rw [fm_map]
    simp [-v_seq]
    refine ⟨by omega, ?_⟩
    rw [ints_app (ints_map _ ns) (show intsF [D.int 0] = some [0] from rfl)]
    simp [-v_seq]
    refine ⟨[], hM, by decide, ?_⟩
    exact dr2_ok (r := []) hn (Mem.put_same _ _ _) (by simp) fun v h0 h1 => post _ v _ _ (Else.put (Else.put Else.refl)) (by simp) h0 h1
  · simp only [List.isEmpty_cons, Bool.not_true, Bool.not_false]
    simp [-v_seq]
    have lr : r.length + 1 ≤ c := by simpa using lx
    exact dr2_ok hn hM (by simp only [List.length_cons]; omega) fun v h0 h1 => post _ v _ _ (Else.put Else.refl) (by simp) h0 h1

/-! ### pick -/
theorem comp_st {M : Mem} {E0 : EK} {f : D → PM (Option D)} {xs : List D} {C : List D → Mem → Prop} (I : Nat → List D → Mem → Prop) (h0 : I 0 [] M)
    (hs : ∀ (k : Nat) x acc M, xs[k]? = some x → I k acc M → (f x).run M (fun o M' => I (k + 1) (acc ++ o.toList) M') fun _ _ => False) (he : ∀ acc M, I xs.length acc M → C acc M) : (compGo f xs []).run M C E0 := by
  have go : ∀ (zs : List D) (k : Nat) (acc : List D) M, xs.drop k = zs → k ≤ xs.length → I k acc M → (compGo f zs acc).run M C E0 := by
    intro zs
    induction zs with
    | nil =>
      intro k acc M e hk i
      have z : xs.length - k = 0 := by rw [← List.length_drop, e]; rfl
      have ek : k = xs.length := by omega
      exact he acc M (ek ▸ i)
    | cons z zs ih =>
      intro k acc M e hk i
      have lt : k < xs.length := by
        have := congrArg List.length e
        rw [List.length_drop, List.length_cons] at this
        omega
      rw [List.drop_eq_getElem_cons lt] at e
      injection e with e1 e2
      refine (f z).mono (E' := E0) (fun o M' q => ?_) (fun _ _ z => False.elim z) (hs k z acc M (by rw [List.getElem?_eq_getElem lt, e1]) i)
      cases o with
      | none => exact ih (k + 1) acc M' e2 lt (by simpa using q)
      | some y => exact ih (k + 1) (acc ++ [y]) M' e2 lt (by simpa using q)
  exact go xs 0 [] M rfl (Nat.zero_le _) h0
def F_l_pick : FS where
  ar := 3
  pre := fun ds M => ∃ ns a xs c, ds = [.scr ns, .cell a, .lst xs] ∧ ns.length ≤ 63 ∧ xs ≠ [] ∧ StOk a c M ∧ c + 2 ≤ 16777216
  post := fun ds M r M' => ∀ ns a xs c, ds = [.scr ns, .cell a, .lst xs] → ns.length ≤ 63 → xs ≠ [] → StOk a c M → c + 2 ≤ 16777216 → r ∈ xs ∧ StOk a (c + 2) M' ∧ Else a M M'
def b_l_pick : S := (.ret (.ix (.var 2) (.call "_law_draw" F_l_draw (.cons (.var 0) (.cons (.var 1) (.cons (.b1 .len (.var 2)) .nil))))))
theorem call_pick {M : Mem} {E0 : EK} {Q : D → Mem → Prop} {ns : List Int} {a : Addr} {xs : List D} {c : Nat} (l : ns.length ≤ 63) (hn : xs ≠ []) (st : StOk a c M) (hc : c + 2 ≤ 16777216) (q : ∀ x M', x ∈ xs → StOk a (c + 2) M' → Else a M M' → Q x M') : (PM.call F_l_pick [.scr ns, .cell a, .lst xs]).run M Q E0 :=
  ⟨rfl, ⟨ns, a, xs, c, rfl, l, hn, st, hc⟩, fun d M' h => by
    obtain ⟨h1, h2, h3⟩ := h ns a xs c rfl l hn st hc
    exact q d M' h1 h2 h3, fun _ _ z => False.elim z⟩
theorem ok_l_pick : BodyOk 3 b_l_pick F_l_pick := by
  rintro _ M hl ⟨ns, a, xs, c, rfl, hs, hn, st, hc⟩
  have pos : (0 : Int) < xs.length := by
    have := List.length_pos_iff.mpr hn
    omega
  simp [b_l_pick]
  -- the budget is the caller's; the smallest one is taken
  obtain ⟨ys, hy, g, ly⟩ := st.ex
  have st0 : StOk a ys.length M := ⟨ys, hy, g, Nat.le_refl _⟩
  refine call_draw hs pos st0 (by omega) fun v M' h0 h1 st' el => ?_
  have e : v = (v.toNat : Int) := (Int.toNat_of_nonneg h0).symm
  have lt : v.toNat < xs.length := by omega
  simp
  rw [e, at_nat, List.getElem?_eq_getElem lt]
  simp only [run_some]
  rintro ns' a' xs' c' eq _ _ st2 _
  simp only [List.cons.injEq, D.scr.injEq, D.cell.injEq, D.lst.injEq, and_true] at eq
  obtain ⟨rfl, rfl, rfl⟩ := eq
  obtain ⟨zs, hz, _, lz⟩ := st2.ex
  rw [hy] at hz
  cases hz
  exact ⟨List.getElem_mem lt, st'.mono (by omega), el⟩

/-! ### sign -/
def F_l_sign : FS where
  ar := 3
  pre := fun ds M => ∃ ns a p c, ds = [.scr ns, .cell a, .int p] ∧ ns.length ≤ 63 ∧ (1 ≤ p ∧ p ≤ 4) ∧ StOk a c M ∧ c + 40 ≤ 16777216
  post := fun ds M r M' => ∀ ns a p c, ds = [.scr ns, .cell a, .int p] → ns.length ≤ 63 → (1 ≤ p ∧ p ≤ 4) → StOk a c M → c + 40 ≤ 16777216 → ∃ s : Sgn, r = s.d ∧ s.ok p = true ∧ s.rank ≤ 2 ∧ StOk a (c + 40) M' ∧ Else a M M'
def b_l_sign : S := (.seq (.set 3 (.call "_law_draw" F_l_draw (.cons (.var 0) (.cons (.var 1) (.cons (.var 2) .nil)))))
  (.seq (.set 4 (.bin .add (.bin .add (.var 3) (.int 1)) (.call "_law_draw" F_l_draw (.cons (.var 0) (.cons (.var 1) (.cons (.bin .sub (.var 2) (.var 3)) .nil))))))
  (.seq (.set 5 (.comp (.var 6) (.one 6) (.it1 .range (.int 7)) (.call "_law_draw" F_l_draw (.cons (.var 0) (.cons (.var 1) (.cons (.int 2) .nil)))) [6]))
  (.seq (.set 5 (.ite (.var 5) (.var 5) (.lst (.cons (.call "_law_draw" F_l_draw (.cons (.var 0) (.cons (.var 1) (.cons (.int 7) .nil)))) .nil))))
  (.seq (.par [(7, false), (8, false)] (.cons (.call "_law_pick" F_l_pick (.cons (.var 0) (.cons (.var 1) (.cons (.lst (.cons (.str "none") (.cons (.str "only") (.cons (.str "limit") (.cons (.str "limit") (.cons (.str "free") .nil)))))) .nil)))) (.cons (.int 0) .nil)))
  (.seq (.iff (.cmp .eq (.var 7) (.str "only"))
  (.set 8 (.call "_law_draw" F_l_draw (.cons (.var 0) (.cons (.var 1) (.cons (.int 3) .nil)))))
  .nop)
  (.seq (.iff (.cmp .eq (.var 7) (.str "limit"))
  (.set 8 (.bin .add (.int 1) (.call "_law_draw" F_l_draw (.cons (.var 0) (.cons (.var 1) (.cons (.int 5) .nil))))))
  .nop)
  (.seq (.par [(9, false), (10, false)] (.cons (.call "_law_draw" F_l_draw (.cons (.var 0) (.cons (.var 1) (.cons (.int 24) .nil)))) (.cons (.call "_law_draw" F_l_draw (.cons (.var 0) (.cons (.var 1) (.cons (.int 25) .nil)))) .nil)))
  (.ret (.tup (.cons (.call "_law_draw" F_l_draw (.cons (.var 0) (.cons (.var 1) (.cons (.int 3) .nil)))) (.cons (.var 3) (.cons (.var 4) (.cons (.b1 .tuple (.var 5)) (.cons (.var 9) (.cons (.var 10) (.cons (.var 7) (.cons (.var 8) .nil))))))))))))))))))
theorem call_sign {M : Mem} {E0 : EK} {Q : D → Mem → Prop} {ns : List Int} {a : Addr} {p : Int} {c : Nat} (l : ns.length ≤ 63) (hn : 1 ≤ p ∧ p ≤ 4) (st : StOk a c M) (hc : c + 40 ≤ 16777216) (q : ∀ s M', s.ok p = true → s.rank ≤ 2 → StOk a (c + 40) M' → Else a M M' → Q (Sgn.d s) M') : (PM.call F_l_sign [.scr ns, .cell a, .int p]).run M Q E0 :=
  ⟨rfl, ⟨ns, a, p, c, rfl, l, hn, st, hc⟩, fun d M' h => by
    obtain ⟨s, rfl, h1, h2, h3, h4⟩ := h ns a p c rfl l hn st hc
    exact q s M' h1 h2 h3 h4, fun _ _ z => False.elim z⟩
theorem inc_app : ∀ {l : List Int} {k : Int}, incI l = true → (∀ x ∈ l, x < k) → incI (l ++ [k]) = true
  | [], _, _, _ => rfl
  | [x], k, _, h => by
    have : x < k := h x (by simp)
    simp [incI, this]
  | x :: y :: r, k, h, hk => by
    simp only [incI, Bool.and_eq_true] at h
    have ih := inc_app (l := y :: r) h.2 fun z hz => hk z (List.mem_cons_of_mem _ hz)
    simp only [List.cons_append, incI, Bool.and_eq_true]
    exact ⟨h.1, ih⟩
def sg3 : S := .seq (.par [(9, false), (10, false)] (.cons (.call "_law_draw" F_l_draw (.cons (.var 0) (.cons (.var 1) (.cons (.int 24) .nil)))) (.cons (.call "_law_draw" F_l_draw (.cons (.var 0) (.cons (.var 1) (.cons (.int 25) .nil)))) .nil)))
  (.ret (.tup (.cons (.call "_law_draw" F_l_draw (.cons (.var 0) (.cons (.var 1) (.cons (.int 3) .nil)))) (.cons (.var 3) (.cons (.var 4) (.cons (.b1 .tuple (.var 5)) (.cons (.var 9) (.cons (.var 10) (.cons (.var 7) (.cons (.var 8) .nil))))))))))
theorem sg3_ok {M M0 : Mem} {P : Post} {ns : List Int} {a : Addr} {p st en v : Int} {c : Nat} {l : List Int} {w : Str} (hs : ns.length ≤ 63) (s : StOk a c M) (hc : c + 6 ≤ 16777216) (el : Else a M0 M) (h1 : 0 ≤ st) (h2 : st < en) (h3 : en ≤ p) (hd : daysOk l = true) (hw : wordOk w v = true)
    (hP : ∀ (g : Sgn) M', g.ok p = true → g.rank ≤ 2 → StOk a (c + 6) M' → Else a M0 M' → P.rt g.d M') :
    (wpS sg3).run [.val (.scr ns), .val (.cell a), .val (.int p), .val (.int st), .val (.int en), .val (.lst (l.map .int)), .unk, .val (.str w), .val (.int v), .unk, .unk] M P := by
  unfold sg3
  rw [v_seq]
  simp [-v_seq]
  refine call_draw hs (by omega) s (by omega) fun x1 M1 a1 b1 s1 e1 => ?_
  refine call_draw hs (by omega) s1 (by omega) fun x2 M2 a2 b2 s2 e2 => ?_
  refine call_draw hs (by omega) s2 (by omega) fun x3 M3 a3 b3 s3 e3 => ?_
  refine hP ⟨x3, st, en, l, x1, x2, w, v⟩ M3 ?_ (by show x3 ≤ 2; omega) s3 (((el.trans e1).trans e2).trans e3)
  unfold Sgn.ok
  simp only [hd, hw, Bool.and_true, Bool.and_eq_true, decide_eq_true_eq]
  omega
def sg2 : S := .seq (.par [(7, false), (8, false)] (.cons (.call "_law_pick" F_l_pick (.cons (.var 0) (.cons (.var 1) (.cons (.lst (.cons (.str "none") (.cons (.str "only") (.cons (.str "limit") (.cons (.str "limit") (.cons (.str "free") .nil)))))) .nil)))) (.cons (.int 0) .nil)))
  (.seq (.iff (.cmp .eq (.var 7) (.str "only"))
  (.set 8 (.call "_law_draw" F_l_draw (.cons (.var 0) (.cons (.var 1) (.cons (.int 3) .nil)))))
  .nop)
  (.seq (.iff (.cmp .eq (.var 7) (.str "limit"))
  (.set 8 (.bin .add (.int 1) (.call "_law_draw" F_l_draw (.cons (.var 0) (.cons (.var 1) (.cons (.int 5) .nil))))))
  .nop) sg3))
theorem sg2_ok {M M0 : Mem} {P : Post} {ns : List Int} {a : Addr} {p st en : Int} {c : Nat} {l : List Int} (hs : ns.length ≤ 63) (s : StOk a c M) (hc : c + 10 ≤ 16777216) (el : Else a M0 M) (h1 : 0 ≤ st) (h2 : st < en) (h3 : en ≤ p) (hd : daysOk l = true)
    (hP : ∀ (g : Sgn) M', g.ok p = true → g.rank ≤ 2 → StOk a (c + 10) M' → Else a M0 M' → P.rt g.d M') :
    (wpS sg2).run [.val (.scr ns), .val (.cell a), .val (.int p), .val (.int st), .val (.int en), .val (.lst (l.map .int)), .unk, .unk, .unk, .unk, .unk] M P := by
  unfold sg2
  rw [v_seq]
  simp [-v_seq]
  refine call_pick hs (by simp) s (by omega) fun x M1 hx s1 e1 => ?_
  simp [-v_seq] at hx ⊢
  have e1 := el.trans e1
  rcases hx with rfl | rfl | rfl | rfl
  · rw [v_seq]
    simp [-v_seq]
    rw [v_seq]
    simp [-v_seq]
    exact sg3_ok hs s1 (by omega) e1 h1 h2 h3 hd (by decide +kernel) fun g M' q1 q2 q3 q4 => hP g M' q1 q2 (q3.mono (by omega)) q4
  · rw [v_seq]
    simp [-v_seq]
    refine call_draw hs (by omega) s1 (by omega) fun v M2 a2 b2 s2 e2 => ?_
    rw [v_seq]
    simp [-v_seq]
    exact sg3_ok hs s2 (by omega) (e1.trans e2) h1 h2 h3 hd (by simp [wordOk]; omega) fun g M' q1 q2 q3 q4 => hP g M' q1 q2 (q3.mono (by omega)) q4
  · rw [v_seq]
    simp [-v_seq]
    rw [v_seq]
    simp [-v_seq]
    refine call_draw hs (by omega) s1 (by omega) fun v M2 a2 b2 s2 e2 => ?_
    simp [-v_seq]
    exact sg3_ok hs s2 (by omega) (e1.trans e2) h1 h2 h3 hd (by simp [wordOk]; omega) fun g M' q1 q2 q3 q4 => hP g M' q1 q2 (q3.mono (by omega)) q4
  · rw [v_seq]
    simp [-v_seq]
    rw [v_seq]
    simp [-v_seq]
    exact sg3_ok hs s1 (by omega) e1 h1 h2 h3 hd (by decide +kernel) fun g M' q1 q2 q3 q4 => hP g M' q1 q2 (q3.mono (by omega)) q4
theorem ok_l_sign : BodyOk 11 b_l_sign F_l_sign := by
  rintro _ M hl ⟨ns, a, p, c0, rfl, hs, ⟨p1, p4⟩, st, hc0⟩
  obtain ⟨ys, hy, g, ly⟩ := st.ex
  have st0 : StOk a ys.length M := ⟨ys, hy, g, Nat.le_refl _⟩
  have hc : ys.length + 40 ≤ 16777216 := by omega
  have post : ∀ (s : Sgn) M', s.ok p = true → s.rank ≤ 2 → StOk a (ys.length + 40) M' → Else a M M' → F_l_sign.post [.scr ns, .cell a, .int p] M s.d M' := by
    rintro s M' h1 h2 h3 h4 ns' a' p' c' eq _ _ st2 _
    simp only [List.cons.injEq, D.scr.injEq, D.cell.injEq, D.int.injEq, and_true] at eq
    obtain ⟨rfl, rfl, rfl⟩ := eq
    obtain ⟨zs, hz, _, lz⟩ := st2.ex
    rw [hy] at hz
    cases hz
    exact ⟨s, rfl, h1, h2, h3.mono (by omega), h4⟩
  generalize F_l_sign.post [.scr ns, .cell a, .int p] M = Po at post
  unfold b_l_sign
  rw [v_seq]
  simp [-v_seq]
  refine call_draw hs (by omega) st0 (by omega) fun v1 M1 a1 b1 s1 e1 => ?_
  rw [v_seq]
  simp [-v_seq]
  refine call_draw hs (by omega) s1 (by omega) fun v2 M2 a2 b2 s2 e2 => ?_
  simp only [bo_add]
  rw [v_seq]
  simp [-v_seq, w_comp]
  rw [range_len]
  refine ⟨by decide, comp_st (fun k acc M' => ∃ l : List Int, acc = l.map .int ∧ incI l = true ∧ (∀ x ∈ l, 0 ≤ x ∧ x < k) ∧ l.length ≤ k ∧ StOk a (ys.length + 2 + 2 + 2 * k) M' ∧ Else a M M') ⟨[], rfl, rfl, (fun x hx => nomatch hx), Nat.le_refl _, s2, e1.trans e2⟩ ?_ ?_⟩
  · rintro k x acc M3 hx ⟨l, rfl, i1, i2, i3, i4, i5⟩
    obtain ⟨rfl, lt⟩ := range_get hx
    simp
    refine call_draw hs (by omega) i4 (by omega) fun v M4 a4 b4 s4 e4 => ?_
    simp
    by_cases z : v = 0
    · rw [if_pos z]
      exact ⟨l, by simp, i1, fun x hx => ⟨(i2 x hx).1, by have := (i2 x hx).2; omega⟩, by omega, s4.mono (by omega), i5.trans e4⟩
    · rw [if_neg z]
      refine ⟨l ++ [(k : Int)], by simp, inc_app i1 fun x hx => (i2 x hx).2, fun x hx => ?_, by simp; omega, s4.mono (by omega), i5.trans e4⟩
      rcases List.mem_append.mp hx with hx | hx
      · exact ⟨(i2 x hx).1, by have := (i2 x hx).2; omega⟩
      · rw [List.mem_singleton.mp hx]
        omega
  · rw [range_len]
    rintro acc M3 ⟨l, rfl, i1, i2, i3, i4, i5⟩
    rw [v_seq]
    simp [-v_seq]
    have fin : ∀ (l : List Int) (M4 : Mem) (c : Nat), daysOk l = true → StOk a c M4 → c ≤ ys.length + 20 → Else a M M4 → (wpS sg2).run [.val (.scr ns), .val (.cell a), .val (.int p), .val (.int v1), .val (.int (v1 + 1 + v2)), .val (.lst (l.map .int)), .unk, .unk, .unk, .unk, .unk] M4 { nx := fun _ M' => Po .non M', rt := fun d M' => Po d M', ex := fun k M' => F_l_sign.exc [.scr ns, .cell a, .int p] M k M' } := fun l M4 c hd s4 hc4 e4 =>
      sg2_ok hs s4 (by omega) e4 (by omega) (by omega) (by omega) hd fun g M' q1 q2 q3 q4 => post g M' q1 q2 (q3.mono (by omega)) q4
    by_cases z : l = []
    · rw [if_pos z]
      refine call_draw hs (by omega) i4 (by omega) fun v M4 a4 b4 s4 e4 => ?_
      exact fin [v] M4 _ (by simp [daysOk, incI]; omega) s4 (by omega) (i5.trans e4)
    · rw [if_neg z]
      refine fin l M3 _ ?_ i4 (by omega) i5
      have : 1 ≤ l.length := List.length_pos_iff.mpr z
      simp only [daysOk, i1, Bool.and_true, Bool.and_eq_true, decide_eq_true_eq, List.all_eq_true]
      exact ⟨⟨this, i3⟩, fun x hx => ⟨(i2 x hx).1, by have := (i2 x hx).2; omega⟩⟩
end PL
set_option Elab.async false
set_option linter.all false
set_option maxRecDepth 100000
namespace PL
open PySem L2 PyProof.Rows PySem.Spec

/-! ### street -/
theorem py_sgn (s t : Sgn) : pyEq s.d t.d = decide (s = t) := by
  obtain ⟨a1, a2, a3, a4, a5, a6, a7, a8⟩ := s
  obtain ⟨b1, b2, b3, b4, b5, b6, b7, b8⟩ := t
  show ((a1 == b1) && ((a2 == b2) && ((a3 == b3) && (PyData.eqvAll (toPys (a4.map .int)) (toPys (b4.map .int)) && ((a5 == b5) && ((a6 == b6) && ((a7 == b7) && ((a8 == b8) && true)))))))) = _
  rw [eqv_ints]
  rw [Bool.eq_iff_iff]
  simp only [Bool.and_eq_true, beq_iff_eq, decide_eq_true_eq, Sgn.mk.injEq, and_true]
theorem inD_sgn (s : Sgn) : ∀ l : List Sgn, inD s.d (l.map Sgn.d) = decide (s ∈ l)
  | [] => by simp
  | x :: r => by
    rw [List.map_cons, inD_cons, inD_sgn s r, py_sgn, Bool.eq_iff_iff]
    simp only [Bool.or_eq_true, decide_eq_true_eq, List.mem_cons]
    exact ⟨fun h => h.imp Eq.symm id, fun h => h.imp Eq.symm id⟩
theorem sh_str {w : Str} (h : PyData.strOk w = true) : ∀ n, shN n (.str w)
  | 0 => h
  | _ + 1 => h
theorem word_ok {w : Str} {v : Int} (h : wordOk w v = true) : PyData.strOk w = true := by
  rcases word_four h with rfl | rfl | rfl | rfl
  · exact strOk4.1
  · exact strOk4.2.1
  · exact strOk4.2.2.1
  · exact strOk4.2.2.2
theorem sh_sgn {s : Sgn} (h : wordOk s.word s.value = true) (n : Nat) : shN (n + 2) s.d := by
  intro x hx
  simp only [List.mem_cons, List.not_mem_nil, or_false] at hx
  rcases hx with rfl | rfl | rfl | rfl | rfl | rfl | rfl | rfl
  · exact sh_int _
  · exact sh_int _
  · exact sh_int _
  · exact sh_iL _ _
  · exact sh_int _
  · exact sh_int _
  · exact sh_str (word_ok h) _
  · exact sh_int _
theorem inOk_sgn {s : Sgn} {l : List Sgn} (h : wordOk s.word s.value = true) (hl : ∀ t ∈ l, wordOk t.word t.value = true) : inOk s.d (l.map Sgn.d) := .inr ⟨sh_sgn h 58, fun y hy => by
  obtain ⟨t, ht, rfl⟩ := List.mem_map.mp hy
  exact sh_sgn (hl t ht) 58⟩
def F_l_street : FS where
  ar := 4
  pre := fun ds M => ∃ ns a p m c, ds = [.scr ns, .cell a, .int p, .int m] ∧ ns.length ≤ 63 ∧ (1 ≤ p ∧ p ≤ 4) ∧ (0 ≤ m ∧ m ≤ 6) ∧ StOk a c M ∧ c + 250 ≤ 16777216
  post := fun ds M r M' => ∀ ns a p m c, ds = [.scr ns, .cell a, .int p, .int m] → ns.length ≤ 63 → (1 ≤ p ∧ p ≤ 4) → (0 ≤ m ∧ m ≤ 6) → StOk a c M → c + 250 ≤ 16777216 →
    ∃ t : Strt, r = t.d ∧ t.Is ∧ t.places = p ∧ (t.sgns.length : Int) ≤ m ∧ (∀ s ∈ t.sgns, s.rank ≤ 2) ∧ StOk a (c + 250) M' ∧ Else a M M'
def b_l_street : S := (.seq (.set 4 (.lst .nil))
  (.seq (.forr (.one 5) (.it1 .range (.call "_law_draw" F_l_draw (.cons (.var 0) (.cons (.var 1) (.cons (.bin .add (.var 3) (.int 1)) .nil)))))
  (.seq (.set 6 (.call "_law_sign" F_l_sign (.cons (.var 0) (.cons (.var 1) (.cons (.var 2) .nil)))))
  (.set 4 (.bin .add (.var 4) (.bin .mul (.lst (.cons (.var 6) .nil)) (.b1 .int (.cmp .notin (.var 6) (.var 4))))))))
  (.ret (.tup (.cons (.var 2) (.cons (.b1 .tuple (.var 4)) .nil))))))
theorem call_street {M : Mem} {E0 : EK} {Q : D → Mem → Prop} {ns : List Int} {a : Addr} {p m : Int} {c : Nat} (l : ns.length ≤ 63) (hn : 1 ≤ p ∧ p ≤ 4) (hm : 0 ≤ m ∧ m ≤ 6) (st : StOk a c M) (hc : c + 250 ≤ 16777216)
    (q : ∀ t M', Strt.Is t → t.places = p → (t.sgns.length : Int) ≤ m → (∀ s ∈ t.sgns, s.rank ≤ 2) → StOk a (c + 250) M' → Else a M M' → Q t.d M') : (PM.call F_l_street [.scr ns, .cell a, .int p, .int m]).run M Q E0 :=
  ⟨rfl, ⟨ns, a, p, m, c, rfl, l, hn, hm, st, hc⟩, fun d M' h => by
    obtain ⟨t, rfl, h1, h2, h3, h4, h5, h6⟩ := h ns a p m c rfl l hn hm st hc
    exact q t M' h1 h2 h3 h4 h5 h6, fun _ _ z => False.elim z⟩
theorem ok_l_street : BodyOk 7 b_l_street F_l_street := by
  rintro _ M hl ⟨ns, a, p, m, c0, rfl, hs, ⟨p1, p4⟩, ⟨m0, m6⟩, st, hc0⟩
  obtain ⟨ys, hy, g, ly⟩ := st.ex
  have st0 : StOk a ys.length M := ⟨ys, hy, g, Nat.le_refl _⟩
  have post : ∀ (t : Strt) M', t.Is → t.places = p → (t.sgns.length : Int) ≤ m → (∀ s ∈ t.sgns, s.rank ≤ 2) → StOk a (ys.length + 250) M' → Else a M M' → F_l_street.post [.scr ns, .cell a, .int p, .int m] M t.d M' := by
    rintro t M' h1 h2 h3 h4 h5 h6 ns' a' p' m' c' eq _ _ _ st2 _
    simp only [List.cons.injEq, D.scr.injEq, D.cell.injEq, D.int.injEq, and_true] at eq
    obtain ⟨rfl, rfl, rfl, rfl⟩ := eq
    obtain ⟨zs, hz, _, lz⟩ := st2.ex
    rw [hy] at hz
    cases hz
    exact ⟨t, rfl, h1, h2, h3, h4, h5.mono (by omega), h6⟩
  generalize F_l_street.post [.scr ns, .cell a, .int p, .int m] M = Po at post
  unfold b_l_street
  rw [v_seq]
  simp [-v_seq]
  rw [v_seq, v_forr]
  simp [-v_seq]
  refine call_draw hs (by omega) st0 (by omega) fun v M1 a1 b1 s1 e1 => ?_
  simp [-v_seq]
  refine ⟨by omega, for_run (fun k ρ M' => ∃ (l : List Sgn) (x y : Sl), ρ = [.val (.scr ns), .val (.cell a), .val (.int p), .val (.int m), .val (.lst (l.map Sgn.d)), x, y] ∧ l.length ≤ k ∧ (∀ s ∈ l, s.ok p = true ∧ s.rank ≤ 2) ∧ l.Nodup ∧ StOk a (ys.length + 2 + 40 * k) M' ∧ Else a M M') ⟨[], _, _, rfl, Nat.le_refl _, (fun s h => nomatch h), List.nodup_nil, s1, e1⟩ ?_ ?_⟩
  · rintro k x ρ M2 hx ⟨l, y, z, rfl, i1, i2, i3, i4, i5⟩
    obtain ⟨rfl, lt⟩ := range_get hx
    have k6 : k ≤ 5 := by omega
    rw [tg_one, v_seq]
    simp [-v_seq]
    refine call_sign hs ⟨p1, p4⟩ i4 (by omega) fun s M3 o1 o2 s3 e3 => ?_
    have ws := (Sgn.ok_is o1).w
    have wl : ∀ t ∈ l, wordOk t.word t.value = true := fun t ht => (Sgn.ok_is (i2 t ht).1).w
    refine ⟨inOk_sgn ws wl, ?_⟩
    rw [inD_sgn]
    by_cases hm : s ∈ l
    · simp [hm]
      exact ⟨by omega, l, rfl, by omega, i2, i3, s3.mono (by omega), i5.trans e3⟩
    · simp [hm]
      refine ⟨by omega, l ++ [s], by simp, by simp; omega, fun t ht => ?_, ?_, s3.mono (by omega), i5.trans e3⟩
      · rcases List.mem_append.mp ht with ht | ht
        · exact i2 t ht
        · rw [List.mem_singleton.mp ht]; exact ⟨o1, o2⟩
      · refine List.nodup_append.mpr ⟨i3, by simp, fun x hx y hy e => ?_⟩
        rw [List.mem_singleton.mp hy] at e
        exact hm (e ▸ hx)
  · rw [range_len]
    rintro ρ M2 ⟨l, x, y, rfl, i1, i2, i3, i4, i5⟩
    simp
    refine post ⟨p, l⟩ M2 ⟨p1, p4, ?_, fun s hs => (i2 s hs).1, i3⟩ rfl ?_ (fun s hs => (i2 s hs).2) (i4.mono (by omega)) i5
    · show l.length ≤ 6
      omega
    · show (l.length : Int) ≤ m
      omega
end PL
set_option Elab.async false
set_option linter.all false
set_option maxRecDepth 100000
namespace PL
open PySem L2 PyProof.Rows PySem.Spec

/-! ## signs that hold and count, in plain Lean (as in PK04) -/
theorem maxI_mem : ∀ (r : List Int) (a : Int), maxI a r ∈ a :: r ∧ ∀ x ∈ a :: r, x ≤ maxI a r
  | [], a => ⟨by simp [maxI], by simp [maxI]⟩
  | b :: r, a => by
    unfold maxI
    split
    · rename_i h
      obtain ⟨h1, h2⟩ := maxI_mem r b
      exact ⟨List.mem_cons_of_mem _ h1, fun x hx => by
        rcases List.mem_cons.mp hx with rfl | hx
        · have := h2 b (by simp); omega
        · exact h2 x hx⟩
    · rename_i h
      obtain ⟨h1, h2⟩ := maxI_mem r a
      refine ⟨?_, fun x hx => ?_⟩
      · rcases List.mem_cons.mp h1 with e | e
        · rw [e]; simp
        · exact List.mem_cons_of_mem _ (List.mem_cons_of_mem _ e)
      · rcases List.mem_cons.mp hx with rfl | hx
        · exact h2 x (by simp)
        · rcases List.mem_cons.mp hx with rfl | hx
          · have := h2 a (by simp); omega
          · exact h2 x (List.mem_cons_of_mem _ hx)
theorem maxL_mem {l : List Int} (h : l ≠ []) : maxL l ∈ l ∧ ∀ x ∈ l, x ≤ maxL l := by
  cases l with
  | nil => exact absurd rfl h
  | cons a r => exact maxI_mem r a
theorem maxL_eq {l : List Int} {m : Int} (h : m ∈ l) (h2 : ∀ x ∈ l, x ≤ m) : maxL l = m := by
  have ne : l ≠ [] := fun e => by rw [e] at h; cases h
  obtain ⟨q1, q2⟩ := maxL_mem ne
  have := q2 m h
  have := h2 _ q1
  omega
/-- the signs that hold, their greatest rank, those that count -/
def Strt.S (t : Strt) (p h : Int) : List Sgn := t.sgns.filter fun s => s.holds p h
def topS (l : List Sgn) : Int := maxL (l.map (·.rank) ++ [-1])
def csOf (l : List Sgn) : List Sgn := l.filter fun s => decide (s.rank = topS l)
theorem at_zip {t : Strt} {q : Sgn × Nat} (h : q ∈ t.sgns.zipIdx) : t.at q.2 = q.1 := by
  obtain ⟨s, k⟩ := q
  obtain ⟨h1, h2, h3⟩ := List.mem_zipIdx h
  unfold Strt.at
  have lt : k < t.sgns.length := by simpa using h2
  rw [List.getD_eq_getElem?_getD, List.getElem?_eq_getElem lt]
  simp only [Option.getD_some]
  rw [h3]
  simp
theorem zip_fst : ∀ (l : List Sgn) (k : Nat), (l.zipIdx k).map (·.1) = l
  | [], _ => rfl
  | x :: r, k => by rw [List.zipIdx_cons, List.map_cons, zip_fst r (k + 1)]
theorem hold_at (t : Strt) (p h : Int) : (t.hold p h).map t.at = t.S p h := by
  unfold Strt.hold Strt.S
  rw [List.map_map]
  have e : (t.sgns.zipIdx.filter fun q => q.1.holds p h).map (t.at ∘ fun q => q.2) = (t.sgns.zipIdx.filter fun q => q.1.holds p h).map (·.1) :=
    List.map_congr_left fun q hq => at_zip (List.mem_filter.mp hq).1
  rw [e]
  have z := zip_fst t.sgns 0
  conv => rhs; rw [← z]
  rw [List.filter_map]
  rfl
theorem top_S (t : Strt) (p h : Int) : t.top p h = topS (t.S p h) := by
  unfold Strt.top topS
  rw [← hold_at, List.map_map]
  rfl
theorem count_at (t : Strt) (p h : Int) : (t.count p h).map t.at = csOf (t.S p h) := by
  unfold Strt.count csOf
  rw [top_S, ← hold_at, List.filter_map]
  rfl
theorem words_cs (t : Strt) (p h : Int) : t.words p h = (csOf (t.S p h)).map fun s => (s.word, s.value) := by
  rw [← count_at]
  unfold Strt.words
  rw [List.map_map]
  rfl
theorem Strt.Is.sub {t : Strt} {l : List Sgn} (h : t.Is) (s : l.Sublist t.sgns) : Strt.Is ⟨t.places, l⟩ :=
  ⟨h.lo, h.hi, Nat.le_trans s.length_le h.few, fun x hx => h.all x (s.subset hx), h.nd.sublist s⟩
theorem topS_ne (l : List Sgn) : l.map (·.rank) ++ [-1] ≠ [] := by simp
theorem topS_ge {l : List Sgn} {s : Sgn} (h : s ∈ l) : s.rank ≤ topS l := (maxL_mem (topS_ne l)).2 _ (List.mem_append_left _ (List.mem_map_of_mem h))
theorem drop_less {A B : List Sgn} {s : Sgn} (h : s.rank ≠ topS (A ++ s :: B)) : csOf (A ++ B) = csOf (A ++ s :: B) := by
  have e : topS (A ++ B) = topS (A ++ s :: B) := by
    obtain ⟨q1, q2⟩ := maxL_mem (topS_ne (A ++ s :: B))
    refine maxL_eq ?_ fun x hx => ?_
    · rcases List.mem_append.mp q1 with q1 | q1
      · obtain ⟨y, hy, ey⟩ := List.mem_map.mp q1
        refine List.mem_append_left _ (List.mem_map.mpr ⟨y, ?_, ey⟩)
        rcases List.mem_append.mp hy with hy | hy
        · exact List.mem_append_left _ hy
        · rcases List.mem_cons.mp hy with rfl | hy
          · exact absurd ey h
          · exact List.mem_append_right _ hy
      · exact List.mem_append_right _ q1
    · refine q2 x ?_
      rcases List.mem_append.mp hx with hx | hx
      · obtain ⟨y, hy, ey⟩ := List.mem_map.mp hx
        refine List.mem_append_left _ (List.mem_map.mpr ⟨y, ?_, ey⟩)
        rcases List.mem_append.mp hy with hy | hy
        · exact List.mem_append_left _ hy
        · exact List.mem_append_right _ (List.mem_cons_of_mem _ hy)
      · exact List.mem_append_right _ hx
  unfold csOf
  rw [e, List.filter_append, List.filter_append, List.filter_cons, if_neg (by simpa using h)]
theorem cs_alone {l : List Sgn} (h : ∀ s ∈ l, 0 ≤ s.rank) : csOf (csOf l) = csOf l := by
  by_cases c : csOf l = []
  · rw [c]; rfl
  · have e : topS (csOf l) = topS l := by
      obtain ⟨s, r, es⟩ := List.exists_cons_of_ne_nil c
      have ms : s ∈ csOf l := by rw [es]; simp
      have rs : s.rank = topS l := by simpa using (List.mem_filter.mp ms).2
      refine maxL_eq ?_ fun x hx => ?_
      · rw [← rs]
        exact List.mem_append_left _ (List.mem_map_of_mem ms)
      · rcases List.mem_append.mp hx with hx | hx
        · obtain ⟨y, hy, rfl⟩ := List.mem_map.mp hx
          exact topS_ge (List.mem_filter.mp hy).1
        · rw [List.mem_singleton.mp hx]
          have := h s (List.mem_filter.mp ms).1
          omega
    rw [csOf, e]
    exact List.filter_eq_self.mpr fun x hx => (List.mem_filter.mp hx).2
theorem cs_bar {l : List Sgn} {b : Sgn} (h : ∀ s ∈ l, s.rank ≤ 2) (hb : b.rank = 3) : csOf (l ++ [b]) = [b] := by
  have e : topS (l ++ [b]) = 3 := by
    refine maxL_eq ?_ fun x hx => ?_
    · exact List.mem_append_left _ (List.mem_map.mpr ⟨b, by simp, hb⟩)
    · rcases List.mem_append.mp hx with hx | hx
      · obtain ⟨y, hy, rfl⟩ := List.mem_map.mp hx
        rcases List.mem_append.mp hy with hy | hy
        · have := h y hy; omega
        · rw [List.mem_singleton.mp hy, hb]; exact Int.le_refl _
      · rw [List.mem_singleton.mp hx]; decide
  unfold csOf
  rw [e, List.filter_append, List.filter_eq_nil_iff.mpr fun s hs => by have := h s hs; simp; omega]
  simp [hb]

/-! ### comparisons of lists -/
theorem nat_inj : ∀ {a b : List Nat}, a.map (fun (k : Nat) => (k : Int)) = b.map (fun (k : Nat) => (k : Int)) → a = b
  | [], [], _ => rfl
  | [], _ :: _, h => by simp at h
  | _ :: _, [], h => by simp at h
  | x :: r, y :: s, h => by
    simp only [List.map_cons, List.cons.injEq] at h
    rw [nat_inj h.2, show x = y by omega]
@[simp] theorem ok_nats (a b : List Nat) : eqOk (nats a) (nats b) := by
  rw [nats_iL, nats_iL]
  exact ok_iL _ _
@[simp] theorem py_nats (a b : List Nat) : pyEq (nats a) (nats b) = decide (a = b) := by
  rw [nats_iL, nats_iL, py_iL, decide_eq_decide]
  exact ⟨nat_inj, fun h => by rw [h]⟩
theorem optI_or (l : List Int) : optI l = .non ∨ ∃ i, optI l = .int i := by
  cases l with
  | nil => exact .inl rfl
  | cons a r => exact .inr ⟨_, rfl⟩
theorem py_opt (l : List Int) : eqOk (optI l) (optI l) ∧ pyEq (optI l) (optI l) = true := by
  rcases optI_or l with e | ⟨i, e⟩ <;> rw [e]
  · exact ⟨.inl ⟨rfl, rfl⟩, rfl⟩
  · simp

@[simp] theorem ix_strt0 {M : Mem} {E0 : EK} {Q : D → Mem → Prop} {t : Strt} : (ixP t.d (.int 0)).run M Q E0 = Q (.int t.places) M := rfl
@[simp] theorem ix_strt1 {M : Mem} {E0 : EK} {Q : D → Mem → Prop} {t : Strt} : (ixP t.d (.int 1)).run M Q E0 = Q (.tup (t.sgns.map Sgn.d)) M := rfl
@[simp] theorem ix_sgn0 {M : Mem} {E0 : EK} {Q : D → Mem → Prop} {t : Sgn} : (ixP t.d (.int 0)).run M Q E0 = Q (.int t.rank) M := rfl
@[simp] theorem it_nats {M : Mem} {E0 : EK} {Q : D → Mem → Prop} {l : List Nat} : (it1P .seq (nats l)).run M Q E0 = Q (.tup (l.map fun (k : Nat) => .int k)) M := rfl
theorem ix_sgns {M : Mem} {E0 : EK} {Q : D → Mem → Prop} {t : Strt} {k : Nat} (h : k < t.sgns.length) : (ixP (.tup (t.sgns.map Sgn.d)) (.int (k : Nat))).run M Q E0 = Q (t.at k).d M := by
  rw [ix_tup, at_nat, Strt.at_d h]
  rfl
theorem self_nats (l : List Nat) : eqOk (nats l) (nats l) ∧ pyEq (nats l) (nats l) = true := by
  rw [nats_iL, py_iL]
  exact ⟨ok_iL _ _, decide_eq_true rfl⟩
theorem inOk_nat (i : Nat) (l : List Nat) : inOk (.int i) (l.map fun (k : Nat) => D.int k) := inOk_flat rfl (by rw [List.all_map]; exact List.all_eq_true.mpr fun _ _ => rfl)
theorem inD_nat (i : Nat) : ∀ l : List Nat, inD (.int i) (l.map fun (k : Nat) => D.int k) = decide (i ∈ l)
  | [] => by simp
  | x :: r => by
    rw [List.map_cons, inD_cons, inD_nat i r, pyEq_int, Bool.eq_iff_iff]
    simp only [Bool.or_eq_true, decide_eq_true_eq, List.mem_cons]
    exact ⟨fun h => h.imp (fun e => by omega) id, fun h => h.imp (fun e => by omega) id⟩
theorem filter_at {t : Strt} {p h : Int} (is : t.Is) : ((t.hold p h).filter fun k => decide ((t.at k).rank = maxL ((t.hold p h).map fun k => (t.at k).rank))) = t.count p h := by
  unfold Strt.count
  by_cases c : t.hold p h = []
  · rw [c]; rfl
  · have e : t.top p h = maxL ((t.hold p h).map fun k => (t.at k).rank) := by
      unfold Strt.top
      obtain ⟨q1, q2⟩ := maxL_mem (l := (t.hold p h).map fun k => (t.at k).rank) (by simpa using c)
      refine maxL_eq (List.mem_append_left _ q1) fun x hx => ?_
      rcases List.mem_append.mp hx with hx | hx
      · exact q2 x hx
      · rw [List.mem_singleton.mp hx]
        obtain ⟨k, hk, ek⟩ := List.mem_map.mp q1
        rw [← ek]
        have := (Sgn.ok_is (is.all _ (at_mem (hold_lt hk)))).r0
        omega
    rw [e]
theorem cut_to (ds : List D) (k : Nat) : cutD ds none (some (k : Int)) = ds.take k := by
  unfold cutD
  rw [HT.sIx_nat, HT.sIx_none, Nat.sub_zero, List.drop_zero]
  by_cases h : k ≤ ds.length
  · rw [Nat.min_eq_left h]
  · rw [Nat.min_eq_right (by omega), List.take_length, List.take_of_length_le (by omega)]
theorem split_at {t : Strt} {k : Nat} (h : k < t.sgns.length) : t.sgns = t.sgns.take k ++ t.at k :: t.sgns.drop (k + 1) := by
  unfold Strt.at
  rw [List.getD_eq_getElem?_getD, List.getElem?_eq_getElem h, Option.getD_some, List.getElem_cons_drop, List.take_append_drop]
theorem rest_words {t : Strt} {p h : Int} {k : Nat} (hk : k ∈ t.hold p h) (hc : k ∉ t.count p h) : t.words p h = (⟨t.places, t.sgns.take k ++ t.sgns.drop (k + 1)⟩ : Strt).words p h := by
  have lt := hold_lt hk
  have hh : (t.at k).holds p h = true := by
    have : t.at k ∈ t.S p h := by rw [← hold_at]; exact List.mem_map_of_mem hk
    exact (List.mem_filter.mp this).2
  have ne : (t.at k).rank ≠ topS (t.S p h) := fun e => hc (List.mem_filter.mpr ⟨hk, by rw [top_S]; simpa using e⟩)
  rw [words_cs, words_cs]
  have e1 : t.S p h = ((t.sgns.take k).filter fun s => s.holds p h) ++ t.at k :: ((t.sgns.drop (k + 1)).filter fun s => s.holds p h) := by
    unfold Strt.S
    conv => lhs; rw [split_at lt]
    rw [List.filter_append, List.filter_cons, if_pos hh]
  have e2 : (⟨t.places, t.sgns.take k ++ t.sgns.drop (k + 1)⟩ : Strt).S p h = ((t.sgns.take k).filter fun s => s.holds p h) ++ ((t.sgns.drop (k + 1)).filter fun s => s.holds p h) := by
    unfold Strt.S
    rw [List.filter_append]
  rw [e2, drop_less (s := t.at k) (by rw [← e1]; exact ne), ← e1]
theorem alone_words {t : Strt} {p h : Int} (is : t.Is) : t.words p h = (⟨t.places, csOf (t.S p h)⟩ : Strt).words p h := by
  rw [words_cs, words_cs]
  have e : (⟨t.places, csOf (t.S p h)⟩ : Strt).S p h = csOf (t.S p h) := List.filter_eq_self.mpr fun x hx => (List.mem_filter.mp (List.mem_filter.mp hx).1).2
  rw [e, cs_alone (l := t.S p h) fun s hs => (Sgn.ok_is (is.all s (List.mem_filter.mp hs).1)).r0]
theorem Strt.Spot.with {t : Strt} {p h : Int} {l : List Sgn} (o : t.Spot p h) (s : l.Sublist t.sgns) : (⟨t.places, l⟩ : Strt).Spot p h :=
  ⟨o.is.sub s, o.p0, o.p1, o.h0, o.h1⟩
theorem kinds_self (ws : List Wd) : ([0, 1, 2] : List Int).filter (fun k => decide (k ∈ kindsOf ws)) = kindsOf ws := by
  unfold kindsOf
  split
  · rfl
  · have e : ∀ (f : Int → Bool), ([0, 1, 2] : List Int).filter (fun k => decide (k ∈ ([0, 1, 2] : List Int).filter f)) = ([0, 1, 2] : List Int).filter f := fun f => by
      apply List.filter_congr
      intro x hx
      rw [Bool.eq_iff_iff]
      simp only [decide_eq_true_eq, List.mem_filter]
      exact ⟨fun h => h.2, fun h => ⟨hx, h⟩⟩
    exact e _
end PL
set_option Elab.async false
set_option linter.all false
set_option maxRecDepth 100000
namespace PL
open PySem L2 PyProof.Rows PySem.Spec

/-! ## what the laws find by hand -/
structure Sgn.Fit (s : Sgn) : Prop where
  dl : s.days.length ≤ 7
  f0 : 0 ≤ s.first
  f1 : s.first ≤ 23
  l0 : 0 ≤ s.last
  l1 : s.last ≤ 24
theorem Sgn.Is.fit {p : Int} {s : Sgn} (h : s.Is p) : s.Fit := ⟨h.dl, h.f0, h.f1, h.l0, h.l1⟩
theorem Strt.Is.fit {t : Strt} (h : t.Is) {s : Sgn} (hs : s ∈ t.sgns) : s.Fit := (Sgn.ok_is (h.all s hs)).fit
theorem Sgn.Fit.len {s : Sgn} (h : s.Fit) : 1 ≤ s.len ∧ s.len ≤ 47 := by
  have := h.f0
  have := h.f1
  have := h.l0
  have := h.l1
  unfold Sgn.len
  split <;> omega
def Sgn.dayHrs (s : Sgn) (day : Int) : List Int := (List.range s.len.toNat).map fun (k : Nat) => (24 * day + s.first + k) % 168
def Sgn.hrs (s : Sgn) : List Int := s.days.flatMap s.dayHrs
theorem Sgn.mem_hrs {s : Sgn} {h : Int} (h0 : 0 ≤ h) (h1 : h < 168) : h ∈ s.hrs ↔ s.on h = true := by
  unfold Sgn.hrs Sgn.on Sgn.dayHrs
  rw [List.mem_flatMap, List.any_eq_true]
  constructor
  · rintro ⟨d, hd, hm⟩
    obtain ⟨k, hk, e⟩ := List.mem_map.mp hm
    rw [List.mem_range] at hk
    exact ⟨d, hd, decide_eq_true (by omega)⟩
  · rintro ⟨d, hd, hm⟩
    have hm := of_decide_eq_true hm
    exact ⟨d, hd, List.mem_map.mpr ⟨((h - 24 * d - s.first) % 168).toNat, List.mem_range.mpr (by omega), by omega⟩⟩
def F_l_hours : FS := tyF 1 (fun (s : Sgn) => [s.d]) (fun s _ => s.Fit) fun s => iL s.hrs
def b_l_hours : S := (.seq (.set 1 (.lst .nil))
  (.seq (.forr (.one 2) (.it1 .seq (.ix (.var 0) (.int 3)))
  (.seq (.set 3 (.ite (.cmp .gt (.ix (.var 0) (.int 5)) (.ix (.var 0) (.int 4))) (.bin .sub (.ix (.var 0) (.int 5)) (.ix (.var 0) (.int 4))) (.bin .add (.bin .sub (.int 24) (.ix (.var 0) (.int 4))) (.ix (.var 0) (.int 5)))))
  (.set 1 (.bin .add (.var 1) (.comp (.bin .mod (.bin .add (.bin .add (.bin .mul (.int 24) (.var 2)) (.ix (.var 0) (.int 4))) (.var 4)) (.int 168)) (.one 4) (.it1 .range (.var 3)) (.bl true) [4])))))
  (.ret (.var 1))))
theorem inj_s : ∀ x y : Sgn, [x.d] = [y.d] → x = y := fun x y h => sgn_inj (by simpa using h)
theorem call_l_hours {M : Mem} {E0 : EK} {Q : D → Mem → Prop} {s : Sgn} (o : s.Fit) : (PM.call F_l_hours [s.d]).run M Q E0 = Q (iL s.hrs) M := call_tyE inj_s s rfl rfl o
@[simp] theorem ix_sgn1 {M : Mem} {E0 : EK} {Q : D → Mem → Prop} {t : Sgn} : (ixP t.d (.int 1)).run M Q E0 = Q (.int t.start) M := rfl
@[simp] theorem ix_sgn2 {M : Mem} {E0 : EK} {Q : D → Mem → Prop} {t : Sgn} : (ixP t.d (.int 2)).run M Q E0 = Q (.int t.stop) M := rfl
@[simp] theorem ix_sgn3 {M : Mem} {E0 : EK} {Q : D → Mem → Prop} {t : Sgn} : (ixP t.d (.int 3)).run M Q E0 = Q (.tup (t.days.map .int)) M := rfl
@[simp] theorem ix_sgn4 {M : Mem} {E0 : EK} {Q : D → Mem → Prop} {t : Sgn} : (ixP t.d (.int 4)).run M Q E0 = Q (.int t.first) M := rfl
@[simp] theorem ix_sgn5 {M : Mem} {E0 : EK} {Q : D → Mem → Prop} {t : Sgn} : (ixP t.d (.int 5)).run M Q E0 = Q (.int t.last) M := rfl
@[simp] theorem ix_sgn6 {M : Mem} {E0 : EK} {Q : D → Mem → Prop} {t : Sgn} : (ixP t.d (.int 6)).run M Q E0 = Q (.str t.word) M := rfl
@[simp] theorem ix_sgn7 {M : Mem} {E0 : EK} {Q : D → Mem → Prop} {t : Sgn} : (ixP t.d (.int 7)).run M Q E0 = Q (.int t.value) M := rfl
theorem take_get {α : Type} {l : List α} {k : Nat} {x : α} (h : l[k]? = some x) : l.take (k + 1) = l.take k ++ [x] := by
  rw [List.take_succ, h]
  rfl
theorem map_get {α β : Type} {f : α → β} {l : List α} {k : Nat} {y : β} (h : (l.map f)[k]? = some y) : ∃ x, l[k]? = some x ∧ y = f x := by
  rw [List.getElem?_map] at h
  cases e : l[k]? with
  | none => rw [e] at h; cases h
  | some x => rw [e] at h; cases h; exact ⟨x, rfl, rfl⟩
theorem get_len {α : Type} {l : List α} {k : Nat} {x : α} (h : l[k]? = some x) : k < l.length := (List.getElem?_eq_some_iff.mp h).1
def Sgn.hrsTo (s : Sgn) (k : Nat) : List Int := (s.days.take k).flatMap s.dayHrs
theorem hrsTo_succ {s : Sgn} {k : Nat} {day : Int} (h : s.days[k]? = some day) : s.hrsTo (k + 1) = s.hrsTo k ++ s.dayHrs day := by
  unfold Sgn.hrsTo
  rw [take_get h, List.flatMap_append]
  simp
theorem flat_len {α β : Type} {f : α → List β} {m : Nat} : ∀ (l : List α), (∀ x, (f x).length ≤ m) → ∀ k, ((l.take k).flatMap f).length ≤ m * k
  | [], _, k => by simp
  | x :: r, h, 0 => by simp
  | x :: r, h, k + 1 => by
    have := flat_len r h k
    have := h x
    rw [List.take_succ_cons, List.flatMap_cons, List.length_append]
    rw [Nat.mul_succ]
    omega
theorem dayHrs_len (s : Sgn) (day : Int) : (s.dayHrs day).length = s.len.toNat := by simp [Sgn.dayHrs]
theorem hrsTo_len {s : Sgn} (o : s.Fit) (k : Nat) : (s.hrsTo k).length ≤ 47 * k := flat_len s.days (fun x => by
  have := o.len
  rw [dayHrs_len]
  omega) k
theorem ok_l_hours : BodyOk 5 b_l_hours F_l_hours := by
  refine body_ty inj_s ?_
  rintro s M o
  have o : s.Fit := o
  have dl := o.dl
  obtain ⟨l1, l2⟩ := o.len
  show (wpS b_l_hours).run [.val s.d, .unk, .unk, .unk, .unk] M _
  unfold b_l_hours
  rw [v_seq]
  simp [-v_seq]
  rw [v_seq, v_forr]
  simp [-v_seq]
  refine for_run (fun k ρ M' => M' = M ∧ k ≤ 7 ∧ ∃ x y z : Sl, ρ = [.val s.d, .val (iL (s.hrsTo k)), x, y, z]) ⟨rfl, by decide, _, _, _, rfl⟩ ?_ ?_
  · rintro k x ρ M' hx ⟨rfl, hk, y, z, u, rfl⟩
    obtain ⟨day, hd, rfl⟩ := map_get hx
    have lt := get_len hd
    have hl := hrsTo_len o k
    have e2 := dayHrs_len s day
    rw [tg_one, v_seq]
    have e0 : ∀ {P : Post}, (wpS (.set 3 (.ite (.cmp .gt (.ix (.var 0) (.int 5)) (.ix (.var 0) (.int 4))) (.bin .sub (.ix (.var 0) (.int 5)) (.ix (.var 0) (.int 4))) (.bin .add (.bin .sub (.int 24) (.ix (.var 0) (.int 4))) (.ix (.var 0) (.int 5)))))).run [.val s.d, .val (iL (s.hrsTo k)), .val (.int day), z, u] M' P = P.nx [.val s.d, .val (iL (s.hrsTo k)), .val (.int day), .val (.int s.len), u] M' := by
      intro P
      rw [show s.len = (if s.first < s.last then s.last - s.first else 24 - s.first + s.last) from rfl]
      by_cases c : s.first < s.last <;> simp [c]
    simp only [List.set_cons_succ, List.set_cons_zero]
    rw [e0]
    simp [w_comp]
    rw [range_map]
    refine ⟨by omega, by simp; omega, comp_ty (fun (j : Nat) => some (.int ((24 * day + s.first + j) % 168))) (fun j hj Q q => by simpa using q) ?_⟩
    rw [fm_map]
    have e : D.lst ((List.range s.len.toNat).map fun (j : Nat) => D.int ((24 * day + s.first + j) % 168)) = iL (s.dayHrs day) := by
      unfold iL Sgn.dayHrs
      rw [List.map_map]
      rfl
    simp only [run_bind, run_pure, e, add_iL, szL]
    rw [hrsTo_succ hd]
    exact ⟨by omega, trivial, by omega, rfl⟩
  · rintro ρ M' ⟨rfl, hk, y, z, u, rfl⟩
    have e : s.hrsTo s.days.length = s.hrs := by
      unfold Sgn.hrsTo Sgn.hrs
      rw [List.take_length]
    rw [List.length_map, e]
    simp
/-! ### holding, counting -/
def F_l_holding : FS := tyF 3 enH (fun q _ => q.1.Is ∧ 0 ≤ q.2.2 ∧ q.2.2 < 168) fun q => nats (q.1.hold q.2.1 q.2.2)
def b_l_holding : S := (.seq (.new 3 (.lst .nil))
  (.seq (.forr (.one 4) (.it1 .range (.b1 .len (.ix (.var 0) (.int 1))))
  (.seq (.set 5 (.ix (.ix (.var 0) (.int 1)) (.var 4)))
  (.iff (.and (.chain .le .lt (.ix (.var 5) (.int 1)) (.var 1) (.ix (.var 5) (.int 2))) (.cmp .isin (.var 2) (.call "_law_hours" F_l_hours (.cons (.var 5) .nil))))
  (.app 3 (.var 4))
  .nop)))
  (.seq (.frz 3)
  (.ret (.var 3)))))
theorem call_l_holding {M : Mem} {E0 : EK} {Q : D → Mem → Prop} {t : Strt} {p h : Int} (o : t.Is) (h0 : 0 ≤ h) (h1 : h < 168) : (PM.call F_l_holding [t.d, .int p, .int h]).run M Q E0 = Q (nats (t.hold p h)) M := call_tyE inj_h (t, p, h) rfl rfl ⟨o, h0, h1⟩
def Strt.holdTo (t : Strt) (p h : Int) (k : Nat) : List Nat := ((t.sgns.take k).zipIdx.filter fun q => q.1.holds p h).map (·.2)
theorem holdTo_succ {t : Strt} {p h : Int} {k : Nat} (lt : k < t.sgns.length) : t.holdTo p h (k + 1) = t.holdTo p h k ++ if (t.at k).holds p h = true then [k] else [] := by
  have e : t.sgns[k]? = some (t.at k) := by
    unfold Strt.at
    rw [List.getD_eq_getElem?_getD, List.getElem?_eq_getElem lt]
    rfl
  unfold Strt.holdTo
  rw [take_get e, List.zipIdx_append, List.filter_append, List.map_append, List.length_take, Nat.min_eq_left (by omega)]
  congr 1
  rw [List.zipIdx_cons, List.zipIdx_nil, List.filter_cons]
  simp only [Nat.zero_add]
  split <;> simp
theorem ok_l_holding : BodyOk 6 b_l_holding F_l_holding := by
  refine body_ty inj_h ?_
  rintro ⟨t, p, h⟩ M ⟨o, h0, h1⟩
  have o : t.Is := o
  have h0 : 0 ≤ h := h0
  have h1 : h < 168 := h1
  have few := o.few
  show (wpS b_l_holding).run [.val t.d, .val (.int p), .val (.int h), .unk, .unk, .unk] M _
  unfold b_l_holding
  rw [v_seq]
  simp [-v_seq]
  rw [v_seq, v_forr]
  simp [-v_seq]
  refine ⟨by omega, for_run (fun k ρ M' => M' = M ∧ k ≤ 6 ∧ (t.holdTo p h k).length ≤ k ∧ ∃ x y : Sl, ρ = [.val t.d, .val (.int p), .val (.int h), .own ((t.holdTo p h k).map fun (k : Nat) => D.int k), x, y]) ⟨rfl, by decide, by simp [Strt.holdTo], _, _, rfl⟩ ?_ ?_⟩
  · rintro k x ρ M' hx ⟨rfl, hk, hl, y, z, rfl⟩
    obtain ⟨rfl, lt⟩ := range_get hx
    have lt : k < t.sgns.length := by simpa using lt
    have fit := o.fit (at_mem lt)
    rw [tg_one, v_seq]
    simp [-v_seq, -ix_tup, ix_sgns lt]
    rw [call_l_hours fit]
    have e : (t.at k).holds p h = (decide ((t.at k).start ≤ p) && decide (p < (t.at k).stop) && decide (h ∈ (t.at k).hrs)) := by
      unfold Sgn.holds
      congr 1
      rw [Bool.eq_iff_iff, decide_eq_true_eq, Sgn.mem_hrs h0 h1]
    rw [holdTo_succ lt, e]
    by_cases c1 : (t.at k).start ≤ p <;> by_cases c2 : p < (t.at k).stop <;> by_cases c3 : h ∈ (t.at k).hrs <;> simp [c1, c2, c3] <;> omega
  · rw [range_len]
    rintro ρ M' ⟨rfl, hk, hl, y, z, rfl⟩
    simp
    show nats _ = _
    simp [Strt.holdTo, Strt.hold]
def F_l_counting : FS := tyF 3 enH (fun q _ => q.1.Is ∧ 0 ≤ q.2.2 ∧ q.2.2 < 168) fun q => nats (q.1.count q.2.1 q.2.2)
def b_l_counting : S := (.seq (.set 3 (.call "_law_holding" F_l_holding (.cons (.var 0) (.cons (.var 1) (.cons (.var 2) .nil)))))
  (.seq (.set 4 (.ite (.var 3) (.lst (.cons (.b1 .max (.comp (.ix (.ix (.ix (.var 0) (.int 1)) (.var 5)) (.int 0)) (.one 5) (.it1 .seq (.var 3)) (.bl true) [5])) .nil)) (.lst .nil)))
  (.ret (.comp (.var 5) (.one 5) (.it1 .seq (.var 3)) (.cmp .isin (.ix (.ix (.ix (.var 0) (.int 1)) (.var 5)) (.int 0)) (.var 4)) [5]))))
theorem call_l_counting {M : Mem} {E0 : EK} {Q : D → Mem → Prop} {t : Strt} {p h : Int} (o : t.Is) (h0 : 0 ≤ h) (h1 : h < 168) : (PM.call F_l_counting [t.d, .int p, .int h]).run M Q E0 = Q (nats (t.count p h)) M := call_tyE inj_h (t, p, h) rfl rfl ⟨o, h0, h1⟩
theorem ok_l_counting : BodyOk 6 b_l_counting F_l_counting := by
  refine body_ty inj_h ?_
  rintro ⟨t, p, h⟩ M ⟨o, h0, h1⟩
  have o : t.Is := o
  have h0 : 0 ≤ h := h0
  have h1 : h < 168 := h1
  have few := o.few
  have hl := hold_len t p h
  show (wpS b_l_counting).run [.val t.d, .val (.int p), .val (.int h), .unk, .unk, .unk] M _
  unfold b_l_counting
  rw [v_seq]
  simp [-v_seq, call_l_holding o h0 h1]
  rw [v_seq]
  have e : ∀ {P : Post}, P.nx [.val t.d, .val (.int p), .val (.int h), .val (nats (t.hold p h)), .val (iL (if t.hold p h = [] then [] else [maxL ((t.hold p h).map fun k => (t.at k).rank)])), .unk] M → (wpS (.set 4 (.ite (.var 3) (.lst (.cons (.b1 .max (.comp (.ix (.ix (.ix (.var 0) (.int 1)) (.var 5)) (.int 0)) (.one 5) (.it1 .seq (.var 3)) (.bl true) [5])) .nil)) (.lst .nil)))).run [.val t.d, .val (.int p), .val (.int h), .val (nats (t.hold p h)), .unk, .unk] M P := by
    intro P z
    rw [nats_iL] at z ⊢
    by_cases c : t.hold p h = []
    · rw [if_pos c] at z
      simpa [c] using z
    · rw [if_neg c] at z
      simp [c, w_comp]
      refine ⟨by omega, comp_ty (fun (k : Nat) => some (.int (t.at k).rank)) (fun k hk Q q => by simpa [-ix_tup, ix_sgns (hold_lt hk)] using q) ?_⟩
      rw [fm_map, ints_map]
      exact ⟨by simpa using c, z⟩
  refine e ?_
  simp [w_comp]
  refine ⟨by omega, comp_ty (fun (k : Nat) => if decide ((t.at k).rank = maxL ((t.hold p h).map fun k => (t.at k).rank)) = true then some (.int (k : Nat)) else none) (fun k hk Q q => ?_) ?_⟩
  · have ne := List.ne_nil_of_mem hk
    simp [-ix_tup, ix_sgns (hold_lt hk)]
    by_cases c : (t.at k).rank = maxL ((t.hold p h).map fun k => (t.at k).rank)
    · simpa [c, ne] using q
    · simpa [c, ne] using q
  · rw [fm_if, filter_at o]
    exact ⟨rfl, rfl⟩
/-! ### for the laws' own defs -/
theorem hrs_ne {p : Int} {s : Sgn} (h : s.Is p) : s.hrs ≠ [] := by
  obtain ⟨d, r, e⟩ := List.exists_cons_of_ne_nil h.d0
  have := h.fit.len
  intro z
  have q : (s.hrs).length = 0 := by rw [z]; rfl
  unfold Sgn.hrs at q
  rw [e, List.flatMap_cons, List.length_append, dayHrs_len] at q
  omega
theorem hrs_in {s : Sgn} {x : Int} (h : x ∈ s.hrs) : 0 ≤ x ∧ x < 168 := by
  obtain ⟨d, hd, hm⟩ := List.mem_flatMap.mp h
  obtain ⟨k, hk, e⟩ := List.mem_map.mp hm
  omega
theorem ix_iL0 {l : List Int} (h : l ≠ []) : ∃ x ∈ l, ∀ {M : Mem} {E0 : EK} {Q : D → Mem → Prop}, (ixP (iL l) (.int 0)).run M Q E0 = Q (.int x) M := by
  obtain ⟨a, r, rfl⟩ := List.exists_cons_of_ne_nil h
  exact ⟨a, by simp, fun {M E0 Q} => by unfold iL; simp⟩
theorem ix_iLn {l : List Int} (h : l ≠ []) : ∃ x ∈ l, ∀ {M : Mem} {E0 : EK} {Q : D → Mem → Prop}, (ixP (iL l) (.int (-1))).run M Q E0 = Q (.int x) M := by
  have pos := List.length_pos_iff.mpr h
  have lt : l.length - 1 < l.length := by omega
  refine ⟨l[l.length - 1], List.getElem_mem _, fun {M E0 Q} => ?_⟩
  have e : atI (l.map D.int) (-1) = some (.int l[l.length - 1]) := by
    have e0 : ((l.map D.int).length : Int) + -1 = ((l.length - 1 : Nat) : Int) := by rw [List.length_map]; omega
    have e1 : ixN (l.map D.int).length (-1) = some (l.length - 1) := by
      unfold ixN
      rw [if_neg (by decide), if_pos (by rw [List.length_map]; omega)]
      congr 1
      omega
    unfold atI
    rw [e1]
    show (l.map D.int)[l.length - 1]? = _
    rw [List.getElem?_map, List.getElem?_eq_getElem lt]
    rfl
  unfold iL
  rw [ix_lst, e]
  rfl
@[simp] theorem isNon_tup {l : List D} : isNon (.tup l) = false := rfl
@[simp] theorem isNon_lst {l : List D} : isNon (.lst l) = false := rfl
@[simp] theorem isNon_bl {l : Bool} : isNon (.bl l) = false := rfl
@[simp] theorem isNon_str {l : Str} : isNon (.str l) = false := rfl
@[simp] theorem plainL_nil : plainL [] = true := id rfl
@[simp] theorem plainL_cons {d : D} {r : List D} : plainL (d :: r) = (plainD d && plainL r) := id rfl
@[simp] theorem plainD_tup {l : List D} : plainD (.tup l) = plainL l := by rw [plainD]
@[simp] theorem plainD_lst {l : List D} : plainD (.lst l) = plainL l := by rw [plainD]
@[simp] theorem plainD_non : plainD .non = true := id rfl
@[simp] theorem plainD_int {i : Int} : plainD (.int i) = true := id rfl
@[simp] theorem plainD_bl {i : Bool} : plainD (.bl i) = true := id rfl
@[simp] theorem plainD_str {i : Str} : plainD (.str i) = true := id rfl
@[simp] theorem plainL_sgns (l : List Sgn) : plainL (l.map Sgn.d) = true := plain_sgns l
@[simp] theorem plainD_sgn (s : Sgn) : plainD s.d = true := plain_sgn s
@[simp] theorem plainD_strt (t : Strt) : plainD t.d = true := plain_strt t
@[simp] theorem plain0_non : plain0 .non = true := id rfl
@[simp] theorem plain0_bl {b : Bool} : plain0 (.bl b) = true := id rfl
@[simp] theorem plain0_str {s : Str} : plain0 (.str s) = true := id rfl
@[simp] theorem plain0_tup {s : List D} : plain0 (.tup s) = true := id rfl
@[simp] theorem plain0_lst {s : List D} : plain0 (.lst s) = true := id rfl
end PL
set_option Elab.async false
set_option linter.all false
set_option maxRecDepth 100000
namespace PL
open PySem L2 PyProof.Rows PySem.Spec
theorem n_call_is_integer {M : Mem} {E0 : EK} {Q : D → Mem → Prop} {d : D} {lo hi : Int} (h : plain0 d = true) : (@rn _ (PM.call F_is_integer [d, .int lo, .int hi]) M ⟨Q, E0⟩) = Q (.bl (isIntD lo hi d)) M := call_is_integer h
theorem n_call_is_word {M : Mem} {E0 : EK} {Q : D → Mem → Prop} {d e : D} (h : plain0 d = true) (h2 : plain0 e = true) : (@rn _ (PM.call F_is_word [d, e]) M ⟨Q, E0⟩) = Q (.bl (isWordD d e)) M := call_is_word h h2
theorem n_call_are_days {M : Mem} {E0 : EK} {Q : D → Mem → Prop} {d : D} (h : plainD d = true) : (@rn _ (PM.call F_are_days [d]) M ⟨Q, E0⟩) = Q (.bl (areDaysD d)) M := call_are_days h
theorem n_call_is_sign {M : Mem} {E0 : EK} {Q : D → Mem → Prop} {p : Int} {d : D} (h : plainD d = true) : (@rn _ (PM.call F_is_sign [.int p, d]) M ⟨Q, E0⟩) = Q (.bl (isSignD p d)) M := call_is_sign h
theorem n_call_is_street {M : Mem} {E0 : EK} {Q : D → Mem → Prop} {d : D} (h : plainD d = true) : (@rn _ (PM.call F_is_street [d]) M ⟨Q, E0⟩) = Q (.bl (isStreetD d)) M := call_is_street h
theorem n_call_require_street {M : Mem} {E0 : EK} {Q : D → Mem → Prop} {d : D} (h : plainD d = true) : (@rn _ (PM.call F_require_street [d]) M ⟨Q, E0⟩) = @uR (if isStreetD d = true then .ok .non else .error 0) M ⟨Q, E0⟩ := call_require_street h
theorem n_call_require_hour {M : Mem} {E0 : EK} {Q : D → Mem → Prop} {d : D} (h : plain0 d = true) : (@rn _ (PM.call F_require_hour [d]) M ⟨Q, E0⟩) = @uR (if isIntD 0 167 d = true then .ok .non else .error 3) M ⟨Q, E0⟩ := call_require_hour h
theorem n_call_require_place {M : Mem} {E0 : EK} {Q : D → Mem → Prop} {t : Strt} {d : D} (h : plain0 d = true) : (@rn _ (PM.call F_require_place [t.d, d]) M ⟨Q, E0⟩) = @uR (if isIntD 0 (t.places - 1) d = true then .ok .non else .error 2) M ⟨Q, E0⟩ := call_require_place h
theorem n_call_holds {M : Mem} {E0 : EK} {Q : D → Mem → Prop} {s : Sgn} {p h : Int} (o : s.days.length ≤ 7) : (@rn _ (PM.call F_holds [s.d, .int p, .int h]) M ⟨Q, E0⟩) = Q (.bl (s.holds p h)) M := call_holds o
theorem n_call_find_holding {M : Mem} {E0 : EK} {Q : D → Mem → Prop} {t : Strt} {p h : Int} (o : t.Ask) : (@rn _ (PM.call F_find_holding [t.d, .int p, .int h]) M ⟨Q, E0⟩) = Q (nats (t.hold p h)) M := call_find_holding o
theorem n_call_find_counting {M : Mem} {E0 : EK} {Q : D → Mem → Prop} {t : Strt} {p h : Int} (o : t.Ask) : (@rn _ (PM.call F_find_counting [t.d, .int p, .int h]) M ⟨Q, E0⟩) = Q (nats (t.count p h)) M := call_find_counting o
theorem n_call_require_spot {M : Mem} {E0 : EK} {Q : D → Mem → Prop} {a b c : D} (h1 : plainD a = true) (h2 : plain0 b = true) (h3 : plain0 c = true) : (@rn _ (PM.call F_require_spot [a, b, c]) M ⟨Q, E0⟩) = @uR (gR (spotG a b c) (.ok .non)) M ⟨Q, E0⟩ := call_require_spot h1 h2 h3
theorem n_call_holding {M : Mem} {E0 : EK} {Q : D → Mem → Prop} {a b c : D} (h1 : plainD a = true) (h2 : plain0 b = true) (h3 : plain0 c = true) : (@rn _ (PM.call F_holding [a, b, c]) M ⟨Q, E0⟩) = @uR (gR (spotG a b c) (.ok (nats ((unT a).hold (unI b) (unI c))))) M ⟨Q, E0⟩ := call_holding h1 h2 h3
theorem n_go_holding {M : Mem} {E0 : EK} {Q : D → Mem → Prop} {t : Strt} {p h : Int} (o : t.Spot p h) : (@rn _ (PM.call F_holding [t.d, .int p, .int h]) M ⟨Q, E0⟩) = Q (nats (t.hold p h)) M := go_holding o
theorem n_call_counting {M : Mem} {E0 : EK} {Q : D → Mem → Prop} {a b c : D} (h1 : plainD a = true) (h2 : plain0 b = true) (h3 : plain0 c = true) : (@rn _ (PM.call F_counting [a, b, c]) M ⟨Q, E0⟩) = @uR (gR (spotG a b c) (.ok (nats ((unT a).count (unI b) (unI c))))) M ⟨Q, E0⟩ := call_counting h1 h2 h3
theorem n_go_counting {M : Mem} {E0 : EK} {Q : D → Mem → Prop} {t : Strt} {p h : Int} (o : t.Spot p h) : (@rn _ (PM.call F_counting [t.d, .int p, .int h]) M ⟨Q, E0⟩) = Q (nats (t.count p h)) M := go_counting o
theorem n_call_require_kind {M : Mem} {E0 : EK} {Q : D → Mem → Prop} {d : D} (h : plain0 d = true) : (@rn _ (PM.call F_require_kind [d]) M ⟨Q, E0⟩) = @uR (if isIntD 0 2 d = true then .ok .non else .error 1) M ⟨Q, E0⟩ := call_require_kind h
theorem n_call_words_at {M : Mem} {E0 : EK} {Q : D → Mem → Prop} {t : Strt} {p h : Int} (o : t.Ask) : (@rn _ (PM.call F_words_at [t.d, .int p, .int h]) M ⟨Q, E0⟩) = Q (wds (t.words p h)) M := call_words_at o
theorem n_call_find_kinds {M : Mem} {E0 : EK} {Q : D → Mem → Prop} {t : Strt} {p h : Int} (o : t.Ask) : (@rn _ (PM.call F_find_kinds [t.d, .int p, .int h]) M ⟨Q, E0⟩) = Q (iL (t.kinds p h)) M := call_find_kinds o
theorem n_call_find_limit {M : Mem} {E0 : EK} {Q : D → Mem → Prop} {t : Strt} {p h : Int} (o : t.Ask) : (@rn _ (PM.call F_find_limit [t.d, .int p, .int h]) M ⟨Q, E0⟩) = Q (t.lim p h) M := call_find_limit o
theorem n_call_kinds_at {M : Mem} {E0 : EK} {Q : D → Mem → Prop} {a b c : D} (h1 : plainD a = true) (h2 : plain0 b = true) (h3 : plain0 c = true) : (@rn _ (PM.call F_kinds_at [a, b, c]) M ⟨Q, E0⟩) = @uR (gR (spotG a b c) (.ok (iL ((unT a).kinds (unI b) (unI c))))) M ⟨Q, E0⟩ := call_kinds_at h1 h2 h3
theorem n_go_kinds_at {M : Mem} {E0 : EK} {Q : D → Mem → Prop} {t : Strt} {p h : Int} (o : t.Spot p h) : (@rn _ (PM.call F_kinds_at [t.d, .int p, .int h]) M ⟨Q, E0⟩) = Q (iL (t.kinds p h)) M := go_kinds_at o
theorem n_call_limit {M : Mem} {E0 : EK} {Q : D → Mem → Prop} {a b c : D} (h1 : plainD a = true) (h2 : plain0 b = true) (h3 : plain0 c = true) : (@rn _ (PM.call F_limit [a, b, c]) M ⟨Q, E0⟩) = @uR (gR (spotG a b c) (.ok ((unT a).lim (unI b) (unI c)))) M ⟨Q, E0⟩ := call_limit h1 h2 h3
theorem n_go_limit {M : Mem} {E0 : EK} {Q : D → Mem → Prop} {t : Strt} {p h : Int} (o : t.Spot p h) : (@rn _ (PM.call F_limit [t.d, .int p, .int h]) M ⟨Q, E0⟩) = Q (t.lim p h) M := go_limit o
@[simp] theorem n_co_inI {M : Mem} {E0 : EK} {Q : D → Mem → Prop} {k : Int} {l : List Int} : (@rn _ (coP .isin (.int k) (iL l)) M ⟨Q, E0⟩) = Q (.bl (decide (k ∈ l))) M := co_inI
@[simp] theorem n_co_niI {M : Mem} {E0 : EK} {Q : D → Mem → Prop} {k : Int} {l : List Int} : (@rn _ (coP .notin (.int k) (iL l)) M ⟨Q, E0⟩) = Q (.bl (!decide (k ∈ l))) M := co_niI
@[simp] theorem n_it_iL {M : Mem} {E0 : EK} {Q : D → Mem → Prop} {l : List Int} : (@rn _ (it1P .seq (iL l)) M ⟨Q, E0⟩) = Q (.tup (l.map .int)) M := it_iL
@[simp] theorem n_tr_iL {M : Mem} {E0 : EK} {l : List Int} {T : Bool → Mem → Prop} : (@rn _ (truP (iL l)) M ⟨T, E0⟩) = T (!l.isEmpty) M := tr_iL
@[simp] theorem n_max_iL {M : Mem} {E0 : EK} {Q : D → Mem → Prop} {l : List Int} : (@rn _ (b1P .max (iL l)) M ⟨Q, E0⟩) = (l ≠ [] ∧ Q (.int (maxL l)) M) := max_iL
@[simp] theorem n_min_iL {M : Mem} {E0 : EK} {Q : D → Mem → Prop} {l : List Int} : (@rn _ (b1P .min (iL l)) M ⟨Q, E0⟩) = (l ≠ [] ∧ Q (.int (minL l)) M) := min_iL
@[simp] theorem n_len_iL {M : Mem} {E0 : EK} {Q : D → Mem → Prop} {l : List Int} : (@rn _ (b1P .len (iL l)) M ⟨Q, E0⟩) = Q (.int l.length) M := len_iL
@[simp] theorem n_add_iL {M : Mem} {E0 : EK} {Q : D → Mem → Prop} {a : List Int} {b : List Int} : (@rn _ (boP .add (iL a) (iL b)) M ⟨Q, E0⟩) = (a.length + b.length ≤ sizeLine ∧ Q (iL (a ++ b)) M) := add_iL
theorem n_call_may_stand {M : Mem} {E0 : EK} {Q : D → Mem → Prop} {a k b c : D} (h1 : plainD a = true) (h0 : plain0 k = true) (h2 : plain0 b = true) (h3 : plain0 c = true) : (@rn _ (PM.call F_may_stand [a, k, b, c]) M ⟨Q, E0⟩) = @uR (gR (carG a k b) (gR (hourG c) (.ok (.bl (decide (unI k ∈ (unT a).kinds (unI b) (unI c))))))) M ⟨Q, E0⟩ := call_may_stand h1 h0 h2 h3
theorem n_go_may_stand {M : Mem} {E0 : EK} {Q : D → Mem → Prop} {t : Strt} {k p h : Int} (o : t.Spot p h) (k0 : 0 ≤ k) (k2 : k ≤ 2) : (@rn _ (PM.call F_may_stand [t.d, .int k, .int p, .int h]) M ⟨Q, E0⟩) = Q (.bl (decide (k ∈ t.kinds p h))) M := go_may_stand o k0 k2
theorem n_call_week {M : Mem} {E0 : EK} {Q : D → Mem → Prop} {t : Strt} {p : Int} (o : t.Ask) : (@rn _ (PM.call F_week [t.d, .int p]) M ⟨Q, E0⟩) = Q (weekD (t.week p)) M := call_week o
theorem n_ix_week {M : Mem} {E0 : EK} {Q : D → Mem → Prop} {w : List Hr} (hw : w.length = 168) (x : Int) : (@rn _ (ixP (weekD w) (.int (x % 168))) M ⟨Q, E0⟩) = Q (.tup [iL (hrAt w x).1, .int (hrAt w x).2]) M := ix_week hw x
@[simp] theorem n_test_run {M : Mem} {ρ : Slots} {c : E} {Q : Bool → Mem → Prop} {E0 : EK} : (@rn _ (testP c ρ) M ⟨Q, E0⟩) = (@rn _ (wp c ρ) M ⟨(fun d M1 => (@rn _ (truP d) M1 ⟨Q, E0⟩)), E0⟩) := test_run
theorem n_call_run {M : Mem} {E0 : EK} {Q : D → Mem → Prop} {w : List Hr} {k s : Int} (o : w.length = 168) : (@rn _ (PM.call F_run [weekD w, .int k, .int s]) M ⟨Q, E0⟩) = Q (.int (runW w k s : Nat)) M := call_run o
theorem n_call_require_hours {M : Mem} {E0 : EK} {Q : D → Mem → Prop} {d : D} (h : plain0 d = true) : (@rn _ (PM.call F_require_hours [d]) M ⟨Q, E0⟩) = @uR (gR (hoursG d) (.ok .non)) M ⟨Q, E0⟩ := call_require_hours h
theorem n_call_require_car {M : Mem} {E0 : EK} {Q : D → Mem → Prop} {a b c : D} (h1 : plainD a = true) (h2 : plain0 b = true) (h3 : plain0 c = true) : (@rn _ (PM.call F_require_car [a, b, c]) M ⟨Q, E0⟩) = @uR (gR (carG a b c) (.ok .non)) M ⟨Q, E0⟩ := call_require_car h1 h2 h3
theorem n_call_longest {M : Mem} {E0 : EK} {Q : D → Mem → Prop} {a k b c : D} (h1 : plainD a = true) (h0 : plain0 k = true) (h2 : plain0 b = true) (h3 : plain0 c = true) : (@rn _ (PM.call F_longest [a, k, b, c]) M ⟨Q, E0⟩) = @uR (gR (carG a k b) (gR (hourG c) (.ok (.int ((unT a).long (unI k) (unI b) (unI c) : Nat))))) M ⟨Q, E0⟩ := call_longest h1 h0 h2 h3
theorem n_go_longest {M : Mem} {E0 : EK} {Q : D → Mem → Prop} {t : Strt} {k p h : Int} (o : t.Spot p h) (k0 : 0 ≤ k) (k2 : k ≤ 2) : (@rn _ (PM.call F_longest [t.d, .int k, .int p, .int h]) M ⟨Q, E0⟩) = Q (.int (t.long k p h : Nat)) M := go_longest o k0 k2
theorem n_call_is_allowed {M : Mem} {E0 : EK} {Q : D → Mem → Prop} {a k b c n : D} (h1 : plainD a = true) (h0 : plain0 k = true) (h2 : plain0 b = true) (h3 : plain0 c = true) (h4 : plain0 n = true) : (@rn _ (PM.call F_is_allowed [a, k, b, c, n]) M ⟨Q, E0⟩) = @uR (gR (carG a k b) (gR (hourG c) (gR (hoursG n) (.ok (.bl (decide (unI n ≤ ((unT a).long (unI k) (unI b) (unI c) : Nat)))))))) M ⟨Q, E0⟩ := call_is_allowed h1 h0 h2 h3 h4
theorem n_go_is_allowed {M : Mem} {E0 : EK} {Q : D → Mem → Prop} {t : Strt} {k p h n : Int} (o : t.Spot p h) (k0 : 0 ≤ k) (k2 : k ≤ 2) (n1 : 1 ≤ n) (n2 : n ≤ 168) : (@rn _ (PM.call F_is_allowed [t.d, .int k, .int p, .int h, .int n]) M ⟨Q, E0⟩) = Q (.bl (decide (n ≤ (t.long k p h : Nat)))) M := go_is_allowed o k0 k2 n1 n2
@[simp] theorem n_ix_strt0 {M : Mem} {E0 : EK} {Q : D → Mem → Prop} {t : Strt} : (@rn _ (ixP t.d (.int 0)) M ⟨Q, E0⟩) = Q (.int t.places) M := ix_strt0
@[simp] theorem n_ix_strt1 {M : Mem} {E0 : EK} {Q : D → Mem → Prop} {t : Strt} : (@rn _ (ixP t.d (.int 1)) M ⟨Q, E0⟩) = Q (.tup (t.sgns.map Sgn.d)) M := ix_strt1
@[simp] theorem n_ix_sgn0 {M : Mem} {E0 : EK} {Q : D → Mem → Prop} {t : Sgn} : (@rn _ (ixP t.d (.int 0)) M ⟨Q, E0⟩) = Q (.int t.rank) M := ix_sgn0
@[simp] theorem n_it_nats {M : Mem} {E0 : EK} {Q : D → Mem → Prop} {l : List Nat} : (@rn _ (it1P .seq (nats l)) M ⟨Q, E0⟩) = Q (.tup (l.map fun (k : Nat) => .int k)) M := it_nats
theorem n_ix_sgns {M : Mem} {E0 : EK} {Q : D → Mem → Prop} {t : Strt} {k : Nat} (h : k < t.sgns.length) : (@rn _ (ixP (.tup (t.sgns.map Sgn.d)) (.int (k : Nat))) M ⟨Q, E0⟩) = Q (t.at k).d M := ix_sgns h
theorem n_call_l_hours {M : Mem} {E0 : EK} {Q : D → Mem → Prop} {s : Sgn} (o : s.Fit) : (@rn _ (PM.call F_l_hours [s.d]) M ⟨Q, E0⟩) = Q (iL s.hrs) M := call_l_hours o
@[simp] theorem n_ix_sgn1 {M : Mem} {E0 : EK} {Q : D → Mem → Prop} {t : Sgn} : (@rn _ (ixP t.d (.int 1)) M ⟨Q, E0⟩) = Q (.int t.start) M := ix_sgn1
@[simp] theorem n_ix_sgn2 {M : Mem} {E0 : EK} {Q : D → Mem → Prop} {t : Sgn} : (@rn _ (ixP t.d (.int 2)) M ⟨Q, E0⟩) = Q (.int t.stop) M := ix_sgn2
@[simp] theorem n_ix_sgn3 {M : Mem} {E0 : EK} {Q : D → Mem → Prop} {t : Sgn} : (@rn _ (ixP t.d (.int 3)) M ⟨Q, E0⟩) = Q (.tup (t.days.map .int)) M := ix_sgn3
@[simp] theorem n_ix_sgn4 {M : Mem} {E0 : EK} {Q : D → Mem → Prop} {t : Sgn} : (@rn _ (ixP t.d (.int 4)) M ⟨Q, E0⟩) = Q (.int t.first) M := ix_sgn4
@[simp] theorem n_ix_sgn5 {M : Mem} {E0 : EK} {Q : D → Mem → Prop} {t : Sgn} : (@rn _ (ixP t.d (.int 5)) M ⟨Q, E0⟩) = Q (.int t.last) M := ix_sgn5
@[simp] theorem n_ix_sgn6 {M : Mem} {E0 : EK} {Q : D → Mem → Prop} {t : Sgn} : (@rn _ (ixP t.d (.int 6)) M ⟨Q, E0⟩) = Q (.str t.word) M := ix_sgn6
@[simp] theorem n_ix_sgn7 {M : Mem} {E0 : EK} {Q : D → Mem → Prop} {t : Sgn} : (@rn _ (ixP t.d (.int 7)) M ⟨Q, E0⟩) = Q (.int t.value) M := ix_sgn7
theorem n_call_l_holding {M : Mem} {E0 : EK} {Q : D → Mem → Prop} {t : Strt} {p h : Int} (o : t.Is) (h0 : 0 ≤ h) (h1 : h < 168) : (@rn _ (PM.call F_l_holding [t.d, .int p, .int h]) M ⟨Q, E0⟩) = Q (nats (t.hold p h)) M := call_l_holding o h0 h1
theorem n_call_l_counting {M : Mem} {E0 : EK} {Q : D → Mem → Prop} {t : Strt} {p h : Int} (o : t.Is) (h0 : 0 ≤ h) (h1 : h < 168) : (@rn _ (PM.call F_l_counting [t.d, .int p, .int h]) M ⟨Q, E0⟩) = Q (nats (t.count p h)) M := call_l_counting o h0 h1
theorem n_ix_iL0 {M : Mem} {E0 : EK} {Q : D → Mem → Prop} {l : List Int} (h : l ≠ []) : ∃ x ∈ l, ∀ {M : Mem} {E0 : EK} {Q : D → Mem → Prop}, (@rn _ (ixP (iL l) (.int 0)) M ⟨Q, E0⟩) = Q (.int x) M := ix_iL0 h
theorem n_ix_iLn {M : Mem} {E0 : EK} {Q : D → Mem → Prop} {l : List Int} (h : l ≠ []) : ∃ x ∈ l, ∀ {M : Mem} {E0 : EK} {Q : D → Mem → Prop}, (@rn _ (ixP (iL l) (.int (-1))) M ⟨Q, E0⟩) = Q (.int x) M := ix_iLn h
/-! ## draws -/
theorem n_uR_ite {c : Prop} [Decidable c] {a b : Except Nat D} {Q : D → Mem → Prop} {E : EK} {M : Mem} : @uR (if c then a else b) M ⟨Q, E⟩ = if c then @uR a M ⟨Q, E⟩ else @uR b M ⟨Q, E⟩ := by split <;> rfl
@[simp] theorem n_mul1 {M : Mem} {E0 : EK} {Q : D → Mem → Prop} {l : List Int} : @rn _ (boP .mul (iL l) (.int 1)) M ⟨Q, E0⟩ = (l.length ≤ sizeLine ∧ Q (iL l) M) := by
  show (boP .mul (iL l) (.int 1)).run M Q E0 = _
  unfold iL
  rw [bo_mulL]
  simp
@[simp] theorem n_mul0 {M : Mem} {E0 : EK} {Q : D → Mem → Prop} {l : List Int} : @rn _ (boP .mul (iL l) (.int 0)) M ⟨Q, E0⟩ = Q (iL []) M := by
  show (boP .mul (iL l) (.int 0)).run M Q E0 = _
  unfold iL
  rw [bo_mulL]
  simp
theorem n_nats_add {M : Mem} {E0 : EK} {Q : D → Mem → Prop} {a : List Nat} {j : Nat} : @rn _ (boP .add (nats a) (iL [(j : Int)])) M ⟨Q, E0⟩ = (a.length + 1 ≤ sizeLine ∧ Q (nats (a ++ [j])) M) := by
  rw [nats_iL, nats_iL, n_add_iL]
  simp
theorem n_nats_add0 {M : Mem} {E0 : EK} {Q : D → Mem → Prop} {a : List Nat} : @rn _ (boP .add (nats a) (iL [])) M ⟨Q, E0⟩ = (a.length ≤ sizeLine ∧ Q (nats a) M) := by
  rw [nats_iL, n_add_iL]
  simp
@[simp] theorem lst_1 {i : Int} : D.lst [.int i] = iL [i] := rfl
@[simp] theorem n_lR_iL {l : List Int} {k : List D → Prop} : @lR (iL l) ⟨k⟩ = k (l.map .int) := rfl
theorem n_draw {M : Mem} {E0 : EK} {Q : D → Mem → Prop} {ns : List Int} {a : Addr} {n : Int} {c : Nat} (l : ns.length ≤ 63) (hn : 0 < n) (st : StOk a c M) (hc : c + 2 ≤ 16777216) (q : ∀ v M', 0 ≤ v → v < n → StOk a (c + 2) M' → Else a M M' → Q (.int v) M') : @rn _ (PM.call F_l_draw [.scr ns, .cell a, .int n]) M ⟨Q, E0⟩ := call_draw l hn st hc q
theorem n_pick {M : Mem} {E0 : EK} {Q : D → Mem → Prop} {ns : List Int} {a : Addr} {xs : List D} {c : Nat} (l : ns.length ≤ 63) (hn : xs ≠ []) (st : StOk a c M) (hc : c + 2 ≤ 16777216) (q : ∀ x M', x ∈ xs → StOk a (c + 2) M' → Else a M M' → Q x M') : @rn _ (PM.call F_l_pick [.scr ns, .cell a, .lst xs]) M ⟨Q, E0⟩ := call_pick l hn st hc q
theorem n_sign {M : Mem} {E0 : EK} {Q : D → Mem → Prop} {ns : List Int} {a : Addr} {p : Int} {c : Nat} (l : ns.length ≤ 63) (hn : 1 ≤ p ∧ p ≤ 4) (st : StOk a c M) (hc : c + 40 ≤ 16777216) (q : ∀ s M', s.ok p = true → s.rank ≤ 2 → StOk a (c + 40) M' → Else a M M' → Q (Sgn.d s) M') : @rn _ (PM.call F_l_sign [.scr ns, .cell a, .int p]) M ⟨Q, E0⟩ := call_sign l hn st hc q
theorem n_street {M : Mem} {E0 : EK} {Q : D → Mem → Prop} {ns : List Int} {a : Addr} {p m : Int} {c : Nat} (l : ns.length ≤ 63) (hn : 1 ≤ p ∧ p ≤ 4) (hm : 0 ≤ m ∧ m ≤ 6) (st : StOk a c M) (hc : c + 250 ≤ 16777216)
    (q : ∀ t M', Strt.Is t → t.places = p → (t.sgns.length : Int) ≤ m → (∀ s ∈ t.sgns, s.rank ≤ 2) → StOk a (c + 250) M' → Else a M M' → Q t.d M') : @rn _ (PM.call F_l_street [.scr ns, .cell a, .int p, .int m]) M ⟨Q, E0⟩ := call_street l hn hm st hc q
theorem n_comp_st {M : Mem} {E0 : EK} {f : D → PM (Option D)} {xs : List D} {C : List D → Mem → Prop} (I : Nat → List D → Mem → Prop) (h0 : I 0 [] M)
    (hs : ∀ (k : Nat) x acc M, xs[k]? = some x → I k acc M → @rn _ (f x) M ⟨fun o M' => I (k + 1) (acc ++ o.toList) M', fun _ _ => False⟩) (he : ∀ acc M, I xs.length acc M → C acc M) : @rn _ (compGo f xs []) M ⟨C, E0⟩ := comp_st I h0 hs he
end PL
set_option Elab.async false
set_option linter.all false
set_option maxRecDepth 100000
namespace PL
open PySem L2 PyProof.Rows PySem.Spec

/-! ## _law_same, of equal data, by its depth -/
def dpt : Nat → D → Prop
  | 0, _ => False
  | n + 1, .tup ds => ds.length ≤ 64 ∧ ∀ d ∈ ds, dpt n d
  | _ + 1, .non => True
  | _ + 1, .bl _ => True
  | _ + 1, .int _ => True
  | _ + 1, .str _ => True
  | _ + 1, _ => False
def F_sameN (n : Nat) : FS := tyF 2 (fun (d : D) => [d, d]) (fun d _ => dpt n d) fun _ => .bl true
abbrev F_l_same : FS := F_sameN 6
def b_l_sameN (F_l_same : FS) : S := (.seq (.iff (.isN (.var 1))
  (.ret (.isN (.var 0)))
  .nop)
  (.seq (.iff (.isi (.var 1) .bool)
  (.ret (.and (.isi (.var 0) .bool) (.cmp .eq (.var 0) (.var 1))))
  .nop)
  (.seq (.iff (.isi (.var 1) .tuple)
  (.seq (.iff (.or (.not (.isi (.var 0) .tuple)) (.cmp .ne (.b1 .len (.var 0)) (.b1 .len (.var 1))))
  (.ret (.bl false))
  .nop)
  (.ret (.b1 .all (.comp (.call "_law_same" F_l_same (.cons (.var 2) (.cons (.var 3) .nil))) (.many [2, 3]) (.it2 .zip (.var 0) (.var 1)) (.bl true) [2, 3]))))
  .nop)
  (.seq (.iff (.isi (.var 1) .str)
  (.ret (.and (.isi (.var 0) .str) (.cmp .eq (.var 0) (.var 1))))
  .nop)
  (.ret (.and (.isi (.var 0) .int) (.and (.not (.isi (.var 0) .bool)) (.cmp .eq (.var 0) (.var 1)))))))))
theorem inj_dd : ∀ x y : D, [x, x] = [y, y] → x = y := fun x y h => by simpa using h
theorem call_sameN {n : Nat} {M : Mem} {E0 : EK} {Q : D → Mem → Prop} {d : D} (h : dpt n d) : (PM.call (F_sameN n) [d, d]).run M Q E0 = Q (.bl true) M := call_tyE inj_dd d rfl rfl h
theorem n_call_l_same {M : Mem} {E0 : EK} {Q : D → Mem → Prop} {d : D} (h : dpt 6 d) : @rn _ (PM.call F_l_same [d, d]) M ⟨Q, E0⟩ = Q (.bl true) M := call_sameN h
theorem zip_self : ∀ ds : List D, zipD ds ds = ds.map fun x => .tup [x, x]
  | [] => rfl
  | x :: r => by rw [zipD, zip_self r, List.map_cons]
theorem all_true {α : Type} (l : List α) : (l.map fun _ => true).all id = true := by
  induction l with
  | nil => rfl
  | cons a r ih => simpa using ih
theorem ok_sameN (n : Nat) : BodyOk 4 (b_l_sameN (F_sameN n)) (F_sameN (n + 1)) := by
  refine body_ty inj_dd ?_
  intro d M h
  show (wpS (b_l_sameN (F_sameN n))).run [.val d, .val d, .unk, .unk] M _
  refine to_sn ?_
  unfold b_l_sameN
  cases d with
  | lst l => exact False.elim h
  | cell l => exact False.elim h
  | scr l => exact False.elim h
  | non => simp
  | bl b => simp [isiF]
  | int b => simp [isiF]
  | str b => simp [isiF]
  | tup ds =>
    have h : ds.length ≤ 64 ∧ ∀ d ∈ ds, dpt n d := h
    simp [isiF, zip_self]
    refine ⟨by omega, n_comp_ty (fun _ => some (.bl true)) (fun x hx Q q => ?_) ?_⟩
    · simp
      show (PM.call (F_sameN n) [x, x]).run M _ _
      rw [call_sameN (h.2 x hx)]
      exact q
    · rw [fm_map]
      simp [blsF_map]
theorem F_sameN0 {k : Nat} : BodyOk k .never (F_sameN 0) := by
  rintro _ M _ ⟨d, _, h⟩
  exact False.elim h
end PL
set_option Elab.async false
set_option linter.all false
set_option maxRecDepth 100000
namespace PL
open PySem L2 PyProof.Rows PySem.Spec

/-! ## defs that draw, in general -/
section
variable {α : Type}
/-- draws at most B/2 times; what comes out is as res says -/
def drF (n B : Nat) (enc : α → List D) (pre : α → Prop) (res : α → D → Prop) : FS where
  ar := n + 2
  pre := fun ds M => ∃ (ns : List Int) (a : Addr) (q : α) (c : Nat), ds = .scr ns :: .cell a :: enc q ∧ ns.length ≤ 63 ∧ pre q ∧ StOk a c M ∧ c + B ≤ 16777216
  post := fun ds M r M' => ∀ (ns : List Int) (a : Addr) (q : α) (c : Nat), ds = .scr ns :: .cell a :: enc q → ns.length ≤ 63 → pre q → StOk a c M → c + B ≤ 16777216 → res q r ∧ StOk a (c + B) M' ∧ Else a M M'
theorem dr_call {n B : Nat} {enc : α → List D} {pre : α → Prop} {res : α → D → Prop} {M : Mem} {E0 : EK} {Q : D → Mem → Prop} {ns : List Int} {a : Addr} {c : Nat} {ds : List D} (q : α) (he : ds = .scr ns :: .cell a :: enc q) (hn : ds.length = n + 2) (l : ns.length ≤ 63) (hp : pre q) (st : StOk a c M) (hc : c + B ≤ 16777216)
    (k : ∀ r M', res q r → StOk a (c + B) M' → Else a M M' → Q r M') : @rn _ (PM.call (drF n B enc pre res) ds) M ⟨Q, E0⟩ :=
  ⟨hn, ⟨ns, a, q, c, he, l, hp, st, hc⟩, fun d M' h => by
    obtain ⟨h1, h2, h3⟩ := h ns a q c he l hp st hc
    exact k d M' h1 h2 h3, fun _ _ z => False.elim z⟩
theorem dr_body {n B k : Nat} {b : S} {enc : α → List D} {pre : α → Prop} {res : α → D → Prop} (inj : ∀ x y, enc x = enc y → x = y)
    (h : ∀ (ns : List Int) (a : Addr) (q : α) (c : Nat) (M : Mem) (P : Post), ns.length ≤ 63 → pre q → StOk a c M → c + B ≤ 16777216 → (∀ r M', res q r → StOk a (c + B) M' → Else a M M' → P.rt r M') → (wpS b).run (startS k (.scr ns :: .cell a :: enc q)) M P) : BodyOk k b (drF n B enc pre res) := by
  rintro _ M hl ⟨ns, a, q, c, rfl, hs, hp, st, hc⟩
  obtain ⟨ys, hy, g, ly⟩ := st.ex
  refine h ns a q ys.length M _ hs hp ⟨ys, hy, g, Nat.le_refl _⟩ (by omega) fun r M' h1 h2 h3 => ?_
  rintro ns' a' q' c' e _ _ st2 _
  simp only [List.cons.injEq, D.scr.injEq, D.cell.injEq] at e
  obtain ⟨rfl, rfl, e⟩ := e
  obtain rfl := inj _ _ e
  obtain ⟨zs, hz, _, lz⟩ := st2.ex
  rw [hy] at hz
  cases hz
  exact ⟨h1, h2.mono (by omega), h3⟩
end
theorem plainL_app : ∀ {l m : List D}, plainL l = true → plainL m = true → plainL (l ++ m) = true
  | [], _, _, h => h
  | x :: r, m, h, h2 => by
    have q : (plainD x && plainL r) = true := h
    rw [Bool.and_eq_true] at q
    show (plainD x && plainL (r ++ m)) = true
    rw [q.1, plainL_app q.2 h2]
    rfl
theorem plainL_of : ∀ {l : List D}, (∀ d ∈ l, plainD d = true) → plainL l = true
  | [], _ => rfl
  | x :: r, h => by
    show (plainD x && plainL r) = true
    rw [h x List.mem_cons_self, plainL_of fun d hd => h d (List.mem_cons_of_mem _ hd)]
    rfl
theorem plainL_cut {l : List D} (h : plainL l = true) (u v : Option Int) : plainL (cutD l u v) = true :=
  plainL_of fun d hd => plainL_mem h d (List.mem_of_mem_drop (List.mem_of_mem_take hd))
theorem plainL_rev {l : List D} (h : plainL l = true) : plainL l.reverse = true := plainL_of fun d hd => plainL_mem h d (List.mem_reverse.mp hd)
end PL
set_option Elab.async false
set_option linter.all false
set_option maxRecDepth 100000
namespace PL
open PySem L2 PyProof.Rows PySem.Spec

/-! ## k01: an own check -/
/-- new objects at most -/
def Grow (M M' : Mem) : Prop := ∀ b, M b ≠ none → M' b = M b
theorem Grow.refl {M : Mem} : Grow M M := fun _ _ => rfl
theorem Grow.trans {M M' M2 : Mem} (h : Grow M M') (g : Grow M' M2) : Grow M M2 := fun b m => by
  have e := h b m
  rw [g b (by rw [e]; exact m), e]
theorem Grow.put {M : Mem} {a : Addr} {c : Cell} (n : M a = none) : Grow M (M.put a c) := fun b m => Mem.put_ne _ _ fun z => m (by rw [z]; exact n)
section
variable {α : Type}
def gwF (n : Nat) (enc : α → List D) (pre : α → Prop) (res : α → D) : FS where
  ar := n
  pre := fun ds _ => ∃ q, ds = enc q ∧ pre q
  post := fun ds M r M' => Grow M M' ∧ ∀ q, ds = enc q → pre q → r = res q
theorem gw_call {n : Nat} {enc : α → List D} {pre : α → Prop} {res : α → D} {M : Mem} {E0 : EK} {Q : D → Mem → Prop} {ds : List D} (q : α) (he : ds = enc q) (hn : ds.length = n) (hp : pre q) (k : ∀ M', Grow M M' → Q (res q) M') : @rn _ (PM.call (gwF n enc pre res) ds) M ⟨Q, E0⟩ :=
  ⟨hn, ⟨q, he, hp⟩, fun d M' ⟨g, h⟩ => by rw [h q he hp]; exact k M' g, fun _ _ z => False.elim z⟩
theorem gw_body {n k : Nat} {b : S} {enc : α → List D} {pre : α → Prop} {res : α → D} (inj : ∀ x y, enc x = enc y → x = y)
    (h : ∀ (q : α) (M : Mem) (P : Post), pre q → (∀ M', Grow M M' → P.rt (res q) M') → (wpS b).run (startS k (enc q)) M P) : BodyOk k b (gwF n enc pre res) := by
  rintro _ M hl ⟨q, rfl, hp⟩
  refine h q M _ hp fun M' g => ⟨g, fun q' e _ => ?_⟩
  obtain rfl := inj _ _ e
  rfl
end
def F_l_is_number : FS := F_is_integer
def b_l_is_number : S := (.ret (.and (.isi (.var 0) .int) (.and (.not (.isi (.var 0) .bool)) (.chain .le .le (.var 1) (.var 0) (.var 2)))))
theorem n_isnum {M : Mem} {E0 : EK} {Q : D → Mem → Prop} {d : D} {lo hi : Int} (h : plain0 d = true) : @rn _ (PM.call F_l_is_number [d, .int lo, .int hi]) M ⟨Q, E0⟩ = Q (.bl (isIntD lo hi d)) M := n_call_is_integer h
theorem ok_l_is_number : BodyOk 3 b_l_is_number F_l_is_number := ok_is_integer
theorem n_mid {s t : S} {ρ : Slots} {M : Mem} {P : Post} (N : Slots → Mem → Prop) (h1 : @sn (wpS s) ρ M ⟨{ P with nx := N }⟩) (h2 : ∀ ρ' M', N ρ' M' → @sn (wpS t) ρ' M' ⟨P⟩) : @sn (wpS (.seq s t)) ρ M ⟨P⟩ :=
  (wpS s).mono (Q := { P with nx := N }) (fun ρ' M' h => h2 ρ' M' h) (fun _ _ h => h) (fun _ _ h => h) h1
/-! ### days -/
theorem inc_pair : ∀ {l : List Int}, incI l = true ↔ l.Pairwise (· < ·)
  | [] => ⟨fun _ => .nil, fun _ => rfl⟩
  | [x] => ⟨fun _ => by simp, fun _ => rfl⟩
  | x :: y :: r => by
    rw [incI, Bool.and_eq_true, decide_eq_true_eq, inc_pair (l := y :: r), List.pairwise_cons (a := x)]
    constructor
    · rintro ⟨h1, h2⟩
      refine ⟨fun z hz => ?_, h2⟩
      rcases List.mem_cons.mp hz with rfl | hz
      · exact h1
      · exact Int.lt_trans h1 ((List.pairwise_cons.mp h2).1 z hz)
    · rintro ⟨h1, h2⟩
      exact ⟨h1 y (by simp), h2⟩
theorem pair_uniq : ∀ {l m : List Int}, l.Pairwise (· < ·) → m.Pairwise (· < ·) → (∀ k, k ∈ l ↔ k ∈ m) → l = m := fun {l m} h1 h2 h =>
  List.Perm.eq_of_pairwise (le := fun a b => a < b) (fun a b _ _ x y => by omega) h1 h2 ((List.perm_ext_iff_of_nodup (h1.imp fun z => by omega) (h2.imp fun z => by omega)).mpr h)
theorem inc_len0 : ∀ {l : List Int} {a : Int}, a ≤ 7 → l.Pairwise (· < ·) → (∀ i ∈ l, a ≤ i ∧ i ≤ 6) → (l.length : Int) ≤ 7 - a
  | [], a, ha, _, _ => by simp; omega
  | x :: r, a, ha, h, b => by
    obtain ⟨h1, h2⟩ := List.pairwise_cons.mp h
    have bx := b x (by simp)
    have ih := inc_len0 (l := r) (a := x + 1) (by omega) h2 fun i hi => ⟨by have := h1 i hi; omega, (b i (by simp [hi])).2⟩
    rw [List.length_cons]
    omega
theorem inc_len {l : List Int} (h : l.Pairwise (· < ·)) (b : ∀ i ∈ l, 0 ≤ i ∧ i ≤ 6) : l.length ≤ 7 := by
  have := inc_len0 (a := 0) (by omega) h b
  omega
theorem days_eq {ns : List Int} (h : ns ≠ []) (b : ∀ i ∈ ns, 0 ≤ i ∧ i ≤ 6) : areDaysD (.tup (ns.map .int)) = incI ns := by
  show (decide (1 ≤ (ns.map D.int).length ∧ (ns.map D.int).length ≤ 7) && (ns.map D.int).all (isIntD 0 6) && incD (ns.map D.int)) = incI ns
  rw [all_days, inc_days, List.all_eq_true.mpr (fun i hi => by simp [b i hi])]
  cases hi : incI ns with
  | false => simp
  | true =>
    have l1 := inc_len (inc_pair.mp hi) b
    have l0 := List.length_pos_iff.mpr h
    simp
    omega
/-! ### words -/
def bnds : List (Str × Int × Int) := [("none", 0, 0), ("free", 0, 0), ("only", 0, 2), ("limit", 1, 24)]
theorem word_none {w : Str} {v : D} (h : bnds.lookup w = none) : isWordD (.str w) v = false := by
  have q : ∀ x ∈ bnds, (w == x.1) = false := fun x hx => by simpa using List.lookup_eq_none_iff.mp h x hx
  have e1 : ¬ w = "none" := beq_eq_false_iff_ne.mp (q ("none", 0, 0) (by simp [bnds]))
  have e2 : ¬ w = "free" := beq_eq_false_iff_ne.mp (q ("free", 0, 0) (by simp [bnds]))
  have e3 : ¬ w = "only" := beq_eq_false_iff_ne.mp (q ("only", 0, 2) (by simp [bnds]))
  have e4 : ¬ w = "limit" := beq_eq_false_iff_ne.mp (q ("limit", 1, 24) (by simp [bnds]))
  simp [isWordD, e1, e2, e3, e4]
theorem word_some {w : Str} {v : D} {u z : Int} (h : bnds.lookup w = some (u, z)) : isWordD (.str w) v = isIntD u z v := by
  have m : (w, u, z) ∈ bnds := by
    obtain ⟨l1, l2, e, _⟩ := List.lookup_eq_some_iff.mp h
    rw [e]
    simp
  simp only [bnds, List.mem_cons, Prod.mk.injEq, List.not_mem_nil, or_false] at m
  rcases m with ⟨rfl, rfl, rfl⟩ | ⟨rfl, rfl, rfl⟩ | ⟨rfl, rfl, rfl⟩ | ⟨rfl, rfl, rfl⟩ <;> simp [isWordD]
theorem ints_map' : ∀ ns : List Int, intsF (ns.map D.int) = some ns
  | [] => rfl
  | x :: r => by
    show (intsF (r.map D.int)).map (x :: ·) = _
    rw [ints_map' r]
    rfl
/-! ### a sign -/
theorem word_other {g h : D} (n : ∀ w, g ≠ .str w) : isWordD g h = false := by
  cases g <;> first | rfl | exact absurd rfl (n _)
theorem areDays_0 : areDaysD (.tup []) = false := rfl
theorem areDays_all {ds : List D} (h : ds.all (isIntD 0 6) = false) : areDaysD (.tup ds) = false := by
  show (decide (1 ≤ ds.length ∧ ds.length ≤ 7) && ds.all (isIntD 0 6) && incD ds) = false
  rw [h]
  simp
theorem ints_of6 {ds : List D} (h : ds.all (isIntD 0 6) = true) : ∃ ns : List Int, ds = ns.map .int ∧ ∀ i ∈ ns, 0 ≤ i ∧ i ≤ 6 := by
  obtain ⟨ns, rfl⟩ := ints_of h
  refine ⟨ns, rfl, fun i hi => ?_⟩
  have := List.all_eq_true.mp h (.int i) (List.mem_map.mpr ⟨i, hi, rfl⟩)
  simpa [isIntD] using this
abbrev enIS (q : Int × D) : List D := [.int q.1, q.2]
/-- no long tuple of days -/
def shortD : D → Prop | .tup [_, _, _, .tup ds, _, _, _, _] => ds.length ≤ 60 | _ => True
def F_l_is_sign : FS := gwF 2 enIS (fun q => (1 ≤ q.1 ∧ q.1 ≤ 4) ∧ plainD q.2 = true ∧ shortD q.2) fun q => .bl (isSignD q.1 q.2)
def b_l_is_sign : S := (.seq (.iff (.or (.not (.isi (.var 1) .tuple)) (.or (.cmp .ne (.b1 .len (.var 1)) (.int 8)) (.not (.call "_law_is_number" F_l_is_number (.cons (.ix (.var 1) (.int 0)) (.cons (.int 0) (.cons (.int 3) .nil)))))))
  (.ret (.bl false))
  .nop)
  (.seq (.iff (.or (.not (.call "_law_is_number" F_l_is_number (.cons (.ix (.var 1) (.int 1)) (.cons (.int 0) (.cons (.int 3) .nil))))) (.not (.call "_law_is_number" F_l_is_number (.cons (.ix (.var 1) (.int 2)) (.cons (.int 1) (.cons (.var 0) .nil))))))
  (.ret (.bl false))
  .nop)
  (.seq (.iff (.cmp .ge (.ix (.var 1) (.int 1)) (.ix (.var 1) (.int 2)))
  (.ret (.bl false))
  .nop)
  (.seq (.iff (.or (.not (.isi (.ix (.var 1) (.int 3)) .tuple)) (.cmp .eq (.b1 .len (.ix (.var 1) (.int 3))) (.int 0)))
  (.ret (.bl false))
  .nop)
  (.seq (.iff (.comp (.var 2) (.one 2) (.it1 .seq (.ix (.var 1) (.int 3))) (.not (.call "_law_is_number" F_l_is_number (.cons (.var 2) (.cons (.int 0) (.cons (.int 6) .nil))))) [2])
  (.ret (.bl false))
  .nop)
  (.seq (.iff (.or (.cmp .ne (.b1 .list (.ix (.var 1) (.int 3))) (.sp1 .sortint (.ix (.var 1) (.int 3)))) (.not (.call "_law_is_number" F_l_is_number (.cons (.ix (.var 1) (.int 4)) (.cons (.int 0) (.cons (.int 23) .nil))))))
  (.ret (.bl false))
  .nop)
  (.seq (.iff (.not (.call "_law_is_number" F_l_is_number (.cons (.ix (.var 1) (.int 5)) (.cons (.int 0) (.cons (.int 24) .nil)))))
  (.ret (.bl false))
  .nop)
  (.seq (.set 3 (.ob (.dlit [("none", 0, 0), ("free", 0, 0), ("only", 0, 2), ("limit", 1, 24)]) .nil .nil))
  (.seq (.iff (.or (.not (.isi (.ix (.var 1) (.int 6)) .str)) (.ob .dnin (.ix (.var 1) (.int 6)) (.var 3)))
  (.ret (.bl false))
  .nop)
  (.ret (.call "_law_is_number" F_l_is_number (.cons (.ix (.var 1) (.int 7)) (.cons (.ix (.ob .dget (.var 3) (.ix (.var 1) (.int 6))) (.int 0)) (.cons (.ix (.ob .dget (.var 3) (.ix (.var 1) (.int 6))) (.int 1)) .nil))))))))))))))
theorem n_issign {M : Mem} {E0 : EK} {Q : D → Mem → Prop} {p : Int} {d : D} (hp : 1 ≤ p ∧ p ≤ 4) (h : plainD d = true) (h2 : shortD d) (k : ∀ M', Grow M M' → Q (.bl (isSignD p d)) M') : @rn _ (PM.call F_l_is_sign [.int p, d]) M ⟨Q, E0⟩ := gw_call (p, d) rfl rfl ⟨hp, h, h2⟩ k
theorem ok_l_is_sign : BodyOk 4 b_l_is_sign F_l_is_sign := by
  refine gw_body inj_is_sign ?_
  rintro ⟨p, d⟩ M P ⟨⟨p1, p4⟩, hp, hs⟩ k
  have p1 : 1 ≤ p := p1
  have p4 : p ≤ 4 := p4
  have hp : plainD d = true := hp
  have hs : shortD d := hs
  have k : ∀ M', Grow M M' → P.rt (.bl (isSignD p d)) M' := k
  show (wpS b_l_is_sign).run [.val (.int p), .val d, .unk, .unk] M _
  refine to_sn ?_
  cases d with
  | cell a => exact Bool.noConfusion hp
  | scr a => exact Bool.noConfusion hp
  | tup ds =>
    by_cases c1 : ds.length = 8
    · obtain ⟨a, b, c, dd, e, f, g, h, rfl⟩ := len8 c1
      have pl := plainL_mem (show plainL [a, b, c, dd, e, f, g, h] = true from hp)
      have q1 := plain_0 (pl a (by simp))
      have q2 := plain_0 (pl b (by simp))
      have q3 := plain_0 (pl c (by simp))
      have q4 := pl dd (by simp)
      have q5 := plain_0 (pl e (by simp))
      have q6 := plain_0 (pl f (by simp))
      have q7 := plain_0 (pl g (by simp))
      have q8 := plain_0 (pl h (by simp))
      have rf : isSignD p (.tup [a, b, c, dd, e, f, g, h]) = false → ∀ M', Grow M M' → P.rt (.bl false) M' := fun e M' gr => by rw [← e]; exact k M' gr
      unfold b_l_is_sign
      cases ka : isIntD 0 3 a with
      | false =>
        simp [isiF, n_isnum q1, ka]
        exact rf (by simp [isSignD, ka]) M .refl
      | true =>
      refine n_mid (fun ρ M' => ρ = [.val (.int p), .val (.tup [a, b, c, dd, e, f, g, h]), .unk, .unk] ∧ M' = M) (by simp [isiF, n_isnum q1, ka]) ?_
      rintro ρ M1 ⟨rfl, rfl⟩
      cases kc : isIntD 1 p c with
      | false =>
        have fin := rf (by simp [isSignD, kc]) M1 .refl
        simp [isiF, n_isnum q2, n_isnum q3, kc]
        by_cases hb : isIntD 0 3 b = true <;> simp [hb] <;> exact fin
      | true =>
      obtain ⟨z, rfl, z1, z2⟩ := isInt_ex kc
      cases kb : isIntD 0 3 b with
      | false =>
        simp [isiF, n_isnum q2, n_isnum q3, kb]
        have kb' : isIntD 0 (z - 1) b = false := by
          cases b <;> first | rfl | skip
          simp [isIntD] at kb ⊢
          intro
          omega
        exact rf (by simp [isSignD, lessD, kb']) M1 .refl
      | true =>
      obtain ⟨y, rfl, y0, y3⟩ := isInt_ex kb
      refine n_mid (fun ρ M' => ρ = [.val (.int p), .val (.tup [a, .int y, .int z, dd, e, f, g, h]), .unk, .unk] ∧ M' = M1) (by simp [isiF, n_isnum (d := .int y) rfl, n_isnum (d := .int z) rfl, kb, kc]) ?_
      rintro ρ M2 ⟨rfl, rfl⟩
      by_cases lt : z ≤ y
      · simp [lt]
        have kb' : isIntD 0 (z - 1) (.int y) = false := by
          simp [isIntD]
          omega
        exact rf (by simp [isSignD, lessD, kb']) M2 .refl
      refine n_mid (fun ρ M' => ρ = [.val (.int p), .val (.tup [a, .int y, .int z, dd, e, f, g, h]), .unk, .unk] ∧ M' = M2) (by simp [lt]) ?_
      rintro ρ M3 ⟨rfl, rfl⟩
      have kb' : isIntD 0 (z - 1) (.int y) = true := by
        simp [isIntD]
        omega
      cases dd with
      | cell a => exact Bool.noConfusion q4
      | scr a => exact Bool.noConfusion q4
      | tup ds =>
        have hs : ds.length ≤ 60 := hs
        by_cases c0 : ds = []
        · subst c0
          simp [isiF]
          exact rf (by simp [isSignD, areDays_0]) M3 .refl
        have l0 := List.length_pos_iff.mpr c0
        refine n_mid (fun ρ M' => ρ = [.val (.int p), .val (.tup [a, .int y, .int z, .tup ds, e, f, g, h]), .unk, .unk] ∧ M' = M3) (by simp [isiF, c0]) ?_
        rintro ρ M4 ⟨rfl, rfl⟩
        have pl4 := plainL_mem (show plainL ds = true from q4)
        cases ka6 : ds.all (isIntD 0 6) with
        | false =>
          have ad := areDays_all ka6
          simp
          refine ⟨by omega, n_comp_go (fun x => if isIntD 0 6 x = true then none else some x) (fun x hx Q q => ?_) ?_⟩
          · simp [n_isnum (plain_0 (pl4 x hx))]
            cases hx6 : isIntD 0 6 x <;> simpa [hx6] using q
          · obtain ⟨x, hx, hf⟩ := List.all_eq_false.mp ka6
            have ne : ds.filterMap (fun x => if isIntD 0 6 x = true then none else some x) ≠ [] := fun z => by
              have := List.filterMap_eq_nil_iff.mp z x hx
              simp [hf] at this
            simp [ne]
            exact rf (by simp [isSignD, ad]) M4 .refl
        | true =>
        obtain ⟨ns, rfl, bn⟩ := ints_of6 ka6
        refine n_mid (fun ρ M' => ∃ x, ρ = [.val (.int p), .val (.tup [a, .int y, .int z, .tup (ns.map .int), e, f, g, h]), x, .unk] ∧ M' = M4) ?_ ?_
        · simp
          refine ⟨by rw [List.length_map] at hs; omega, n_comp_go (fun x => none) (fun x hx Q q => ?_) ?_⟩
          · simp [n_isnum (plain_0 (pl4 x hx)), List.all_eq_true.mp ka6 x hx]
            exact q
          · have e0 : (ns.map D.int).filterMap (fun _ => (none : Option D)) = [] := List.filterMap_eq_nil_iff.mpr fun _ _ => rfl
            rw [e0]
            simp
        rintro ρ M5 ⟨x2, rfl, rfl⟩
        have nn : ns ≠ [] := fun z => c0 (by rw [z]; rfl)
        have de := days_eq nn bn
        have ei : intsF (ns.map D.int) = some ns := ints_map' ns
        rw [List.length_map] at hs
        refine n_mid (fun ρ M' => incI ns = true ∧ isIntD 0 23 e = true ∧ ρ = [.val (.int p), .val (.tup [a, .int y, .int z, .tup (ns.map .int), e, f, g, h]), x2, .unk] ∧ M' = M5) ?_ ?_
        · simp [ei]
          refine ⟨by omega, fun ms pw mem => ⟨ok_iL ns ms, ?_⟩⟩
          rw [show pyEq (D.lst (ns.map .int)) (D.lst (ms.map .int)) = decide (ns = ms) from py_iL ns ms]
          by_cases en : ns = ms
          · have inc : incI ns = true := by rw [en]; exact inc_pair.mpr pw
            simp [en, n_isnum q5]
            cases ke : isIntD 0 23 e with
            | false =>
              simp
              exact rf (by simp [isSignD, ke]) M5 .refl
            | true =>
              simp
              rw [← en]
              exact inc
          · have inc : incI ns = false := by
              cases q : incI ns with
              | false => rfl
              | true => exact absurd (pair_uniq (inc_pair.mp q) pw fun k => (mem k).symm) en
            simp [en]
            exact rf (by simp [isSignD, de, inc]) M5 .refl
        rintro ρ M6 ⟨inc, ke, rfl, rfl⟩
        cases kf : isIntD 0 24 f with
        | false =>
          simp [n_isnum q6, kf]
          exact rf (by simp [isSignD, kf]) M6 .refl
        | true =>
        refine n_mid (fun ρ M' => ρ = [.val (.int p), .val (.tup [a, .int y, .int z, .tup (ns.map .int), e, f, g, h]), x2, .unk] ∧ M' = M6) (by simp [n_isnum q6, kf]) ?_
        rintro ρ M7 ⟨rfl, rfl⟩
        refine n_mid (fun ρ M' => ∃ dc, ρ = [.val (.int p), .val (.tup [a, .int y, .int z, .tup (ns.map .int), e, f, g, h]), x2, .val (.cell dc)] ∧ Grow M7 M' ∧ M' dc = some (.dct bnds)) ?_ ?_
        · simp
          intro dc ndc
          exact ⟨Grow.put ndc, Mem.put_same _ _ _⟩
        rintro ρ M8 ⟨dc, rfl, g8, m8⟩
        have cell : isSignD p (.tup [a, .int y, .int z, .tup (ns.map .int), e, f, g, h]) = isWordD g h := by
          simp [isSignD, ka, kc, lessD, kb', de, inc, ke, kf]
        by_cases gs : ∃ w, g = .str w
        · obtain ⟨w, rfl⟩ := gs
          cases lk : bnds.lookup w with
          | none =>
            simp [isiF, n_dnin m8, lk]
            exact rf (by rw [cell, word_none lk]) M8 g8
          | some uz =>
            obtain ⟨u, z2⟩ := uz
            refine n_mid (fun ρ M' => ρ = [.val (.int p), .val (.tup [a, .int y, .int z, .tup (ns.map .int), e, f, .str w, h]), x2, .val (.cell dc)] ∧ M' = M8) (by simp [isiF, n_dnin m8, lk]) ?_
            rintro ρ M9 ⟨rfl, rfl⟩
            simp [n_dget m8 lk, n_isnum q8]
            have := k M9 g8
            rw [cell, word_some lk] at this
            exact this
        · have gs' : ∀ w, g ≠ .str w := fun w e => gs ⟨w, e⟩
          have wo : isWordD g h = false := word_other gs'
          have fin := rf (by rw [cell, wo]) M8 g8
          cases g <;> first | exact absurd rfl (gs' _) | exact Bool.noConfusion q7 | (simp [isiF]; exact fin)
      | _ =>
        simp [isiF]
        exact rf (by simp [isSignD, areDaysD]) M3 .refl
    · have c3 : ¬ (ds.length : Int) = 8 := by omega
      simp [b_l_is_sign, isiF, c3]
      rw [isSign_8 c1] at k
      exact k M .refl
  | _ =>
    simp [b_l_is_sign, isiF]
    exact k M .refl
/-! ### a street -/
theorem cut0 (ds : List D) (i : Nat) : cutD ds none (some (i : Int)) = ds.take i := by
  unfold cutD
  rw [HT.sIx_nat, HT.sIx_none, Nat.sub_zero, List.drop_zero]
  by_cases h : i ≤ ds.length
  · rw [Nat.min_eq_left h]
  · rw [Nat.min_eq_right (by omega), List.take_length, List.take_of_length_le (by omega)]
theorem inD_sg (s : Sgn) (l : List Sgn) : inD s.d (l.map Sgn.d) = decide (s ∈ l) := by
  unfold inD
  rw [List.any_map, Bool.eq_iff_iff, List.any_eq_true, decide_eq_true_eq]
  constructor
  · rintro ⟨t, ht, e⟩
    have e : pyEq t.d s.d = true := e
    rw [py_sgn, decide_eq_true_eq] at e
    rw [← e]
    exact ht
  · intro h
    refine ⟨s, h, ?_⟩
    show pyEq s.d s.d = true
    rw [py_sgn]
    simp
def dupAt (l : List Sgn) (k : Nat) : Bool := match l[k]? with | some s => decide (s ∈ l.take k) | none => false
theorem dup_none {l : List Sgn} : (∀ k, k < l.length → dupAt l k = false) ↔ l.Nodup := by
  constructor
  · intro h
    unfold List.Nodup
    rw [List.pairwise_iff_getElem]
    intro i j hi hj hij he
    have := h j hj
    unfold dupAt at this
    rw [List.getElem?_eq_getElem hj] at this
    simp only [decide_eq_false_iff_not] at this
    refine this (List.mem_iff_getElem.mpr ⟨i, by rw [List.length_take]; omega, ?_⟩)
    rw [List.getElem_take]
    exact he
  · intro nd k hk
    unfold dupAt
    rw [List.getElem?_eq_getElem hk]
    simp only [decide_eq_false_iff_not]
    intro z
    obtain ⟨i, hi, e⟩ := List.mem_iff_getElem.mp z
    rw [List.getElem_take] at e
    rw [List.length_take] at hi
    have := (List.getElem_inj nd).mp e
    omega
def shortsD : D → Prop | .tup [_, .tup ss] => ∀ s ∈ ss, shortD s | _ => True
def F_l_is_street : FS := gwF 1 (fun (d : D) => [d]) (fun d => plainD d = true ∧ shortsD d) fun d => .bl (isStreetD d)
def b_l_is_street : S := (.seq (.iff (.or (.not (.isi (.var 0) .tuple)) (.or (.cmp .ne (.b1 .len (.var 0)) (.int 2)) (.not (.call "_law_is_number" F_l_is_number (.cons (.ix (.var 0) (.int 0)) (.cons (.int 1) (.cons (.int 4) .nil)))))))
  (.ret (.bl false))
  .nop)
  (.seq (.iff (.or (.not (.isi (.ix (.var 0) (.int 1)) .tuple)) (.cmp .gt (.b1 .len (.ix (.var 0) (.int 1))) (.int 6)))
  (.ret (.bl false))
  .nop)
  (.seq (.iff (.comp (.var 1) (.one 1) (.it1 .seq (.ix (.var 0) (.int 1))) (.not (.call "_law_is_sign" F_l_is_sign (.cons (.ix (.var 0) (.int 0)) (.cons (.var 1) .nil)))) [1])
  (.ret (.bl false))
  .nop)
  (.ret (.cmp .eq (.comp (.int 1) (.one 2) (.it1 .range (.b1 .len (.ix (.var 0) (.int 1)))) (.cmp .isin (.ix (.ix (.var 0) (.int 1)) (.var 2)) (.cut false true (.ix (.var 0) (.int 1)) .non (.var 2))) [2]) (.lst .nil))))))
theorem n_isstreet {M : Mem} {E0 : EK} {Q : D → Mem → Prop} {d : D} (h : plainD d = true) (h2 : shortsD d) (k : ∀ M', Grow M M' → Q (.bl (isStreetD d)) M') : @rn _ (PM.call F_l_is_street [d]) M ⟨Q, E0⟩ := gw_call d rfl rfl ⟨h, h2⟩ k
theorem ok_l_is_street : BodyOk 3 b_l_is_street F_l_is_street := by
  refine gw_body inj_1 ?_
  rintro d M P ⟨hp, hs⟩ k
  have hp : plainD d = true := hp
  have hs : shortsD d := hs
  have k : ∀ M', Grow M M' → P.rt (.bl (isStreetD d)) M' := k
  show (wpS b_l_is_street).run [.val d, .unk, .unk] M _
  refine to_sn ?_
  cases d with
  | cell a => exact Bool.noConfusion hp
  | scr a => exact Bool.noConfusion hp
  | tup ds =>
    by_cases c1 : ds.length = 2
    · obtain ⟨a, b, rfl⟩ := len2 c1
      have pl := plainL_mem (show plainL [a, b] = true from hp)
      have p1 := plain_0 (pl a (by simp))
      have p2 := pl b (by simp)
      have rf : isStreetD (.tup [a, b]) = false → ∀ M', Grow M M' → P.rt (.bl false) M' := fun e M' gr => by rw [← e]; exact k M' gr
      unfold b_l_is_street
      cases ka : isIntD 1 4 a with
      | false =>
        simp [isiF, n_isnum p1, ka]
        refine rf ?_ M .refl
        cases a <;> cases b <;> simp [isStreetD]
        simp [isIntD] at ka
        intro h1 h2
        omega
      | true =>
      obtain ⟨z, rfl, z1, z2⟩ := isInt_ex ka
      refine n_mid (fun ρ M' => ρ = [.val (.tup [.int z, b]), .unk, .unk] ∧ M' = M) (by simp [isiF, n_isnum (d := .int z) rfl, ka]) ?_
      rintro ρ M1 ⟨rfl, rfl⟩
      cases b with
      | cell a => exact Bool.noConfusion p2
      | scr a => exact Bool.noConfusion p2
      | tup ss =>
        have pl2 := plainL_mem (show plainL ss = true from p2)
        have hs : ∀ s ∈ ss, shortD s := hs
        have zz : decide (1 ≤ z ∧ z ≤ 4) = true := decide_eq_true ⟨z1, z2⟩
        by_cases c2 : ss.length ≤ 6
        · have c2' : ¬ (6 : Int) < ss.length := by omega
          refine n_mid (fun ρ M' => ρ = [.val (.tup [.int z, .tup ss]), .unk, .unk] ∧ M' = M1) (by simp [isiF, c2']) ?_
          rintro ρ M2 ⟨rfl, rfl⟩
          refine n_mid (fun ρ M' => ss.all (isSignD z) = true ∧ ∃ x1, ρ = [.val (.tup [.int z, .tup ss]), x1, .unk] ∧ Grow M2 M') ?_ ?_
          · simp
            refine ⟨by omega, n_comp_st (fun j acc M' => Grow M2 M' ∧ acc = (ss.take j).filterMap fun x => if isSignD z x = true then none else some x) ⟨.refl, rfl⟩ (fun j x acc M3 hx ⟨g3, ea⟩ => ?_) fun acc M3 ⟨g3, ea⟩ => ?_⟩
            · have mx := List.mem_of_getElem? hx
              simp
              refine n_issign ⟨z1, z2⟩ (pl2 x mx) (hs x mx) fun M4 g4 => ?_
              have e1 : ss.take (j + 1) = ss.take j ++ [x] := by rw [List.take_add_one, hx]; rfl
              simp
              rw [e1, List.filterMap_append, ← ea]
              cases hz : isSignD z x <;> simp [hz]
              all_goals exact g3.trans g4
            · rw [List.take_length] at ea
              cases al : ss.all (isSignD z) with
              | true =>
                have e0 : acc = [] := by
                  rw [ea]
                  exact List.filterMap_eq_nil_iff.mpr fun x hx => by rw [if_pos (List.all_eq_true.mp al x hx)]
                subst e0
                simp
                exact g3
              | false =>
                have e0 : acc ≠ [] := fun e => by
                  obtain ⟨x, hx, hf⟩ := List.all_eq_false.mp al
                  rw [e] at ea
                  have := List.filterMap_eq_nil_iff.mp ea.symm x hx
                  simp [hf] at this
                simp [e0]
                refine rf ?_ M3 g3
                show (decide (1 ≤ z ∧ z ≤ 4) && decide (ss.length ≤ 6) && ss.all (isSignD z) && decide (((tupKeys ss).getD []).Nodup)) = false
                rw [al]
                simp
          rintro ρ M3 ⟨al, x1, rfl, g3⟩
          obtain ⟨sg, rfl, so⟩ := signs_of al
          have so : ∀ s ∈ sg, s.ok z = true := List.all_eq_true.mp so
          have res : isStreetD (.tup [.int z, .tup (sg.map Sgn.d)]) = decide sg.Nodup := by
            rw [List.length_map] at c2
            by_cases nd : sg.Nodup
            · rw [decide_eq_true nd]
              exact (Strt.ok_iff ⟨z, sg⟩).mpr ⟨z1, z2, c2, so, nd⟩
            · rw [decide_eq_false nd]
              cases e : isStreetD (.tup [.int z, .tup (sg.map Sgn.d)]) with
              | false => rfl
              | true => exact absurd ((Strt.ok_iff ⟨z, sg⟩).mp e).nd nd
          have fin := k M3 g3
          rw [res] at fin
          rw [List.length_map] at c2
          simp [range_map]
          refine ⟨by omega, by omega, n_comp_ty (fun k => if dupAt sg k = true then some (.int 1) else none) (fun k hk Q q => ?_) ?_⟩
          · rw [List.mem_range] at hk
            have hg : sg[k]? = some sg[k] := List.getElem?_eq_getElem hk
            have wo : ∀ t ∈ sg, wordOk t.word t.value = true := fun t ht => by
              have := so t ht
              unfold Sgn.ok at this
              simp only [Bool.and_eq_true] at this
              exact this.2
            have io : inOk (sg[k]).d ((sg.take k).map Sgn.d) := inOk_sgn (wo _ (List.getElem_mem hk)) fun t ht => wo t (List.mem_of_mem_take ht)
            have du : dupAt sg k = decide (sg[k] ∈ sg.take k) := by unfold dupAt; rw [hg]
            simp [at_nat, hg]
            rw [cut0, ← List.map_take, inD_sg]
            refine ⟨io, ?_⟩
            rw [du] at q
            cases hd : decide (sg[k] ∈ sg.take k) with
            | true => rw [hd] at q; simpa using q
            | false => rw [hd] at q; simpa using q
          · have e0 : (List.range sg.length).filterMap (fun k => if dupAt sg k = true then some (D.int 1) else none) = [] ↔ sg.Nodup := by
              rw [← dup_none, List.filterMap_eq_nil_iff]
              constructor
              · intro h k hk
                have := h k (List.mem_range.mpr hk)
                cases q : dupAt sg k with
                | false => rfl
                | true => simp [q] at this
              · intro h k hk
                rw [h k (List.mem_range.mp hk)]
                rfl
            have allI : ∀ x ∈ (List.range sg.length).filterMap (fun k => if dupAt sg k = true then some (D.int 1) else none), x = .int 1 := fun x hx => by
              obtain ⟨k, _, hk⟩ := List.mem_filterMap.mp hx
              split at hk
              · cases hk; rfl
              · cases hk
            generalize (List.range sg.length).filterMap (fun k => if dupAt sg k = true then some (D.int 1) else none) = R at e0 allI
            simp
            have eR : R = (R.map fun _ => (1 : Int)).map .int := by
              rw [List.map_map]
              refine (List.map_id R).symm.trans (List.map_congr_left fun x hx => ?_)
              rw [allI x hx]
              rfl
            have e1 : D.lst R = iL (R.map fun _ => (1 : Int)) := by rw [eR]; simp [iL]
            rw [e1, py_iL]
            refine ⟨ok_iL _ _, ?_⟩
            have e2 : decide ((R.map fun _ => (1 : Int)) = []) = decide sg.Nodup := by
              rw [Bool.eq_iff_iff, decide_eq_true_eq, decide_eq_true_eq, List.map_eq_nil_iff]
              exact e0
            rw [e2]
            exact fin
        · have c2' : (6 : Int) < ss.length := by omega
          simp [isiF, c2']
          refine rf ?_ M1 .refl
          show (decide (1 ≤ z ∧ z ≤ 4) && decide (ss.length ≤ 6) && ss.all (isSignD z) && decide (((tupKeys ss).getD []).Nodup)) = false
          rw [decide_eq_false c2]
          simp
      | _ =>
        simp [isiF]
        exact rf (by simp [isStreetD]) M1 .refl
    · have c3 : ¬ (ds.length : Int) = 2 := by omega
      simp [b_l_is_street, isiF, c3]
      rw [isStreet_2 c1] at k
      exact k M .refl
  | _ =>
    simp [b_l_is_street, isiF]
    exact k M .refl
/-! ### what may be bent -/
/-- small in all: tuples, ints, depth -/
def tmD (L : Nat) (B : Int) : Nat → D → Prop
  | 0, _ => False
  | n + 1, .tup ds => ds.length ≤ L ∧ ∀ d ∈ ds, tmD L B n d
  | _ + 1, .int i => -B ≤ i ∧ i ≤ B
  | _ + 1, .lst ds => plainL ds = true
  | _ + 1, .cell _ => False
  | _ + 1, .scr _ => False
  | _ + 1, _ => True
theorem tm_mono {L L' : Nat} {B B' : Int} (hL : L ≤ L') (hB : B ≤ B') : ∀ {n m : Nat} {d : D}, n ≤ m → tmD L B n d → tmD L' B' m d
  | 0, _, _, _, h => False.elim h
  | n + 1, 0, _, h0, _ => absurd h0 (by omega)
  | n + 1, m + 1, .tup ds, h0, h => ⟨Nat.le_trans h.1 hL, fun d hd => tm_mono hL hB (by omega) (h.2 d hd)⟩
  | n + 1, m + 1, .int i, _, h => ⟨by have := h.1; omega, by have := h.2; omega⟩
  | _ + 1, _ + 1, .lst _, _, h => h
  | _ + 1, _ + 1, .non, _, _ => trivial
  | _ + 1, _ + 1, .bl _, _, _ => trivial
  | _ + 1, _ + 1, .str _, _, _ => trivial
  | _ + 1, _ + 1, .cell _, _, h => False.elim h
  | _ + 1, _ + 1, .scr _, _, h => False.elim h
theorem tm_plain {L : Nat} {B : Int} : ∀ {n : Nat} {d : D}, tmD L B n d → plainD d = true
  | 0, _, h => False.elim h
  | n + 1, .tup ds, h => plainL_of fun d hd => tm_plain (n := n) (h.2 d hd)
  | _ + 1, .int _, _ => rfl
  | _ + 1, .lst _, h => h
  | _ + 1, .non, _ => rfl
  | _ + 1, .bl _, _ => rfl
  | _ + 1, .str _, _ => rfl
  | _ + 1, .cell _, h => False.elim h
  | _ + 1, .scr _, h => False.elim h
theorem n_str_any {M : Mem} {E0 : EK} {Q : D → Mem → Prop} {i : Int} (h : -1600 ≤ i ∧ i ≤ 1600) : @rn _ (b1P .str (.int i)) M ⟨Q, E0⟩ = Q (.str (Str.ofString (toString i))) M := by
  show (i.natAbs.log2 < 1920 ∧ Q (.str (Str.ofString (toString i))) M) = _
  have := Nat.log2_le_self i.natAbs
  rw [eq_iff_iff]
  exact ⟨And.right, fun q => ⟨by omega, q⟩⟩
theorem cutD_len (l : List D) (u v : Option Int) : (cutD l u v).length ≤ l.length := by
  unfold cutD
  rw [List.length_take, List.length_drop]
  omega
theorem cutD_mem {l : List D} {u v : Option Int} {d : D} (h : d ∈ cutD l u v) : d ∈ l := List.mem_of_mem_drop (List.mem_of_mem_take h)
def bcon : List D := [.non, .bl true, .bl false, .int 0, .int 1, .int (-1), .int 3, .int 10, .str "a", .str "b", .str "", .str "A", .str "abcd", .tup [], iL [], .tup [.int 0], .tup [.int 2, .int 1], .tup [.int 1, .int 2], .tup [.tup [.int 0], .tup [.int 1]]]
theorem bcon_tm {L : Nat} {B : Int} {n : Nat} (hL : 8 ≤ L) (hB : 100 ≤ B) {x : D} (h : x ∈ bcon) : tmD L B (n + 3) x := by
  simp only [bcon, List.mem_cons, List.not_mem_nil, or_false] at h
  have one : ∀ i : Int, -100 ≤ i → i ≤ 100 → ∀ m, tmD L B (m + 1) (.int i) := fun i h1 h2 m => ⟨by omega, by omega⟩
  rcases h with rfl | rfl | rfl | rfl | rfl | rfl | rfl | rfl | rfl | rfl | rfl | rfl | rfl | rfl | rfl | rfl | rfl | rfl | rfl
  · trivial
  · trivial
  · trivial
  · exact one _ (by omega) (by omega) _
  · exact one _ (by omega) (by omega) _
  · exact one _ (by omega) (by omega) _
  · exact one _ (by omega) (by omega) _
  · exact one _ (by omega) (by omega) _
  · trivial
  · trivial
  · trivial
  · trivial
  · trivial
  · exact ⟨Nat.zero_le _, fun d hd => nomatch hd⟩
  · exact (rfl : plainL [] = true)
  · refine ⟨show 1 ≤ L by omega, fun d hd => ?_⟩
    rw [List.mem_singleton.mp hd]
    exact one _ (by omega) (by omega) _
  · refine ⟨show 2 ≤ L by omega, fun d hd => ?_⟩
    simp only [List.mem_cons, List.not_mem_nil, or_false] at hd
    rcases hd with rfl | rfl <;> exact one _ (by omega) (by omega) _
  · refine ⟨show 2 ≤ L by omega, fun d hd => ?_⟩
    simp only [List.mem_cons, List.not_mem_nil, or_false] at hd
    rcases hd with rfl | rfl <;> exact one _ (by omega) (by omega) _
  · refine ⟨show 2 ≤ L by omega, fun d hd => ?_⟩
    simp only [List.mem_cons, List.not_mem_nil, or_false] at hd
    rcases hd with rfl | rfl
    all_goals
      refine ⟨show 1 ≤ L by omega, fun d hd => ?_⟩
      rw [List.mem_singleton.mp hd]
      exact one _ (by omega) (by omega) _
def RB (n : Nat) (d r : D) : Prop := ∀ (L : Nat) (B : Int) (N : Nat), 8 ≤ L → L ≤ 20 → 100 ≤ B → B ≤ 1500 → N ≤ n → tmD L B N d → tmD (L + 1) (B + 1) (N + 2) r
def F_bntN (n : Nat) : FS := drF 1 (4 * n) (fun (d : D) => [d]) (fun d => ∃ (L : Nat) (B : Int) (N : Nat), 8 ≤ L ∧ L ≤ 20 ∧ 100 ≤ B ∧ B ≤ 1500 ∧ N ≤ n ∧ tmD L B N d) (RB n)
abbrev F_l_bent : FS := F_bntN 7
def b_l_bentN (F_l_bent : FS) : S := (.seq (.iff (.or (.not (.isi (.var 2) .tuple)) (.or (.not (.var 2)) (.cmp .eq (.call "_law_draw" F_l_draw (.cons (.var 0) (.cons (.var 1) (.cons (.int 4) .nil)))) (.int 0))))
  (.seq (.set 3 (.lst (.cons .non (.cons (.bl true) (.cons (.bl false) (.cons (.int 0) (.cons (.int 1) (.cons (.neg (.int 1)) (.cons (.int 3) (.cons (.int 10) (.cons (.str "a") (.cons (.str "b") (.cons (.str "") (.cons (.str "A") (.cons (.str "abcd") (.cons (.tup .nil) (.cons (.lst .nil) (.cons (.tup (.cons (.int 0) .nil)) .nil))))))))))))))))))
  (.seq (.set 3 (.bin .add (.var 3) (.lst (.cons (.tup (.cons (.int 2) (.cons (.int 1) .nil))) (.cons (.tup (.cons (.int 1) (.cons (.int 2) .nil))) (.cons (.tup (.cons (.tup (.cons (.int 0) .nil)) (.cons (.tup (.cons (.int 1) .nil)) .nil))) .nil))))))
  (.seq (.iff (.isi (.var 2) .tuple)
  (.set 3 (.bin .add (.var 3) (.lst (.cons (.b1 .list (.var 2)) (.cons (.cut false true (.var 2) .non (.neg (.int 1))) (.cons (.bin .add (.var 2) (.cut true false (.var 2) (.neg (.int 1)) .non)) (.cons (.cut true false (.var 2) (.int 1) .non) (.cons (.sp1 .rev (.var 2)) (.cons (.bin .add (.var 2) (.tup (.cons .non .nil))) .nil)))))))))
  .nop)
  (.seq (.iff (.isi (.var 2) .int)
  (.set 3 (.bin .add (.var 3) (.bin .mul (.lst (.cons (.bin .add (.var 2) (.int 1)) (.cons (.bin .sub (.var 2) (.int 1)) (.cons (.not (.var 2)) (.cons (.tup (.cons (.var 2) .nil)) (.cons (.b1 .str (.var 2)) .nil)))))) (.int 2))))
  .nop)
  (.ret (.call "_law_pick" F_l_pick (.cons (.var 0) (.cons (.var 1) (.cons (.var 3) .nil)))))))))
  .nop)
  (.seq (.set 4 (.call "_law_draw" F_l_draw (.cons (.var 0) (.cons (.var 1) (.cons (.b1 .len (.var 2)) .nil)))))
  (.ret (.bin .add (.bin .add (.cut false true (.var 2) .non (.var 4)) (.tup (.cons (.call "_law_bent" F_l_bent (.cons (.var 0) (.cons (.var 1) (.cons (.ix (.var 2) (.var 4)) .nil)))) .nil))) (.cut true false (.var 2) (.bin .add (.var 4) (.int 1)) .non)))))
theorem n_bntN {n : Nat} {M : Mem} {E0 : EK} {Q : D → Mem → Prop} {ns : List Int} {a : Addr} {c : Nat} {d : D} (l : ns.length ≤ 63) (hp : ∃ (L : Nat) (B : Int) (N : Nat), 8 ≤ L ∧ L ≤ 20 ∧ 100 ≤ B ∧ B ≤ 1500 ∧ N ≤ n ∧ tmD L B N d) (st : StOk a c M) (hc : c + 4 * n ≤ 16777216) (k : ∀ r M', RB n d r → StOk a (c + 4 * n) M' → Else a M M' → Q r M') : @rn _ (PM.call (F_bntN n) [.scr ns, .cell a, d]) M ⟨Q, E0⟩ := dr_call d rfl rfl l hp st hc k
theorem F_bntN0 {k : Nat} : BodyOk k .never (F_bntN 0) := by
  rintro _ M _ ⟨ns, a, d, c, _, _, ⟨L, B, N, _, _, _, _, h0, h⟩, _⟩
  cases N with
  | zero => exact False.elim h
  | succ N => omega
theorem ok_bntN (n : Nat) : BodyOk 5 (b_l_bentN (F_bntN n)) (F_bntN (n + 1)) := by
  refine dr_body inj_1 ?_
  rintro ns a d c M P hs hp st hc k
  show (wpS (b_l_bentN (F_bntN n))).run [.val (.scr ns), .val (.cell a), .val d, .unk, .unk] M _
  refine to_sn ?_
  obtain ⟨L, B, N, l8, l20, b1', b2', hN, tm⟩ := hp
  unfold b_l_bentN
  have con : ∀ x ∈ bcon, RB (n + 1) d x := fun x hx L B N a1 a2 a3 a4 a5 tm => by
    cases N with
    | zero => exact False.elim tm
    | succ N => exact bcon_tm (by omega) (by omega) hx
  have pick : ∀ (M1 : Mem) (xs : List D), xs ≠ [] → (∀ x ∈ xs, RB (n + 1) d x) → StOk a (c + 2) M1 → Else a M M1 → @rn _ (PM.call F_l_pick [.scr ns, .cell a, .lst xs]) M1 ⟨P.rt, P.ex⟩ := fun M1 xs hne hx s1 e1 => by
    refine n_pick hs hne s1 (by omega) fun x M' hm s' e' => ?_
    exact k x M' (hx x hm) (s'.mono (by omega)) (e1.trans e')
  cases N with
  | zero => exact False.elim tm
  | succ N =>
  cases d with
  | cell x => exact False.elim tm
  | scr x => exact False.elim tm
  | non =>
    simp [isiF]
    exact pick M bcon (by simp [bcon]) con (st.mono (by omega)) .refl
  | str x =>
    simp [isiF]
    exact pick M bcon (by simp [bcon]) con (st.mono (by omega)) .refl
  | lst x =>
    simp [isiF]
    exact pick M bcon (by simp [bcon]) con (st.mono (by omega)) .refl
  | bl b =>
    have more : ∀ x ∈ ([.int ((if b = true then 1 else 0) + 1), .int ((if b = true then 1 else 0) - 1), .bl !b, .tup [.bl b], .str (if b = true then Str.ofString "True" else Str.ofString "False")] : List D), RB (n + 1) (.bl b) x := fun x hx L B N a1 a2 a3 a4 a5 tm => by
      cases N with
      | zero => exact False.elim tm
      | succ N =>
      simp only [List.mem_cons, List.not_mem_nil, or_false] at hx
      rcases hx with rfl | rfl | rfl | rfl | rfl
      · refine ⟨?_, ?_⟩ <;> split <;> omega
      · refine ⟨?_, ?_⟩ <;> split <;> omega
      · trivial
      · refine ⟨show 1 ≤ L + 1 by omega, fun d hd => ?_⟩
        rw [List.mem_singleton.mp hd]
        trivial
      · trivial
    simp [isiF]
    exact pick M (bcon ++ [.int ((if b = true then 1 else 0) + 1), .int ((if b = true then 1 else 0) - 1), .bl !b, .tup [.bl b], .str (if b = true then Str.ofString "True" else Str.ofString "False"), .int ((if b = true then 1 else 0) + 1), .int ((if b = true then 1 else 0) - 1), .bl !b, .tup [.bl b], .str (if b = true then Str.ofString "True" else Str.ofString "False")]) (by simp [bcon]) (fun x hx => by
      rcases List.mem_append.mp hx with hx | hx
      · exact con x hx
      · refine more x ?_
        simp only [List.mem_cons, List.not_mem_nil, or_false] at hx ⊢
        rcases hx with h | h | h | h | h | h | h | h | h | h <;> simp [h]) (st.mono (by omega)) .refl
  | int i =>
    have bi : -1500 ≤ i ∧ i ≤ 1500 := ⟨by have := tm.1; omega, by have := tm.2; omega⟩
    have more : ∀ x ∈ ([.int (i + 1), .int (i - 1), .bl (!(i != 0)), .tup [.int i], .str (Str.ofString i.repr)] : List D), RB (n + 1) (.int i) x := fun x hx L B N a1 a2 a3 a4 a5 tm => by
      cases N with
      | zero => exact False.elim tm
      | succ N =>
      have tm : -B ≤ i ∧ i ≤ B := tm
      simp only [List.mem_cons, List.not_mem_nil, or_false] at hx
      rcases hx with rfl | rfl | rfl | rfl | rfl
      · exact ⟨by omega, by omega⟩
      · exact ⟨by omega, by omega⟩
      · trivial
      · refine ⟨show 1 ≤ L + 1 by omega, fun d hd => ?_⟩
        rw [List.mem_singleton.mp hd]
        exact ⟨by omega, by omega⟩
      · trivial
    simp [isiF, n_str_any (show -1600 ≤ i ∧ i ≤ 1600 by omega)]
    exact pick M (bcon ++ [.int (i + 1), .int (i - 1), .bl (!(i != 0)), .tup [.int i], .str (Str.ofString i.repr), .int (i + 1), .int (i - 1), .bl (!(i != 0)), .tup [.int i], .str (Str.ofString i.repr)]) (by simp [bcon]) (fun x hx => by
      rcases List.mem_append.mp hx with hx | hx
      · exact con x hx
      · refine more x ?_
        simp only [List.mem_cons, List.not_mem_nil, or_false] at hx ⊢
        rcases hx with h | h | h | h | h | h | h | h | h | h <;> simp [h]) (st.mono (by omega)) .refl
  | tup ds =>
    have tm : ds.length ≤ L ∧ ∀ d ∈ ds, tmD L B N d := tm
    have cl := cutD_len ds (some (-1)) none
    have bt : ∀ x ∈ bcon ++ [.lst ds, .tup (cutD ds none (some (-1))), .tup (ds ++ cutD ds (some (-1)) none), .tup ds.tail, .tup ds.reverse, .tup (ds ++ [.non])], RB (n + 1) (.tup ds) x := fun x hx L B N a1 a2 a3 a4 a5 tm => by
      rcases List.mem_append.mp hx with hx | hx
      · exact con x hx L B N a1 a2 a3 a4 a5 tm
      cases N with
      | zero => exact False.elim tm
      | succ N =>
      have tm : ds.length ≤ L ∧ ∀ d ∈ ds, tmD L B N d := tm
      have up : ∀ d ∈ ds, tmD (L + 1) (B + 1) (N + 2) d := fun d hd => tm_mono (by omega) (by omega) (by omega) (tm.2 d hd)
      have e1 : (cutD ds (some (-1)) none).length ≤ 1 := by
        unfold cutD HT.sIx
        simp
        omega
      simp only [List.mem_cons, List.not_mem_nil, or_false] at hx
      rcases hx with rfl | rfl | rfl | rfl | rfl | rfl
      · exact plainL_of fun d hd => tm_plain (tm.2 d hd)
      · exact ⟨by have := cutD_len ds none (some (-1)); omega, fun d hd => up d (cutD_mem hd)⟩
      · refine ⟨by rw [List.length_append]; omega, fun d hd => ?_⟩
        rcases List.mem_append.mp hd with hd | hd
        · exact up d hd
        · exact up d (cutD_mem hd)
      · exact ⟨by rw [List.length_tail]; omega, fun d hd => up d (List.mem_of_mem_tail hd)⟩
      · exact ⟨by rw [List.length_reverse]; omega, fun d hd => up d (List.mem_reverse.mp hd)⟩
      · refine ⟨by rw [List.length_append]; simp; omega, fun d hd => ?_⟩
        rcases List.mem_append.mp hd with hd | hd
        · exact up d hd
        · rw [List.mem_singleton.mp hd]; trivial
    have fin : ∀ (M1 : Mem), StOk a (c + 2) M1 → Else a M M1 → @rn _ (PM.call F_l_pick [.scr ns, .cell a, .lst (bcon ++ [.lst ds, .tup (cutD ds none (some (-1))), .tup (ds ++ cutD ds (some (-1)) none), .tup ds.tail, .tup ds.reverse, .tup (ds ++ [.non])])]) M1 ⟨P.rt, P.ex⟩ := fun M1 s1 e1 => pick M1 _ (by simp [bcon]) bt s1 e1
    simp [isiF]
    by_cases c0 : ds = []
    · rw [if_pos c0, if_pos c0]
      exact ⟨by omega, by omega, fin M (st.mono (by omega)) .refl⟩
    · rw [if_neg c0]
      have l0 := List.length_pos_iff.mpr c0
      refine n_draw hs (by omega) st (by omega) fun v M1 a1 b1 s1 e1 => ?_
      simp
      by_cases c1 : v = 0
      · subst c1
        simp [isiF]
        exact ⟨by omega, by omega, fin M1 s1 e1⟩
      · rw [if_neg c1]
        refine n_draw hs (by omega) s1 (by omega) fun u M2 a2 b2 s2 e2 => ?_
        have ea : atI ds u = some (ds[u.toNat]'(by omega)) := by
          have e1 : ixN ds.length u = some u.toNat := by
            unfold ixN
            rw [if_pos (by omega), if_pos (by omega)]
          unfold atI
          rw [e1]
          simp
        simp [ea]
        have mu : ds[u.toNat]'(by omega) ∈ ds := List.getElem_mem _
        refine n_bntN hs ⟨L, B, N, l8, l20, b1', b2', by omega, tm.2 _ mu⟩ s2 (by omega) fun r M3 pr s3 e3 => ?_
        have l1 := cutD_len ds none (some u)
        have l2 := cutD_len ds (some (u + 1)) none
        simp
        refine ⟨by omega, by omega, k _ M3 ?_ (s3.mono (by omega)) ((e1.trans e2).trans e3)⟩
        intro L B N a1 a2' a3 a4 a5 tm
        cases N with
        | zero => exact False.elim tm
        | succ N =>
        have tm : ds.length ≤ L ∧ ∀ d ∈ ds, tmD L B N d := tm
        have up : ∀ d ∈ ds, tmD (L + 1) (B + 1) (N + 2) d := fun d hd => tm_mono (by omega) (by omega) (by omega) (tm.2 d hd)
        have c1' : cutD ds none (some u) = ds.take u.toNat := by
          have := cut0 ds u.toNat
          rwa [Int.toNat_of_nonneg a2] at this
        have c2' : cutD ds (some (u + 1)) none = ds.drop (u.toNat + 1) := by
          have := cut_nat ds (u.toNat + 1)
          rwa [show ((u.toNat + 1 : Nat) : Int) = u + 1 by omega] at this
        rw [c1', c2']
        refine ⟨by rw [List.length_append, List.length_cons, List.length_take, List.length_drop]; omega, fun d hd => ?_⟩
        rcases List.mem_append.mp hd with hd | hd
        · exact up d (List.mem_of_mem_take hd)
        · rcases List.mem_cons.mp hd with rfl | hd
          · exact pr L B N a1 a2' a3 a4 (by omega) (tm.2 _ mu)
          · exact up d (List.mem_of_mem_drop hd)
/-! ### the law -/
/-- what the law asks of -/
def okT (d : D) : Prop := plainD d = true ∧ shortsD d
theorem short_tm {B : Int} {L : Nat} (hL : L ≤ 60) : ∀ {n : Nat} {d : D}, tmD L B n d → shortD d := fun {n d} h => by
  unfold shortD
  split
  · rename_i a b c ds e f g i
    cases n with
    | zero => exact False.elim h
    | succ n =>
      have := h.2 (.tup ds) (by simp)
      cases n with
      | zero => exact False.elim this
      | succ n => exact Nat.le_trans this.1 hL
  · trivial
theorem okT_tm {B : Int} {L n : Nat} {d : D} (hL : L ≤ 60) (h : tmD L B n d) : okT d := by
  refine ⟨tm_plain h, ?_⟩
  unfold shortsD
  split
  · rename_i a ss
    cases n with
    | zero => exact False.elim h
    | succ n =>
      have := h.2 (.tup ss) (by simp)
      cases n with
      | zero => exact False.elim this
      | succ n => exact fun s hs => short_tm hL (this.2 s hs)
  · trivial
theorem val_in {w : Str} {v : Int} (h : wordOk w v = true) : 0 ≤ v ∧ v ≤ 24 := by
  unfold wordOk at h
  split at h
  · simp at h; omega
  · split at h
    · simp at h; omega
    · simp at h; omega
theorem tm_sgn {s : Sgn} {p : Int} (hp : p ≤ 4) (o : s.ok p = true) (n : Nat) : tmD 8 100 (n + 3) s.d := by
  have i := Sgn.ok_is o
  have v := val_in i.w
  have := i.r0; have := i.r3; have := i.e1; have := i.ep; have := i.s0; have := i.se; have := i.f0; have := i.f1; have := i.l0; have := i.l1
  refine ⟨Nat.le_refl _, fun d hd => ?_⟩
  simp only [List.mem_cons, List.not_mem_nil, or_false] at hd
  have one : ∀ x : Int, -100 ≤ x → x ≤ 100 → ∀ m, tmD 8 100 (m + 1) (.int x) := fun x h1 h2 m => ⟨h1, h2⟩
  rcases hd with rfl | rfl | rfl | rfl | rfl | rfl | rfl | rfl
  · exact one _ (by omega) (by omega) _
  · exact one _ (by omega) (by omega) _
  · exact one _ (by omega) (by omega) _
  · refine ⟨by rw [List.length_map]; exact Nat.le_trans i.dl (by omega), fun d hd => ?_⟩
    obtain ⟨x, hx, rfl⟩ := List.mem_map.mp hd
    have := i.dd x hx
    exact one _ (by omega) (by omega) _
  · exact one _ (by omega) (by omega) _
  · exact one _ (by omega) (by omega) _
  · trivial
  · exact one _ (by omega) (by omega) _
theorem tm_strt {t : Strt} (o : t.Is) : tmD 8 100 5 t.d := by
  have lo := o.lo
  have hi := o.hi
  have few := o.few
  refine ⟨show 2 ≤ 8 by omega, fun d hd => ?_⟩
  simp only [List.mem_cons, List.not_mem_nil, or_false] at hd
  rcases hd with rfl | rfl
  · exact ⟨by omega, by omega⟩
  · refine ⟨by rw [List.length_map]; omega, fun d hd => ?_⟩
    obtain ⟨s, hs, rfl⟩ := List.mem_map.mp hd
    exact tm_sgn hi (o.all s hs) 0
def shortB : D → Bool | .tup [_, _, _, .tup ds, _, _, _, _] => decide (ds.length ≤ 60) | _ => true
def shortsB : D → Bool | .tup [_, .tup ss] => ss.all shortB | _ => true
theorem short_B {d : D} (h : shortB d = true) : shortD d := by
  unfold shortB at h
  unfold shortD
  split at h
  · simpa using h
  · trivial
theorem okB {d : D} (h : (plainD d && shortsB d) = true) : okT d := by
  rw [Bool.and_eq_true] at h
  refine ⟨h.1, ?_⟩
  have h2 := h.2
  unfold shortsB at h2
  unfold shortsD
  split at h2
  · exact fun s hs => short_B (List.all_eq_true.mp h2 s hs)
  · trivial
/-- with signs that are some of a street's -/
theorem okT_sgns {p : Int} {l : List Sgn} (h : ∀ s ∈ l, s.days.length ≤ 60) : okT (.tup [.int p, .tup (l.map Sgn.d)]) := by
  refine ⟨by simp [plainD, plainL, plain_sgns], ?_⟩
  intro d hd
  obtain ⟨s, hs, rfl⟩ := List.mem_map.mp hd
  show (s.days.map D.int).length ≤ 60
  rw [List.length_map]
  exact h s hs
def F_law : FS where
  ar := 1
  pre := fun ds _ => ∃ ns : List Int, ds = [.scr ns] ∧ ns.length ≤ 63
  post := fun _ _ r _ => r = .bl true
theorem ct5' (ds : List D) : cutD ds none (some 5) = ds.take 5 := cut0 ds 5
theorem ct6' (ds : List D) : cutD ds none (some 6) = ds.take 6 := cut0 ds 6
theorem cd6' (ds : List D) : cutD ds (some 6) none = ds.drop 6 := cut_nat ds 6
def plainS : D := .tup [.int 0, .int 0, .int 1, .tup [.int 0], .int 8, .int 9, .str "none", .int 0]
def b_law : S := (.seq (.newcell 1)
  (.seq (.set 2 (.tup (.cons (.int 0) (.cons (.int 0) (.cons (.int 1) (.cons (.tup (.cons (.int 0) .nil)) (.cons (.int 8) (.cons (.int 9) (.cons (.str "none") (.cons (.int 0) .nil))))))))))
  (.seq (.new 3 (.lst (.cons (.tup (.cons (.int 1) (.cons (.tup .nil) .nil))) (.cons (.tup (.cons (.int 0) (.cons (.tup .nil) .nil))) (.cons (.tup (.cons (.int 5) (.cons (.tup .nil) .nil))) (.cons (.tup (.cons (.int 4) (.cons (.tup (.cons (.var 2) .nil)) .nil))) (.cons (.tup (.cons (.bl true) (.cons (.tup .nil) .nil))) (.cons (.tup (.cons (.int 1) (.cons (.tup (.cons (.var 2) (.cons (.var 2) .nil))) .nil))) .nil))))))))
  (.seq (.new 3 (.bin .add (.brw 3) (.lst (.cons (.tup (.cons (.int 1) (.cons (.lst (.cons (.var 2) .nil)) .nil))) (.cons (.tup (.cons (.int 1) (.cons (.var 2) .nil))) (.cons .non (.cons (.int 1) (.cons (.str "1") (.cons (.tup (.cons (.int 1) .nil)) (.cons (.lst (.cons (.int 1) (.cons (.tup .nil) .nil))) .nil))))))))))
  (.seq (.set 4 (.lst (.cons (.tup (.cons (.int 0) (.cons (.lst (.cons (.int 3) (.cons (.int 4) (.cons (.neg (.int 1)) (.cons (.bl true) .nil))))) .nil))) (.cons (.tup (.cons (.int 1) (.cons (.lst (.cons (.neg (.int 1)) (.cons (.int 1) (.cons (.bl true) .nil)))) .nil))) (.cons (.tup (.cons (.int 2) (.cons (.lst (.cons (.int 0) (.cons (.int 2) (.cons (.bl true) .nil)))) .nil))) (.cons (.tup (.cons (.int 4) (.cons (.lst (.cons (.int 23) (.cons (.int 24) (.cons (.neg (.int 1)) .nil)))) .nil))) .nil))))))
  (.seq (.forr (.many [5, 6]) (.it1 .seq (.bin .add (.var 4) (.lst (.cons (.tup (.cons (.int 3) (.cons (.lst (.cons (.tup .nil) (.cons (.tup (.cons (.int 6) .nil)) (.cons (.tup (.cons (.int 7) .nil)) (.cons (.tup (.cons (.int 1) (.cons (.int 0) .nil))) (.cons (.tup (.cons (.int 0) (.cons (.int 0) .nil))) (.cons (.lst (.cons (.int 0) .nil)) .nil))))))) .nil))) .nil))))
  (.new 3 (.bin .add (.brw 3) (.comp (.tup (.cons (.int 1) (.cons (.tup (.cons (.bin .add (.bin .add (.cut false true (.var 2) .non (.var 5)) (.tup (.cons (.var 7) .nil))) (.cut true false (.var 2) (.bin .add (.var 5) (.int 1)) .non)) .nil)) .nil))) (.one 7) (.it1 .seq (.var 6)) (.bl true) [7]))))
  (.seq (.forr (.one 8) (.it1 .seq (.lst (.cons (.int 0) (.cons (.int 24) (.cons (.int 25) (.cons (.neg (.int 1)) (.cons (.bl true) .nil)))))))
  (.app 3 (.tup (.cons (.int 1) (.cons (.tup (.cons (.bin .add (.bin .add (.cut false true (.var 2) .non (.int 5)) (.tup (.cons (.var 8) .nil))) (.cut true false (.var 2) (.int 6) .non)) .nil)) .nil)))))
  (.seq (.set 9 (.lst (.cons (.tup (.cons (.str "only") (.cons (.int 2) .nil))) (.cons (.tup (.cons (.str "only") (.cons (.int 3) .nil))) (.cons (.tup (.cons (.str "limit") (.cons (.int 0) .nil))) (.cons (.tup (.cons (.str "limit") (.cons (.int 24) .nil))) (.cons (.tup (.cons (.str "limit") (.cons (.int 25) .nil))) (.cons (.tup (.cons (.str "free") (.cons (.int 0) .nil))) .nil))))))))
  (.seq (.forr (.many [10, 11]) (.it1 .seq (.bin .add (.var 9) (.lst (.cons (.tup (.cons (.str "free") (.cons (.int 1) .nil))) (.cons (.tup (.cons (.str "none") (.cons (.int 1) .nil))) (.cons (.tup (.cons (.str "some") (.cons (.int 0) .nil))) .nil))))))
  (.app 3 (.tup (.cons (.int 1) (.cons (.tup (.cons (.bin .add (.cut false true (.var 2) .non (.int 6)) (.tup (.cons (.var 10) (.cons (.var 11) .nil)))) .nil)) .nil)))))
  (.seq (.app 3 (.tup (.cons (.int 1) (.cons (.b1 .tuple (.comp (.bin .add (.bin .add (.cut false true (.var 2) .non (.int 5)) (.tup (.cons (.var 8) .nil))) (.cut true false (.var 2) (.int 6) .non)) (.one 8) (.it1 .range (.int 7)) (.bl true) [8])) .nil))))
  (.seq (.app 3 (.tup (.cons (.int 1) (.cons (.b1 .tuple (.comp (.bin .add (.bin .add (.cut false true (.var 2) .non (.int 5)) (.tup (.cons (.var 8) .nil))) (.cut true false (.var 2) (.int 6) .non)) (.one 8) (.it1 .range (.int 6)) (.bl true) [8])) .nil))))
  (.seq (.forr (.one 12) (.it1 .range (.int 8))
  (.seq (.set 13 (.call "_law_street" F_l_street (.cons (.var 0) (.cons (.var 1) (.cons (.bin .add (.int 1) (.call "_law_draw" F_l_draw (.cons (.var 0) (.cons (.var 1) (.cons (.int 4) .nil))))) (.cons (.int 5) .nil))))))
  (.seq (.new 3 (.bin .add (.brw 3) (.lst (.cons (.var 13) (.cons (.call "_law_bent" F_l_bent (.cons (.var 0) (.cons (.var 1) (.cons (.var 13) .nil)))) (.cons (.tup (.cons (.bin .sub (.ix (.var 13) (.int 0)) (.int 1)) (.cons (.ix (.var 13) (.int 1)) .nil))) .nil))))))
  (.seq (.new 3 (.bin .add (.brw 3) (.lst (.cons (.tup (.cons (.ix (.var 13) (.int 0)) (.cons (.bin .mul (.ix (.var 13) (.int 1)) (.int 2)) .nil))) .nil))))
  (.app 3 (.call "_law_bent" F_l_bent (.cons (.var 0) (.cons (.var 1) (.cons (.call "_law_bent" F_l_bent (.cons (.var 0) (.cons (.var 1) (.cons (.var 13) .nil)))) .nil)))))))))
  (.ret (.cmp .eq (.comp (.var 13) (.one 13) (.it1 .seq (.brw 3)) (.cmp .ne (.call "is_street" F_is_street (.cons (.var 13) .nil)) (.call "_law_is_street" F_l_is_street (.cons (.var 13) .nil))) [13]) (.lst .nil)))))))))))))))
theorem ok_law : BodyOk 14 b_law F_law := by
  rintro _ M hl ⟨ns, rfl, hs⟩
  show (wpS b_law).run [.val (.scr ns), .unk, .unk, .unk, .unk, .unk, .unk, .unk, .unk, .unk, .unk, .unk, .unk, .unk] M _
  refine to_sn ?_
  generalize hP : ({ nx := fun _ M' => F_law.post [.scr ns] M .non M', rt := fun d M' => F_law.post [.scr ns] M d M', ex := fun k M' => F_law.exc [.scr ns] M k M' } : Post) = P
  have rt : ∀ M', P.rt (.bl true) M' := fun M' => by rw [← hP]; rfl
  unfold b_law
  refine n_mid (fun ρ M' => ∃ st, ρ = [.val (.scr ns), .val (.cell st), .unk, .unk, .unk, .unk, .unk, .unk, .unk, .unk, .unk, .unk, .unk, .unk] ∧ StOk st 0 M') ?_ ?_
  · simp
    intro st nst
    exact (show StOk st 0 _ from ⟨[], Mem.put_same _ _ _, .inl rfl, Nat.le_refl _⟩)
  rintro ρ M1 ⟨st, rfl, s1⟩
  refine n_mid (fun ρ M' => ρ = [.val (.scr ns), .val (.cell st), .val plainS, .unk, .unk, .unk, .unk, .unk, .unk, .unk, .unk, .unk, .unk, .unk] ∧ StOk st 0 M') ?_ ?_
  · simp [plainS]
    exact s1
  rintro ρ M2 ⟨rfl, s2⟩
  refine n_mid (fun ρ M' => ∃ xs, ρ = [.val (.scr ns), .val (.cell st), .val plainS, .own xs, .unk, .unk, .unk, .unk, .unk, .unk, .unk, .unk, .unk, .unk] ∧ (∀ x ∈ xs, okT x) ∧ xs.length ≤ 6 ∧ StOk st 0 M') ?_ ?_
  · simp
    exact ⟨⟨okB (by decide +kernel), okB (by decide +kernel), okB (by decide +kernel), okB (by decide +kernel), okB (by decide +kernel), okB (by decide +kernel)⟩, s2⟩
  rintro ρ M3 ⟨xs, rfl, ox, lx, s3⟩
  refine n_mid (fun ρ M' => ∃ xs, ρ = [.val (.scr ns), .val (.cell st), .val plainS, .own xs, .unk, .unk, .unk, .unk, .unk, .unk, .unk, .unk, .unk, .unk] ∧ (∀ x ∈ xs, okT x) ∧ xs.length ≤ 20 ∧ StOk st 0 M') ?_ ?_
  · simp
    refine ⟨by omega, fun x hx => ?_, by omega, s3⟩
    rcases hx with hx | rfl | rfl | rfl | rfl | rfl | rfl | rfl
    · exact ox x hx
    all_goals exact okB (by decide +kernel)
  rintro ρ M4 ⟨xs, rfl, ox, lx, s4⟩
  refine n_mid (fun ρ M' => ∃ x4, ρ = [.val (.scr ns), .val (.cell st), .val plainS, .own xs, .val (.lst x4), .unk, .unk, .unk, .unk, .unk, .unk, .unk, .unk, .unk] ∧ x4 = [.tup [.int 0, .lst [.int 3, .int 4, .int (-1), .bl true]], .tup [.int 1, .lst [.int (-1), .int 1, .bl true]], .tup [.int 2, .lst [.int 0, .int 2, .bl true]], .tup [.int 4, .lst [.int 23, .int 24, .int (-1)]]] ∧ StOk st 0 M') ?_ ?_
  · simp
    exact s4
  rintro ρ M5 ⟨x4, rfl, e4, s5⟩
  refine n_mid (fun ρ M' => ∃ xs x5 x6, ρ = [.val (.scr ns), .val (.cell st), .val plainS, .own xs, .val (.lst x4), x5, x6, .unk, .unk, .unk, .unk, .unk, .unk, .unk] ∧ (∀ x ∈ xs, okT x) ∧ xs.length ≤ 100 ∧ StOk st 0 M') ?_ ?_
  · simp [e4, -n_fNc]
    rw [← e4]
    refine n_for (fun j ρ M' => ∃ xs x5 x6, ρ = [.val (.scr ns), .val (.cell st), .val plainS, .own xs, .val (.lst x4), x5, x6, .unk, .unk, .unk, .unk, .unk, .unk, .unk] ∧ (∀ x ∈ xs, okT x) ∧ xs.length ≤ 20 + 10 * j ∧ StOk st 0 M') ⟨xs, _, _, rfl, ox, by omega, s5⟩ ?_ ?_
    · rintro j x ρ M6 hx ⟨xs, x5, x6, rfl, ox, lx, s6⟩
      have lj : j < 5 := (List.getElem?_eq_some_iff.mp hx).1
      have mx := List.mem_of_getElem? hx
      have key : ∃ (k : Nat) (os : List D), x = .tup [.int k, .lst os] ∧ k ≤ 7 ∧ os.length ≤ 6 ∧ ∀ o ∈ os, okT (.tup [.int 1, .tup [.tup (cutD [.int 0, .int 0, .int 1, .tup [.int 0], .int 8, .int 9, .str "none", .int 0] none (some (k : Int)) ++ [o] ++ cutD [.int 0, .int 0, .int 1, .tup [.int 0], .int 8, .int 9, .str "none", .int 0] (some ((k : Int) + 1)) none)]]) := by
        simp only [List.mem_cons, List.not_mem_nil, or_false] at mx
        rcases mx with rfl | rfl | rfl | rfl | rfl
        · refine ⟨0, _, rfl, by omega, by simp, fun o ho => ?_⟩
          simp only [List.mem_cons, List.not_mem_nil, or_false] at ho
          rcases ho with rfl | rfl | rfl | rfl <;> exact okB (by decide +kernel)
        · refine ⟨1, _, rfl, by omega, by simp, fun o ho => ?_⟩
          simp only [List.mem_cons, List.not_mem_nil, or_false] at ho
          rcases ho with rfl | rfl | rfl <;> exact okB (by decide +kernel)
        · refine ⟨2, _, rfl, by omega, by simp, fun o ho => ?_⟩
          simp only [List.mem_cons, List.not_mem_nil, or_false] at ho
          rcases ho with rfl | rfl | rfl <;> exact okB (by decide +kernel)
        · refine ⟨4, _, rfl, by omega, by simp, fun o ho => ?_⟩
          simp only [List.mem_cons, List.not_mem_nil, or_false] at ho
          rcases ho with rfl | rfl | rfl <;> exact okB (by decide +kernel)
        · refine ⟨3, _, rfl, by omega, by simp, fun o ho => ?_⟩
          simp only [List.mem_cons, List.not_mem_nil, or_false] at ho
          rcases ho with rfl | rfl | rfl | rfl | rfl | rfl <;> exact okB (by decide +kernel)
      obtain ⟨k, os, rfl, k7, l6, ok⟩ := key
      simp
      refine ⟨by omega, n_comp_go (fun o => some (.tup [.int 1, .tup [.tup (cutD [.int 0, .int 0, .int 1, .tup [.int 0], .int 8, .int 9, .str "none", .int 0] none (some (k : Int)) ++ [o] ++ cutD [.int 0, .int 0, .int 1, .tup [.int 0], .int 8, .int 9, .str "none", .int 0] (some ((k : Int) + 1)) none)]])) (fun o ho Q q => ?_) ?_⟩
      · have l1 := cutD_len [.int 0, .int 0, .int 1, .tup [.int 0], .int 8, .int 9, .str "none", .int 0] none (some (k : Int))
        have l2 := cutD_len [.int 0, .int 0, .int 1, .tup [.int 0], .int 8, .int 9, .str "none", .int 0] (some ((k : Int) + 1)) none
        simp only [List.length_cons, List.length_nil] at l1 l2
        simp [plainS]
        simp at q
        exact ⟨by omega, by omega, q⟩
      · rw [fm_map]
        simp
        simp at ok
        refine ⟨by omega, fun y hy => ?_, by omega, s6⟩
        rcases hy with hy | ⟨o, ho, rfl⟩
        · exact ox y hy
        · exact ok o ho
    · rintro ρ M6 ⟨xs, x5, x6, rfl, ox, lx, s6⟩
      simp at lx
      exact ⟨xs, x5, x6, rfl, ox, by omega, s6⟩
  rintro ρ M6 ⟨xs, x5, x6, rfl, ox, lx, s6⟩
  refine n_mid (fun ρ M' => ∃ xs x8, ρ = [.val (.scr ns), .val (.cell st), .val plainS, .own xs, .val (.lst x4), x5, x6, .unk, x8, .unk, .unk, .unk, .unk, .unk] ∧ (∀ x ∈ xs, okT x) ∧ xs.length ≤ 110 ∧ StOk st 0 M') ?_ ?_
  · simp [-n_fNc]
    refine n_for (fun j ρ M' => ∃ xs x8, ρ = [.val (.scr ns), .val (.cell st), .val plainS, .own xs, .val (.lst x4), x5, x6, .unk, x8, .unk, .unk, .unk, .unk, .unk] ∧ (∀ x ∈ xs, okT x) ∧ xs.length ≤ 100 + j ∧ StOk st 0 M') ⟨xs, _, rfl, ox, by omega, s6⟩ ?_ ?_
    · rintro j x ρ M7 hx ⟨xs, x8, rfl, ox, lx, s7⟩
      have lj : j < 5 := (List.getElem?_eq_some_iff.mp hx).1
      have mx := List.mem_of_getElem? hx
      simp [plainS, ct5', cd6']
      refine ⟨by omega, fun y hy => ?_, by omega, s7⟩
      rcases hy with hy | rfl
      · exact ox y hy
      · simp only [List.mem_cons, List.not_mem_nil, or_false] at mx
        rcases mx with rfl | rfl | rfl | rfl | rfl <;> exact okB (by decide +kernel)
    · rintro ρ M7 ⟨xs, x8, rfl, ox, lx, s7⟩
      simp at lx
      exact ⟨xs, x8, rfl, ox, by omega, s7⟩
  rintro ρ M7 ⟨xs, x8, rfl, ox, lx, s7⟩
  refine n_mid (fun ρ M' => ∃ x9, ρ = [.val (.scr ns), .val (.cell st), .val plainS, .own xs, .val (.lst x4), x5, x6, .unk, x8, .val (.lst x9), .unk, .unk, .unk, .unk] ∧ x9 = [.tup [.str "only", .int 2], .tup [.str "only", .int 3], .tup [.str "limit", .int 0], .tup [.str "limit", .int 24], .tup [.str "limit", .int 25], .tup [.str "free", .int 0]] ∧ StOk st 0 M') ?_ ?_
  · simp
    exact s7
  rintro ρ M8 ⟨x9, rfl, e9, s8⟩
  refine n_mid (fun ρ M' => ∃ xs x10 x11, ρ = [.val (.scr ns), .val (.cell st), .val plainS, .own xs, .val (.lst x4), x5, x6, .unk, x8, .val (.lst x9), x10, x11, .unk, .unk] ∧ (∀ x ∈ xs, okT x) ∧ xs.length ≤ 130 ∧ StOk st 0 M') ?_ ?_
  · simp [e9, -n_fNc]
    rw [← e9]
    refine n_for (fun j ρ M' => ∃ xs x10 x11, ρ = [.val (.scr ns), .val (.cell st), .val plainS, .own xs, .val (.lst x4), x5, x6, .unk, x8, .val (.lst x9), x10, x11, .unk, .unk] ∧ (∀ x ∈ xs, okT x) ∧ xs.length ≤ 110 + j ∧ StOk st 0 M') ⟨xs, _, _, rfl, ox, by omega, s8⟩ ?_ ?_
    · rintro j x ρ M9 hx ⟨xs, x10, x11, rfl, ox, lx, s9⟩
      have lj : j < 9 := (List.getElem?_eq_some_iff.mp hx).1
      have mx := List.mem_of_getElem? hx
      have key : ∃ (w : Str) (v : Int), x = .tup [.str w, .int v] ∧ okT (.tup [.int 1, .tup [.tup [.int 0, .int 0, .int 1, .tup [.int 0], .int 8, .int 9, .str w, .int v]]]) := by
        simp only [List.mem_cons, List.not_mem_nil, or_false] at mx
        rcases mx with rfl | rfl | rfl | rfl | rfl | rfl | rfl | rfl | rfl <;> exact ⟨_, _, rfl, okB (by decide +kernel)⟩
      obtain ⟨w, v, rfl, ok⟩ := key
      simp [plainS, ct6']
      refine ⟨by omega, fun y hy => ?_, by omega, s9⟩
      rcases hy with hy | rfl
      · exact ox y hy
      · exact ok
    · rintro ρ M9 ⟨xs, x10, x11, rfl, ox, lx, s9⟩
      simp at lx
      exact ⟨xs, x10, x11, rfl, ox, by omega, s9⟩
  rintro ρ M9 ⟨xs, x10, x11, rfl, ox, lx, s9⟩
  refine n_mid (fun ρ M' => ∃ xs x8, ρ = [.val (.scr ns), .val (.cell st), .val plainS, .own xs, .val (.lst x4), x5, x6, .unk, x8, .val (.lst x9), x10, x11, .unk, .unk] ∧ (∀ x ∈ xs, okT x) ∧ xs.length ≤ 131 ∧ StOk st 0 M') ?_ ?_
  · simp [range_map]
    refine n_comp_ty (fun k => some (.tup [.int 0, .int 0, .int 1, .tup [.int 0], .int 8, .int (k : Nat), .str "none", .int 0])) (fun k hk Q q => ?_) ?_
    · simp [plainS, ct5', cd6']
      exact q
    · simp
      refine ⟨by omega, fun y hy => ?_, by omega, s9⟩
      rcases hy with hy | rfl
      · exact ox y hy
      · exact okB (by decide +kernel)
  rintro ρ M10 ⟨xs, x8, rfl, ox, lx, s10⟩
  refine n_mid (fun ρ M' => ∃ xs x8, ρ = [.val (.scr ns), .val (.cell st), .val plainS, .own xs, .val (.lst x4), x5, x6, .unk, x8, .val (.lst x9), x10, x11, .unk, .unk] ∧ (∀ x ∈ xs, okT x) ∧ xs.length ≤ 132 ∧ StOk st 0 M') ?_ ?_
  · simp [range_map]
    refine n_comp_ty (fun k => some (.tup [.int 0, .int 0, .int 1, .tup [.int 0], .int 8, .int (k : Nat), .str "none", .int 0])) (fun k hk Q q => ?_) ?_
    · simp [plainS, ct5', cd6']
      exact q
    · simp
      refine ⟨by omega, fun y hy => ?_, by omega, s10⟩
      rcases hy with hy | rfl
      · exact ox y hy
      · exact okB (by decide +kernel)
  rintro ρ M11 ⟨xs, x8, rfl, ox, lx, s11⟩
  refine n_mid (fun ρ M' => ∃ xs x12 x13, ρ = [.val (.scr ns), .val (.cell st), .val plainS, .own xs, .val (.lst x4), x5, x6, .unk, x8, .val (.lst x9), x10, x11, x12, x13] ∧ (∀ x ∈ xs, okT x) ∧ xs.length ≤ 1000) ?_ ?_
  · simp [-n_fNc]
    refine n_for (fun j ρ M' => ∃ xs x12 x13, ρ = [.val (.scr ns), .val (.cell st), .val plainS, .own xs, .val (.lst x4), x5, x6, .unk, x8, .val (.lst x9), x10, x11, x12, x13] ∧ (∀ x ∈ xs, okT x) ∧ xs.length ≤ 132 + 5 * j ∧ StOk st (400 * j) M') ⟨xs, _, _, rfl, ox, by omega, s11⟩ ?_ ?_
    · rintro j x ρ M12 hx ⟨xs, x12, x13, rfl, ox, lx, s12⟩
      obtain ⟨rfl, lt⟩ := range_get hx
      have lt : j < 8 := by omega
      simp
      refine n_draw hs (by omega) s12 (by omega) fun v M13 v0 v1 s13 e13 => ?_
      simp
      refine n_street hs (by omega) (by omega) s13 (by omega) fun t M14 o ep el er s14 _ => ?_
      have tm := tm_strt o
      simp
      refine n_bntN hs ⟨8, 100, 5, by omega, by omega, by omega, by omega, by omega, tm⟩ s14 (by omega) fun r1 M15 rb1 s15 _ => ?_
      have tm1 := rb1 8 100 5 (by omega) (by omega) (by omega) (by omega) (by omega) tm
      have few : t.sgns.length ≤ 6 := o.few
      have sd : ∀ s ∈ t.sgns, s.days.length ≤ 60 := fun s h => Nat.le_trans (Sgn.ok_is (o.all s h)).dl (by omega)
      have o1 : okT t.d := okT_tm (by omega) tm
      have o2 : okT r1 := okT_tm (by omega) tm1
      have o3 : okT (.tup [.int (t.places - 1), .tup (t.sgns.map Sgn.d)]) := okT_sgns sd
      have o4 : okT (.tup [.int t.places, .tup (t.sgns.map Sgn.d ++ t.sgns.map Sgn.d)]) := by
        rw [← List.map_append]
        exact okT_sgns fun s h => sd s ((List.mem_append.mp h).elim id id)
      simp
      refine ⟨by omega, by omega, by omega, ?_⟩
      refine n_bntN hs ⟨8, 100, 5, by omega, by omega, by omega, by omega, by omega, tm⟩ s15 (by omega) fun r2 M16 rb2 s16 _ => ?_
      have tm2 := rb2 8 100 5 (by omega) (by omega) (by omega) (by omega) (by omega) tm
      refine n_bntN hs ⟨9, 101, 7, by omega, by omega, by omega, by omega, by omega, tm2⟩ s16 (by omega) fun r3 M17 rb3 s17 _ => ?_
      have o5 : okT r3 := okT_tm (by omega) (rb3 9 101 7 (by omega) (by omega) (by omega) (by omega) (by omega) tm2)
      simp
      refine ⟨by omega, fun y hy => ?_, by omega, s17.mono (by omega)⟩
      rcases hy with hy | rfl | rfl | rfl | rfl | rfl
      · exact ox y hy
      · exact o1
      · exact o2
      · exact o3
      · exact o4
      · exact o5
    · rintro ρ M12 ⟨xs, x12, x13, rfl, ox, lx, s12⟩
      rw [range_len] at lx
      exact ⟨xs, x12, x13, rfl, ox, by omega⟩
  rintro ρ M12 ⟨xs, x12, x13, rfl, ox, lx⟩
  simp
  refine ⟨by omega, n_comp_st (fun j acc M' => acc = []) rfl (fun j x acc M13 hx ea => ?_) fun acc M13 ea => ?_⟩
  · have mx := List.mem_of_getElem? hx
    obtain ⟨px, sx⟩ := ox x mx
    simp [n_call_is_street px]
    refine n_isstreet px sx fun M14 g14 => ?_
    simp [ea]
  · subst ea
    simp
    exact rt _
end PL
set_option Elab.async false
set_option linter.all false
set_option maxRecDepth 100000
namespace PL
open PySem L2 PyProof.Rows PySem.Spec
/-! ## the texts by their places -/
def top (i : Nat) : Stmt := PySem.Challenge.pw_kerbsigns_k01_streets_recognized.main.body.getD i (.Pass ⟨0, 0, 0, 0⟩)
def N_l_draw : List Str := ["_law_script", "_law_state", "_law_many", "_law_cell", "_law_k", "_law_digits", "_law_number", "_law_more"]
theorem c_l_draw : chkS N_l_draw (defScope (top 7)) (fun _ => true) b_l_draw (defBody (top 7)) = true := by decide +kernel
theorem s_l_draw : FnScope N_l_draw ["_law_script", "_law_state", "_law_many"] (defScope (top 7)) := ⟨rfl, rfl, rfl, by decide +kernel, rfl, by decide +kernel, by decide +kernel⟩
def N_l_pick : List Str := ["_law_script", "_law_state", "_law_some"]
theorem c_l_pick : chkS N_l_pick (defScope (top 8)) (fun _ => true) b_l_pick (defBody (top 8)) = true := by decide +kernel
theorem s_l_pick : FnScope N_l_pick ["_law_script", "_law_state", "_law_some"] (defScope (top 8)) := ⟨rfl, rfl, rfl, by decide +kernel, rfl, by decide +kernel, by decide +kernel⟩
def N_l_sign : List Str := ["_law_script", "_law_state", "_law_places", "_law_start", "_law_end", "_law_days", "_law_day", "_law_word", "_law_value", "_law_first", "_law_last"]
theorem c_l_sign : chkS N_l_sign (defScope (top 10)) (fun _ => true) b_l_sign (defBody (top 10)) = true := by decide +kernel
theorem s_l_sign : FnScope N_l_sign ["_law_script", "_law_state", "_law_places"] (defScope (top 10)) := ⟨rfl, rfl, rfl, by decide +kernel, rfl, by decide +kernel, by decide +kernel⟩
def N_l_street : List Str := ["_law_script", "_law_state", "_law_places", "_law_most", "_law_signs", "_law_step", "_law_sign_here"]
theorem c_l_street : chkS N_l_street (defScope (top 11)) (fun _ => true) b_l_street (defBody (top 11)) = true := by decide +kernel
theorem s_l_street : FnScope N_l_street ["_law_script", "_law_state", "_law_places", "_law_most"] (defScope (top 11)) := ⟨rfl, rfl, rfl, by decide +kernel, rfl, by decide +kernel, by decide +kernel⟩
def N_l_bent : List Str := ["_law_script", "_law_state", "_law_thing", "_law_some", "_law_at"]
theorem c_l_bent_1 : chkS N_l_bent (defScope (top 9)) (fun _ => true) (b_l_bentN (F_bntN 0)) (defBody (top 9)) = true := by decide +kernel
theorem c_l_bent_2 : chkS N_l_bent (defScope (top 9)) (fun _ => true) (b_l_bentN (F_bntN 1)) (defBody (top 9)) = true := by decide +kernel
theorem c_l_bent_3 : chkS N_l_bent (defScope (top 9)) (fun _ => true) (b_l_bentN (F_bntN 2)) (defBody (top 9)) = true := by decide +kernel
theorem c_l_bent_4 : chkS N_l_bent (defScope (top 9)) (fun _ => true) (b_l_bentN (F_bntN 3)) (defBody (top 9)) = true := by decide +kernel
theorem c_l_bent_5 : chkS N_l_bent (defScope (top 9)) (fun _ => true) (b_l_bentN (F_bntN 4)) (defBody (top 9)) = true := by decide +kernel
theorem c_l_bent_6 : chkS N_l_bent (defScope (top 9)) (fun _ => true) (b_l_bentN (F_bntN 5)) (defBody (top 9)) = true := by decide +kernel
theorem c_l_bent_7 : chkS N_l_bent (defScope (top 9)) (fun _ => true) (b_l_bentN (F_bntN 6)) (defBody (top 9)) = true := by decide +kernel
theorem s_l_bent : FnScope N_l_bent ["_law_script", "_law_state", "_law_thing"] (defScope (top 9)) := ⟨rfl, rfl, rfl, by decide +kernel, rfl, by decide +kernel, by decide +kernel⟩
def N_is_integer : List Str := ["candidate", "least", "most"]
theorem c_is_integer : chkS N_is_integer (defScope (top 1)) (fun _ => true) b_is_integer (defBody (top 1)) = true := by decide +kernel
theorem s_is_integer : FnScope N_is_integer ["candidate", "least", "most"] (defScope (top 1)) := ⟨rfl, rfl, rfl, by decide +kernel, rfl, by decide +kernel, by decide +kernel⟩
def N_are_days : List Str := ["candidate", "one", "other"]
theorem c_are_days : chkS N_are_days (defScope (top 3)) (fun _ => true) b_are_days (defBody (top 3)) = true := by decide +kernel
theorem s_are_days : FnScope N_are_days ["candidate"] (defScope (top 3)) := ⟨rfl, rfl, rfl, by decide +kernel, rfl, by decide +kernel, by decide +kernel⟩
def N_is_word : List Str := ["word", "value"]
theorem c_is_word : chkS N_is_word (defScope (top 2)) (fun _ => true) b_is_word (defBody (top 2)) = true := by decide +kernel
theorem s_is_word : FnScope N_is_word ["word", "value"] (defScope (top 2)) := ⟨rfl, rfl, rfl, by decide +kernel, rfl, by decide +kernel, by decide +kernel⟩
def N_is_sign : List Str := ["places", "candidate", "rank", "start", "end", "days", "first", "last", "word", "value"]
theorem c_is_sign : chkS N_is_sign (defScope (top 4)) (fun _ => true) b_is_sign (defBody (top 4)) = true := by decide +kernel
theorem s_is_sign : FnScope N_is_sign ["places", "candidate"] (defScope (top 4)) := ⟨rfl, rfl, rfl, by decide +kernel, rfl, by decide +kernel, by decide +kernel⟩
def N_is_street : List Str := ["candidate", "places", "signs", "one"]
theorem c_is_street : chkS N_is_street (defScope (top 5)) (fun _ => true) b_is_street (defBody (top 5)) = true := by decide +kernel
theorem s_is_street : FnScope N_is_street ["candidate"] (defScope (top 5)) := ⟨rfl, rfl, rfl, by decide +kernel, rfl, by decide +kernel, by decide +kernel⟩
def N_l_is_number : List Str := ["_law_thing", "_law_low", "_law_high"]
theorem c_l_is_number : chkS N_l_is_number (defScope (top 12)) (fun _ => true) b_l_is_number (defBody (top 12)) = true := by decide +kernel
theorem s_l_is_number : FnScope N_l_is_number ["_law_thing", "_law_low", "_law_high"] (defScope (top 12)) := ⟨rfl, rfl, rfl, by decide +kernel, rfl, by decide +kernel, by decide +kernel⟩
def N_l_is_sign : List Str := ["_law_places", "_law_thing", "_law_one", "_law_bounds"]
theorem c_l_is_sign : chkS N_l_is_sign (defScope (top 13)) (fun _ => true) b_l_is_sign (defBody (top 13)) = true := by decide +kernel
theorem s_l_is_sign : FnScope N_l_is_sign ["_law_places", "_law_thing"] (defScope (top 13)) := ⟨rfl, rfl, rfl, by decide +kernel, rfl, by decide +kernel, by decide +kernel⟩
def N_l_is_street : List Str := ["_law_thing", "_law_one", "_law_spot"]
theorem c_l_is_street : chkS N_l_is_street (defScope (top 14)) (fun _ => true) b_l_is_street (defBody (top 14)) = true := by decide +kernel
theorem s_l_is_street : FnScope N_l_is_street ["_law_thing"] (defScope (top 14)) := ⟨rfl, rfl, rfl, by decide +kernel, rfl, by decide +kernel, by decide +kernel⟩
def N_law : List Str := ["_law_script", "_law_state", "_law_plain", "_law_things", "_law_changes", "_law_spot", "_law_some", "_law_one", "_law_last", "_law_words", "_law_word", "_law_value", "_law_k", "_law_thing"]
theorem c_law : chkS N_law (defScope (top 15)) (fun _ => true) b_law (defBody (top 15)) = true := by decide +kernel
theorem s_law : FnScope N_law ["_law_script"] (defScope (top 15)) := ⟨rfl, rfl, rfl, by decide +kernel, rfl, by decide +kernel, by decide +kernel⟩
abbrev EXK (K : PySem.W.Frag) : Nat → Addr := fun k => He.ga K (exName k)
def exs : List Nat := []
theorem exs_ok {K : PySem.W.Frag} {h : Heap} {mg : Str → Option Value} (X : K.In h) (G : h.Ns mainGlobals mg) (c : (exs.all fun k => (He.Fa.glo (exName k)).ok K && (He.Fa.exc (exName k)).ok K) = true) : ∀ k ∈ exs, ExOk (EXK K) K mg k := fun k hk => by
  obtain ⟨c1, c2⟩ := He.ba (List.all_eq_true.mp c k hk)
  obtain ⟨q1, q2, q3, q4⟩ := He.exc_ok c2
  exact ⟨He.glo_ok X G c1, q1, q2, q3, q4⟩
theorem exs_match {K : PySem.W.Frag} (c : (exs.all fun k => exs.all fun j => (He.Fa.exm (exName k) (exName j) (decide (k = j))).ok K) = true) : ∀ k ∈ exs, ∀ j ∈ exs, MatchOk (EXK K) K k j := fun k hk j hj => He.exm_ok (List.all_eq_true.mp (List.all_eq_true.mp c k hk) j hj)
structure Tops (K : PySem.W.Frag) (mg : Str → Option Value) : Prop where
  nm : ∀ x ∈ bnames, mg x = none
  xx : ∀ k ∈ exs, ExOk (EXK K) K mg k
  mm : ∀ k ∈ exs, ∀ j ∈ exs, MatchOk (EXK K) K k j
  t_l_draw : TopDef K mg "_law_draw" (top 7)
  t_l_pick : TopDef K mg "_law_pick" (top 8)
  t_l_sign : TopDef K mg "_law_sign" (top 10)
  t_l_street : TopDef K mg "_law_street" (top 11)
  t_l_bent : TopDef K mg "_law_bent" (top 9)
  t_is_integer : TopDef K mg "is_integer" (top 1)
  t_are_days : TopDef K mg "are_days" (top 3)
  t_is_word : TopDef K mg "is_word" (top 2)
  t_is_sign : TopDef K mg "is_sign" (top 4)
  t_is_street : TopDef K mg "is_street" (top 5)
  t_l_is_number : TopDef K mg "_law_is_number" (top 12)
  t_l_is_sign : TopDef K mg "_law_is_sign" (top 13)
  t_l_is_street : TopDef K mg "_law_is_street" (top 14)
  t_law : TopDef K mg "law" (top 15)
section
variable {P : Program} {w : World} {K : PySem.W.Frag} {mg : Str → Option Value} {base : Heap}
theorem hs_ok (T : Tops K mg) {hs : List (Nat × Str)} (h : ((hs.map (·.1)).all fun k => exs.contains k) = true) : ∀ k ∈ hs.map (·.1), ExOk (EXK K) K mg k ∧ ∀ j ∈ hs.map (·.1), MatchOk (EXK K) K k j := fun k hk =>
  have m : ∀ k ∈ hs.map (·.1), k ∈ exs := fun k hk => by simpa using List.all_eq_true.mp h k hk
  ⟨T.xx k (m k hk), fun j hj => T.mm k (m k hk) j (m j hj)⟩
theorem d_l_draw (T : Tops K mg) : FDef (EXK K) P w K mg base "_law_draw" F_l_draw 1 := by
  refine fdef_of (k := 0) T.t_l_draw s_l_draw rfl T.nm (fun Fu => Fu.binds (ps := ["_law_script", "_law_state", "_law_many"]) fun _ _ _ _ _ _ us hl => match us, hl with | [_, _, _], _ => rfl) (fun A hr => ?_) c_l_draw ok_l_draw
  exact cS_of (l := []) (by kernel_rfl) trivial
theorem d_l_pick (T : Tops K mg) : FDef (EXK K) P w K mg base "_law_pick" F_l_pick 2 := by
  refine fdef_of (k := 1) T.t_l_pick s_l_pick rfl T.nm (fun Fu => Fu.binds (ps := ["_law_script", "_law_state", "_law_some"]) fun _ _ _ _ _ _ us hl => match us, hl with | [_, _, _], _ => rfl) (fun A hr => ?_) c_l_pick ok_l_pick
  have h_l_draw := (d_l_draw (P := P) (w := w) (base := base) T).call hr (show 1 ≤ 1 by decide)
  exact cS_of (l := [_]) (by kernel_rfl) ⟨h_l_draw, trivial⟩
theorem d_l_sign (T : Tops K mg) : FDef (EXK K) P w K mg base "_law_sign" F_l_sign 3 := by
  refine fdef_of (k := 2) T.t_l_sign s_l_sign rfl T.nm (fun Fu => Fu.binds (ps := ["_law_script", "_law_state", "_law_places"]) fun _ _ _ _ _ _ us hl => match us, hl with | [_, _, _], _ => rfl) (fun A hr => ?_) c_l_sign ok_l_sign
  have h_l_draw := (d_l_draw (P := P) (w := w) (base := base) T).call hr (show 1 ≤ 2 by decide)
  have h_l_pick := (d_l_pick (P := P) (w := w) (base := base) T).call hr (show 2 ≤ 2 by decide)
  exact cS_of (l := [_, _, _, _, _, _, _, _, _, _]) (by kernel_rfl) ⟨h_l_draw, h_l_draw, h_l_draw, h_l_draw, h_l_pick, h_l_draw, h_l_draw, h_l_draw, h_l_draw, h_l_draw, trivial⟩
theorem d_l_street (T : Tops K mg) : FDef (EXK K) P w K mg base "_law_street" F_l_street 4 := by
  refine fdef_of (k := 3) T.t_l_street s_l_street rfl T.nm (fun Fu => Fu.binds (ps := ["_law_script", "_law_state", "_law_places", "_law_most"]) fun _ _ _ _ _ _ us hl => match us, hl with | [_, _, _, _], _ => rfl) (fun A hr => ?_) c_l_street ok_l_street
  have h_l_draw := (d_l_draw (P := P) (w := w) (base := base) T).call hr (show 1 ≤ 3 by decide)
  have h_l_sign := (d_l_sign (P := P) (w := w) (base := base) T).call hr (show 3 ≤ 3 by decide)
  exact cS_of (l := [_, _]) (by kernel_rfl) ⟨h_l_draw, h_l_sign, trivial⟩
theorem d_l_bent_0 (T : Tops K mg) : FDef (EXK K) P w K mg base "_law_bent" (F_bntN 0) 3 := by
  exact fdef_of (k := 2) T.t_l_bent s_l_bent rfl T.nm (fun Fu => Fu.binds (ps := ["_law_script", "_law_state", "_law_thing"]) fun _ _ _ _ _ _ us hl => match us, hl with | [_, _, _], _ => rfl) (fun A hr => trivial) (p := .never) rfl F_bntN0
theorem d_l_bent_1 (T : Tops K mg) : FDef (EXK K) P w K mg base "_law_bent" (F_bntN 1) 4 := by
  refine fdef_of (k := 3) T.t_l_bent s_l_bent rfl T.nm (fun Fu => Fu.binds (ps := ["_law_script", "_law_state", "_law_thing"]) fun _ _ _ _ _ _ us hl => match us, hl with | [_, _, _], _ => rfl) (fun A hr => ?_) c_l_bent_1 (ok_bntN 0)
  have h_l_draw := (d_l_draw (P := P) (w := w) (base := base) T).call hr (show 1 ≤ 3 by decide)
  have h_l_pick := (d_l_pick (P := P) (w := w) (base := base) T).call hr (show 2 ≤ 3 by decide)
  have h_l_bent := (d_l_bent_0 (P := P) (w := w) (base := base) T).call hr (show 3 ≤ 3 by decide)
  exact cS_of (l := [_, _, _, _]) (by kernel_rfl) ⟨h_l_draw, h_l_pick, h_l_draw, h_l_bent, trivial⟩
theorem d_l_bent_2 (T : Tops K mg) : FDef (EXK K) P w K mg base "_law_bent" (F_bntN 2) 5 := by
  refine fdef_of (k := 4) T.t_l_bent s_l_bent rfl T.nm (fun Fu => Fu.binds (ps := ["_law_script", "_law_state", "_law_thing"]) fun _ _ _ _ _ _ us hl => match us, hl with | [_, _, _], _ => rfl) (fun A hr => ?_) c_l_bent_2 (ok_bntN 1)
  have h_l_draw := (d_l_draw (P := P) (w := w) (base := base) T).call hr (show 1 ≤ 4 by decide)
  have h_l_pick := (d_l_pick (P := P) (w := w) (base := base) T).call hr (show 2 ≤ 4 by decide)
  have h_l_bent := (d_l_bent_1 (P := P) (w := w) (base := base) T).call hr (show 4 ≤ 4 by decide)
  exact cS_of (l := [_, _, _, _]) (by kernel_rfl) ⟨h_l_draw, h_l_pick, h_l_draw, h_l_bent, trivial⟩
theorem d_l_bent_3 (T : Tops K mg) : FDef (EXK K) P w K mg base "_law_bent" (F_bntN 3) 6 := by
  refine fdef_of (k := 5) T.t_l_bent s_l_bent rfl T.nm (fun Fu => Fu.binds (ps := ["_law_script", "_law_state", "_law_thing"]) fun _ _ _ _ _ _ us hl => match us, hl with | [_, _, _], _ => rfl) (fun A hr => ?_) c_l_bent_3 (ok_bntN 2)
  have h_l_draw := (d_l_draw (P := P) (w := w) (base := base) T).call hr (show 1 ≤ 5 by decide)
  have h_l_pick := (d_l_pick (P := P) (w := w) (base := base) T).call hr (show 2 ≤ 5 by decide)
  have h_l_bent := (d_l_bent_2 (P := P) (w := w) (base := base) T).call hr (show 5 ≤ 5 by decide)
  exact cS_of (l := [_, _, _, _]) (by kernel_rfl) ⟨h_l_draw, h_l_pick, h_l_draw, h_l_bent, trivial⟩
theorem d_l_bent_4 (T : Tops K mg) : FDef (EXK K) P w K mg base "_law_bent" (F_bntN 4) 7 := by
  refine fdef_of (k := 6) T.t_l_bent s_l_bent rfl T.nm (fun Fu => Fu.binds (ps := ["_law_script", "_law_state", "_law_thing"]) fun _ _ _ _ _ _ us hl => match us, hl with | [_, _, _], _ => rfl) (fun A hr => ?_) c_l_bent_4 (ok_bntN 3)
  have h_l_draw := (d_l_draw (P := P) (w := w) (base := base) T).call hr (show 1 ≤ 6 by decide)
  have h_l_pick := (d_l_pick (P := P) (w := w) (base := base) T).call hr (show 2 ≤ 6 by decide)
  have h_l_bent := (d_l_bent_3 (P := P) (w := w) (base := base) T).call hr (show 6 ≤ 6 by decide)
  exact cS_of (l := [_, _, _, _]) (by kernel_rfl) ⟨h_l_draw, h_l_pick, h_l_draw, h_l_bent, trivial⟩
theorem d_l_bent_5 (T : Tops K mg) : FDef (EXK K) P w K mg base "_law_bent" (F_bntN 5) 8 := by
  refine fdef_of (k := 7) T.t_l_bent s_l_bent rfl T.nm (fun Fu => Fu.binds (ps := ["_law_script", "_law_state", "_law_thing"]) fun _ _ _ _ _ _ us hl => match us, hl with | [_, _, _], _ => rfl) (fun A hr => ?_) c_l_bent_5 (ok_bntN 4)
  have h_l_draw := (d_l_draw (P := P) (w := w) (base := base) T).call hr (show 1 ≤ 7 by decide)
  have h_l_pick := (d_l_pick (P := P) (w := w) (base := base) T).call hr (show 2 ≤ 7 by decide)
  have h_l_bent := (d_l_bent_4 (P := P) (w := w) (base := base) T).call hr (show 7 ≤ 7 by decide)
  exact cS_of (l := [_, _, _, _]) (by kernel_rfl) ⟨h_l_draw, h_l_pick, h_l_draw, h_l_bent, trivial⟩
theorem d_l_bent_6 (T : Tops K mg) : FDef (EXK K) P w K mg base "_law_bent" (F_bntN 6) 9 := by
  refine fdef_of (k := 8) T.t_l_bent s_l_bent rfl T.nm (fun Fu => Fu.binds (ps := ["_law_script", "_law_state", "_law_thing"]) fun _ _ _ _ _ _ us hl => match us, hl with | [_, _, _], _ => rfl) (fun A hr => ?_) c_l_bent_6 (ok_bntN 5)
  have h_l_draw := (d_l_draw (P := P) (w := w) (base := base) T).call hr (show 1 ≤ 8 by decide)
  have h_l_pick := (d_l_pick (P := P) (w := w) (base := base) T).call hr (show 2 ≤ 8 by decide)
  have h_l_bent := (d_l_bent_5 (P := P) (w := w) (base := base) T).call hr (show 8 ≤ 8 by decide)
  exact cS_of (l := [_, _, _, _]) (by kernel_rfl) ⟨h_l_draw, h_l_pick, h_l_draw, h_l_bent, trivial⟩
theorem d_l_bent (T : Tops K mg) : FDef (EXK K) P w K mg base "_law_bent" (F_bntN 7) 10 := by
  refine fdef_of (k := 9) T.t_l_bent s_l_bent rfl T.nm (fun Fu => Fu.binds (ps := ["_law_script", "_law_state", "_law_thing"]) fun _ _ _ _ _ _ us hl => match us, hl with | [_, _, _], _ => rfl) (fun A hr => ?_) c_l_bent_7 (ok_bntN 6)
  have h_l_draw := (d_l_draw (P := P) (w := w) (base := base) T).call hr (show 1 ≤ 9 by decide)
  have h_l_pick := (d_l_pick (P := P) (w := w) (base := base) T).call hr (show 2 ≤ 9 by decide)
  have h_l_bent := (d_l_bent_6 (P := P) (w := w) (base := base) T).call hr (show 9 ≤ 9 by decide)
  exact cS_of (l := [_, _, _, _]) (by kernel_rfl) ⟨h_l_draw, h_l_pick, h_l_draw, h_l_bent, trivial⟩
theorem d_is_integer (T : Tops K mg) : FDef (EXK K) P w K mg base "is_integer" F_is_integer 1 := by
  refine fdef_of (k := 0) T.t_is_integer s_is_integer rfl T.nm (fun Fu => Fu.binds (ps := ["candidate", "least", "most"]) fun _ _ _ _ _ _ us hl => match us, hl with | [_, _, _], _ => rfl) (fun A hr => ?_) c_is_integer ok_is_integer
  exact cS_of (l := []) (by kernel_rfl) trivial
theorem d_are_days (T : Tops K mg) : FDef (EXK K) P w K mg base "are_days" F_are_days 2 := by
  refine fdef_of (k := 1) T.t_are_days s_are_days rfl T.nm (fun Fu => Fu.binds (ps := ["candidate"]) fun _ _ _ _ _ _ us hl => match us, hl with | [_], _ => rfl) (fun A hr => ?_) c_are_days ok_are_days
  have h_is_integer := (d_is_integer (P := P) (w := w) (base := base) T).call hr (show 1 ≤ 1 by decide)
  exact cS_of (l := [_]) (by kernel_rfl) ⟨h_is_integer, trivial⟩
theorem d_is_word (T : Tops K mg) : FDef (EXK K) P w K mg base "is_word" F_is_word 2 := by
  refine fdef_of (k := 1) T.t_is_word s_is_word rfl T.nm (fun Fu => Fu.binds (ps := ["word", "value"]) fun _ _ _ _ _ _ us hl => match us, hl with | [_, _], _ => rfl) (fun A hr => ?_) c_is_word ok_is_word
  have h_is_integer := (d_is_integer (P := P) (w := w) (base := base) T).call hr (show 1 ≤ 1 by decide)
  exact cS_of (l := [_, _, _]) (by kernel_rfl) ⟨h_is_integer, h_is_integer, h_is_integer, trivial⟩
theorem d_is_sign (T : Tops K mg) : FDef (EXK K) P w K mg base "is_sign" F_is_sign 3 := by
  refine fdef_of (k := 2) T.t_is_sign s_is_sign rfl T.nm (fun Fu => Fu.binds (ps := ["places", "candidate"]) fun _ _ _ _ _ _ us hl => match us, hl with | [_, _], _ => rfl) (fun A hr => ?_) c_is_sign ok_is_sign
  have h_is_integer := (d_is_integer (P := P) (w := w) (base := base) T).call hr (show 1 ≤ 2 by decide)
  have h_are_days := (d_are_days (P := P) (w := w) (base := base) T).call hr (show 2 ≤ 2 by decide)
  have h_is_word := (d_is_word (P := P) (w := w) (base := base) T).call hr (show 2 ≤ 2 by decide)
  exact cS_of (l := [_, _, _, _, _, _, _]) (by kernel_rfl) ⟨h_is_integer, h_is_integer, h_is_integer, h_are_days, h_is_integer, h_is_integer, h_is_word, trivial⟩
theorem d_is_street (T : Tops K mg) : FDef (EXK K) P w K mg base "is_street" F_is_street 4 := by
  refine fdef_of (k := 3) T.t_is_street s_is_street rfl T.nm (fun Fu => Fu.binds (ps := ["candidate"]) fun _ _ _ _ _ _ us hl => match us, hl with | [_], _ => rfl) (fun A hr => ?_) c_is_street ok_is_street
  have h_is_integer := (d_is_integer (P := P) (w := w) (base := base) T).call hr (show 1 ≤ 3 by decide)
  have h_is_sign := (d_is_sign (P := P) (w := w) (base := base) T).call hr (show 3 ≤ 3 by decide)
  exact cS_of (l := [_, _]) (by kernel_rfl) ⟨h_is_integer, h_is_sign, trivial⟩
theorem d_l_is_number (T : Tops K mg) : FDef (EXK K) P w K mg base "_law_is_number" F_l_is_number 1 := by
  refine fdef_of (k := 0) T.t_l_is_number s_l_is_number rfl T.nm (fun Fu => Fu.binds (ps := ["_law_thing", "_law_low", "_law_high"]) fun _ _ _ _ _ _ us hl => match us, hl with | [_, _, _], _ => rfl) (fun A hr => ?_) c_l_is_number ok_l_is_number
  exact cS_of (l := []) (by kernel_rfl) trivial
theorem d_l_is_sign (T : Tops K mg) : FDef (EXK K) P w K mg base "_law_is_sign" F_l_is_sign 2 := by
  refine fdef_of (k := 1) T.t_l_is_sign s_l_is_sign rfl T.nm (fun Fu => Fu.binds (ps := ["_law_places", "_law_thing"]) fun _ _ _ _ _ _ us hl => match us, hl with | [_, _], _ => rfl) (fun A hr => ?_) c_l_is_sign ok_l_is_sign
  have h_l_is_number := (d_l_is_number (P := P) (w := w) (base := base) T).call hr (show 1 ≤ 1 by decide)
  exact cS_of (l := [_, _, _, _, _, _, _, _, _, _, _]) (by kernel_rfl) ⟨h_l_is_number, h_l_is_number, h_l_is_number, h_l_is_number, h_l_is_number, h_l_is_number, (ob_dlit : ObOk (EXK K) P w K mg base A (.dlit [("none", 0, 0), ("free", 0, 0), ("only", 0, 2), ("limit", 1, 24)])), (ob_dnin : ObOk (EXK K) P w K mg base A .dnin), h_l_is_number, (ob_dget : ObOk (EXK K) P w K mg base A .dget), (ob_dget : ObOk (EXK K) P w K mg base A .dget), trivial⟩
theorem d_l_is_street (T : Tops K mg) : FDef (EXK K) P w K mg base "_law_is_street" F_l_is_street 3 := by
  refine fdef_of (k := 2) T.t_l_is_street s_l_is_street rfl T.nm (fun Fu => Fu.binds (ps := ["_law_thing"]) fun _ _ _ _ _ _ us hl => match us, hl with | [_], _ => rfl) (fun A hr => ?_) c_l_is_street ok_l_is_street
  have h_l_is_number := (d_l_is_number (P := P) (w := w) (base := base) T).call hr (show 1 ≤ 2 by decide)
  have h_l_is_sign := (d_l_is_sign (P := P) (w := w) (base := base) T).call hr (show 2 ≤ 2 by decide)
  exact cS_of (l := [_, _]) (by kernel_rfl) ⟨h_l_is_number, h_l_is_sign, trivial⟩
theorem law_mk {h : Heap} {fa : Addr} (hfa : mg "law" = some (.ref fa)) (T : Tops K mg) : ∃ fd : FuncData, (∀ (s : Shared) (v : Value), BindsTo s fd ⟨[v], []⟩ [("_law_script", v)]) ∧ ∀ base : Heap, K.In base → base.Ns mainGlobals mg → FnOk P w K mg base (L2.CX P w) 11 fa fd ["_law_script"] (spF (EXK K) K F_law) := by
  obtain ⟨f, fd, Fu, hm⟩ := T.t_law
  have e := hfa.symm.trans hm
  cases e
  have Fu2 := Fu
  obtain ⟨oc, od, kV, doc, pm, an, cdv, ct, osl, rfl, lk, hcd⟩ := Fu2.ex
  refine ⟨PySem.W.fnOf "law" "law" (defArgs (top 15)) (defBody (top 15)) (defScope (top 15)) .none kV doc pm an cdv ct, fun s v => .of_eq rfl, fun base _ _ => ?_⟩
  refine fnok_of (k := 10) Fu s_law rfl T.nm (fun A hr => ?_) c_law ok_law
  have h_l_street := (d_l_street (P := P) (w := w) (base := base) T).call hr (show 4 ≤ 10 by decide)
  have h_l_draw := (d_l_draw (P := P) (w := w) (base := base) T).call hr (show 1 ≤ 10 by decide)
  have h_l_bent := (d_l_bent (P := P) (w := w) (base := base) T).call hr (show 10 ≤ 10 by decide)
  have h_is_street := (d_is_street (P := P) (w := w) (base := base) T).call hr (show 4 ≤ 10 by decide)
  have h_l_is_street := (d_l_is_street (P := P) (w := w) (base := base) T).call hr (show 3 ≤ 10 by decide)
  exact cS_of (l := [_, _, _, _, _, _, _]) (by kernel_rfl) ⟨h_l_street, h_l_draw, h_l_bent, h_l_bent, h_l_bent, h_is_street, h_l_is_street, trivial⟩
end
theorem law_walk {l : PySem.W.OpenLaw} {q : Program} {loose : List Str} {XP : (Str → Option Value) → Heap → Prop} {YP : World → Heap → Prop} {d : DefRec} {K : Params → PySem.W.Frag} (hn : l.most = some 63) (hdf : d.params.defaults = []) (hY : ∀ (w : World) (h : Heap), YP w h → (K w.params).In h)
    (hF : ∀ (w : World) (mg : Str → Option Value) (fa : Addr) (h : Heap), (K w.params).In h → h.Ns mainGlobals mg → mg d.name = some (.ref fa) → mg "law" = some (.ref fa) ∧ Tops (K w.params) mg) : PySem.W.WalkO q loose XP YP l.row.toRowW d [] (fun f vs => PySem.call f vs) := by
  refine L2.walk_of (n := 63) (k := 11) (x := "_law_script") (CX := fun w => L2.CX l.prog w) (sp := fun w => spF (EXK (K w.params)) (K w.params) F_law) hn (by decide) hdf ⟨rfl, by decide, by decide⟩ hY (fun w mg fa h kx g hm => ?_) (fun w H a ns hl _ hS => ?_) fun w H s e s' z => ?_
  · obtain ⟨h1, T⟩ := hF w mg fa h kx g hm
    exact law_mk (h := h) h1 T
  · refine ⟨[.scr ns], fun _ => none, H, ⟨Same.refl _, fun a c e => nomatch e⟩, .cons (.scr hS) .nil, rfl, ⟨ns, rfl, hl⟩, fun d M' e v G' H' _ r => ?_, fun _ _ z => False.elim z⟩
    cases (show d = .bl true from e)
    cases r
    rfl
  · obtain ⟨_, _, _, _, _, _, _, _, _, _, _, _, z⟩ := z
    exact z
end PL
open PySem PySem.W PyProof.Rows
set_option maxRecDepth 100000 in
set_option maxHeartbeats 0 in
theorem PySem.Challenge.cw_kerbsigns_k01_streets_recognized_holds : PySem.Challenge.rw_kerbsigns_k01_streets_recognized.Holds := by
  w_on; o_law; k_head; (case hw => w_witness2)
  k_fill
  refine PL.law_walk (l := PySem.Challenge.rw_kerbsigns_k01_streets_recognized) rfl rfl (fun w h Y => PySem.W.kIn_of Y) ?F
  case F =>
    intro w mg fa h KX G hmg
    refine ⟨hmg, ?_⟩
    have nm : ∀ x ∈ PL.bnames, mg x = none := by
      intro x hx
      simp only [PL.bnames, List.mem_cons, List.not_mem_nil, or_false] at hx
      rcases hx with rfl | rfl | rfl | rfl | rfl | rfl | rfl | rfl | rfl | rfl | rfl | rfl | rfl | rfl | rfl | rfl | rfl | rfl
      all_goals (refine' PySem.W.mg_none_of KX G ?z; (case z => k_is))
    refine ⟨nm, PL.exs_ok KX G (by kernel_rfl), PL.exs_match (by kernel_rfl), ?t_l_draw, ?t_l_pick, ?t_l_sign, ?t_l_street, ?t_l_bent, ?t_is_integer, ?t_are_days, ?t_is_word, ?t_is_sign, ?t_is_street, ?t_l_is_number, ?t_l_is_sign, ?t_l_is_street, ?t_law⟩
    case t_l_draw => refine' PL.topdef KX G ?a ?l ?c ?k; (case a => k_is); (case l => k_is); (case c => k_is); (case k => k_is)
    case t_l_pick => refine' PL.topdef KX G ?a ?l ?c ?k; (case a => k_is); (case l => k_is); (case c => k_is); (case k => k_is)
    case t_l_sign => refine' PL.topdef KX G ?a ?l ?c ?k; (case a => k_is); (case l => k_is); (case c => k_is); (case k => k_is)
    case t_l_street => refine' PL.topdef KX G ?a ?l ?c ?k; (case a => k_is); (case l => k_is); (case c => k_is); (case k => k_is)
    case t_l_bent => refine' PL.topdef KX G ?a ?l ?c ?k; (case a => k_is); (case l => k_is); (case c => k_is); (case k => k_is)
    case t_is_integer => refine' PL.topdef KX G ?a ?l ?c ?k; (case a => k_is); (case l => k_is); (case c => k_is); (case k => k_is)
    case t_are_days => refine' PL.topdef KX G ?a ?l ?c ?k; (case a => k_is); (case l => k_is); (case c => k_is); (case k => k_is)
    case t_is_word => refine' PL.topdef KX G ?a ?l ?c ?k; (case a => k_is); (case l => k_is); (case c => k_is); (case k => k_is)
    case t_is_sign => refine' PL.topdef KX G ?a ?l ?c ?k; (case a => k_is); (case l => k_is); (case c => k_is); (case k => k_is)
    case t_is_street => refine' PL.topdef KX G ?a ?l ?c ?k; (case a => k_is); (case l => k_is); (case c => k_is); (case k => k_is)
    case t_l_is_number => refine' PL.topdef KX G ?a ?l ?c ?k; (case a => k_is); (case l => k_is); (case c => k_is); (case k => k_is)
    case t_l_is_sign => refine' PL.topdef KX G ?a ?l ?c ?k; (case a => k_is); (case l => k_is); (case c => k_is); (case k => k_is)
    case t_l_is_street => refine' PL.topdef KX G ?a ?l ?c ?k; (case a => k_is); (case l => k_is); (case c => k_is); (case k => k_is)
    case t_law => refine' PL.topdef KX G ?a ?l ?c ?k; (case a => k_is); (case l => k_is); (case c => k_is); (case k => k_is)
