import PyProof.Rows.All
import Wide.All
import OpenK.AllK
import Wide.FinOn
import HandS.ForMost
import HandS.ForExc
import HandS.TupMul
import HandS.TupAny
import HandS.Deep
import HandS.Dict
import HandS.Wide
import HandS.Style
import HandS.IsInst
import HandS.Star
import HandS.Gcd
import HandS.Walk
import HandS.Zip
import HandS.TupLe
import KE.DataMinMax
import KE.DatumOrd
import OpenK.KMore
import HandS.ExcOwn
import HandS.CallSlots
import HandS.Iter
import KE.GoesEnum
import KE.GoesZip
import HandS.NoneIn
import HandS.Comp
import HandS.Defaults
import HandS.HeadHook1
import HandS.HeadHook2
import HandS.HeadHook4
import HandS.HeadEnd
import HandS.Head0
import HandS.Head1
import HandS.Head2
import KE.KStateDown
import HandS.Head3
import PySem.Challenge.RW_strategybench_k87_whole_repeated_games_a
set_option Elab.async false
set_option linter.all false
section
set_option Elab.async false
set_option linter.all false
set_option maxRecDepth 100000
set_option maxHeartbeats 4000000
/-! EV, part a: values as trees, the small language, what it computes. -/
namespace EV
open PySem PySem.Spec
open L2 (V)

/-- a value as a tree; ref: an object of the store -/
inductive D where
  | non
  | bl (b : Bool)
  | int (i : Int)
  | str (x : Str)
  | tup (xs : List D)
  | fl (xs : List D)
  | sl (xs : List D)
  | fd (t : Bool) (ks vs : List D)
  | obj (c : Nat) (ns : List Nat) (vs : List D)
  | ref (n : Nat)
  deriving Inhabited

/-- what the store holds -/
inductive O where
  | lst (xs : List D)
  | dict (t : Bool) (ks vs : List D)
  | ins (c : Nat) (ns : List Nat) (vs : List D)
  | dead
  deriving Inhabited

abbrev Store := List O
inductive Res (α : Type) where
  | ok (a : α) (S : Store)
  | exc (c : Nat) (ns : List Nat) (vs : List D) (S : Store)
  | bad
abbrev M (α : Type) := Store → Res α
def M.ret {α : Type} (a : α) : M α := fun S => .ok a S
def M.seq {α β : Type} (m : M α) (k : α → M β) : M β := fun S => match m S with
  | .ok a S' => k a S'
  | .exc c ns vs S' => .exc c ns vs S'
  | .bad => .bad
def M.no {α : Type} : M α := fun _ => .bad
/-- an exception is not told of -/
def M.calm {α : Type} (m : M α) : M α := fun S => match m S with
  | .ok a S' => .ok a S'
  | _ => .bad
def M.opt {α : Type} : Option α → M α
  | some a => .ret a
  | none => .no
@[simp] theorem M.seq_ret {α β : Type} (a : α) (k : α → M β) : M.seq (.ret a) k = k a := rfl
@[simp] theorem M.seq_no {α β : Type} (k : α → M β) : M.seq .no k = .no := rfl

mutual
/-- no reference into the store -/
def D.rf : D → Bool
  | .non => true
  | .bl _ => true
  | .int _ => true
  | .str _ => true
  | .tup xs => D.rfs xs
  | .fl xs => D.rfs xs
  | .sl xs => D.rfs xs
  | .fd _ ks vs => D.rfs ks && D.rfs vs
  | .obj _ _ vs => D.rfs vs
  | .ref _ => false
def D.rfs : List D → Bool
  | [] => true
  | x :: xs => D.rf x && D.rfs xs
end
def O.rf : O → Bool
  | .lst xs => D.rfs xs
  | .dict _ ks vs => D.rfs ks && D.rfs vs
  | .ins _ _ vs => D.rfs vs
  | .dead => false

mutual
/-- python's == of plain data; none: not told here -/
def D.eq : D → D → Bool
  | .non, .non => true
  | .bl b, .bl c => b == c
  | .bl b, .int j => decide ((if b then 1 else 0) = j)
  | .int i, .bl c => decide (i = (if c then 1 else 0))
  | .int i, .int j => decide (i = j)
  | .str x, .str y => decide (x = y)
  | .tup xs, .tup ys => D.eqs xs ys
  | .fl xs, .fl ys => D.eqs xs ys
  | _, _ => false
def D.eqs : List D → List D → Bool
  | [], [] => true
  | x :: xs, y :: ys => D.eq x y && D.eqs xs ys
  | _, _ => false
end

/-! ### the language -/
inductive Op2 where | add | sub | mul | mod | fdiv | pow deriving DecidableEq
inductive Cm where | lt | le | gt | ge | eq | ne | mem | nmem | isN | notN | isT | notT deriving DecidableEq
inductive Bi where
  | len | abs | int | sum | max | min | max2 | min2 | all | any | tuple | gcd | bool | str deriving DecidableEq
inductive Ty where | none | int | bool | str | tuple | list | dict | cls (c : Nat) deriving DecidableEq

/-- a target: names by their slots -/
inductive T where
  | name (i : Nat)
  | pair (a b : T)
  | tri (a b c : T)
  | four (a b c d : T)

mutual
inductive E where
  | var (i : Nat)
  | int (i : Int)
  | bl (b : Bool)
  | non
  | str (x : Str)
  | glob (g : Nat)
  | bin (o : Op2) (a b : E)
  | neg (a : E)
  | cmp (o : Cm) (a b : E)
  | chain (o p : Cm) (a b c : E)
  | and_ (a b : E)
  | or_ (a b : E)
  | not_ (a : E)
  | ite (c a b : E)
  | tup (es : Es)
  | fl (l : L)
  | nw (l : L)
  | idx (a i : E)
  | sl0 (a : E)
  | slLo (a lo : E)
  | slHi (a hi : E)
  | slLH (a lo hi : E)
  | rev (a : E)
  | fld (c : Nat) (a : E) (f : Nat)
  | call (f : Nat) (es : Es)
  | callK (f : Nat) (es : Es) (ks : List Nat)
  | meth (c m f : Nat) (o : E) (es : Es)
  | make (c f : Nat) (es : Es)
  | bi (b : Bi) (es : Es)
  | isi (a : E) (t : Ty)
  | dnew (t : Bool)
  | app (a e : E)
  | ext (a e : E)
  | pop (a : E)
  | index (a e : E)
  | frz (a : E)
  | never
inductive L where
  | disp (es : Es)
  | comp (e : E) (own : List Nat) (t : T) (i : I) (c : Es)
  | compR (e : E) (own : List Nat) (t : T) (a : E) (c : Es)
  | comp2 (e : E) (own own2 : List Nat) (t : T) (i : I) (c : Es) (t2 : T) (i2 : I) (c2 : Es)
  | list (a : E)
  | listR (i : I)
  | cat (a b : E)
  | rep (a b : E)
  | cut (a : E)
inductive Es where
  | nil
  | cons (e : E) (r : Es)
  | star (e : E) (r : Es)
inductive I where
  | e (a : E)
  | rng (a : E)
  | rng2 (a b : E)
  | rng3 (a b c : E)
  | enum (a : E)
  | zip (a b : E)
end

mutual
inductive S where
  | asg (t : T) (e : E)
  | setI (o i e : E)
  | set2 (o i o2 i2 : E) (es : Es)
  | setF (c : Nat) (o : E) (f : Nat) (e : E)
  | expr (e : E)
  | ret (e : E)
  | retN
  | if_ (c : E) (a b : Ss)
  | for_ (t : T) (i : I) (b : Ss)
  | while_ (c : E) (b : Ss)
  | raise (c f : Nat) (es : Es)
  | raise0 (c : Nat)
  | brk
  | cont
  | pass
  | never
inductive Ss where
  | nil
  | cons (s : S) (r : Ss)
end

/-! ### what it computes -/
abbrev Env := List (Option D)
def wipe (r : Env) : List Nat → Env
  | [] => r
  | v :: vs => (wipe r vs).set v none

def T.bind : T → D → Env → Option Env
  | .name i, d, r => if i < r.length then some (r.set i (some d)) else none
  | .pair a b, .tup [x, y], r => (a.bind x r).bind fun r => b.bind y r
  | .pair a b, .fl [x, y], r => (a.bind x r).bind fun r => b.bind y r
  | .tri a b c, .tup [x, y, z], r => ((a.bind x r).bind fun r => b.bind y r).bind fun r => c.bind z r
  | .tri a b c, .fl [x, y, z], r => ((a.bind x r).bind fun r => b.bind y r).bind fun r => c.bind z r
  | .four a b c d, .tup [x, y, z, u], r => (((a.bind x r).bind fun r => b.bind y r).bind fun r => c.bind z r).bind fun r => d.bind u r
  | .four a b c d, .fl [x, y, z, u], r => (((a.bind x r).bind fun r => b.bind y r).bind fun r => c.bind z r).bind fun r => d.bind u r
  | _, _, _ => none

def big (i : Int) : Nat := i.natAbs.log2
def intsOf : List D → Option (List Int)
  | [] => some []
  | .int i :: r => (intsOf r).map (i :: ·)
  | _ :: _ => none
def blsOf : List D → Option (List Bool)
  | [] => some []
  | .bl i :: r => (blsOf r).map (i :: ·)
  | _ :: _ => none
def topI : List Int → Int → Int
  | [], m => m
  | x :: r, m => topI r (if m < x then x else m)
def lowI : List Int → Int → Int
  | [], m => m
  | x :: r, m => lowI r (if x < m then x else m)
/-- the place of an index -/
def ix (n : Nat) (i : Int) : Option Nat := if 0 ≤ i then (if i < n then some i.toNat else none) else if -(n : Int) ≤ i then some (i + n).toNat else none
def nth {α : Type} (xs : List α) (i : Int) : Option α := (ix xs.length i).bind fun j => xs[j]?
/-- an end of a slice -/
def edge (n d : Nat) : Option Int → Nat
  | none => d
  | some v => if v < 0 then (v + n).toNat else min v.toNat n
def cut {α : Type} (xs : List α) (lo hi : Option Int) : List α := (xs.drop (edge xs.length 0 lo)).take (edge xs.length xs.length hi - edge xs.length 0 lo)
def line : Nat := 16000000

def op2 : Op2 → D → D → M D
  | .add, .int i, .int j => .ret (.int (i + j))
  | .add, .tup x, .tup y => if x.length + y.length ≤ line then .ret (.tup (x ++ y)) else .no
  | .add, .fl x, .fl y => if x.length + y.length ≤ line then .ret (.fl (x ++ y)) else .no
  | .sub, .int i, .int j => .ret (.int (i - j))
  | .mul, .int i, .int j => if big i + big j < 1000000 then .ret (.int (i * j)) else .no
  | .mul, .tup x, .int k => if 2 ≤ k ∧ k ≤ 1000 ∧ x.length ≤ 1000 ∧ x ≠ [] then .ret (.tup (List.replicate k.toNat x).flatten) else if k = 1 then .ret (.tup x) else .no
  | .mul, .fl x, .int k => if 0 ≤ k ∧ k < 1000 ∧ x.length ≤ 1000 then .ret (.fl (List.replicate k.toNat x).flatten) else .no
  | .mod, .int i, .int j => if 0 < j then .ret (.int (i % j)) else .no
  | .fdiv, .int i, .int j => if 0 < j ∧ big j < 9000 then .ret (.int (i / j)) else .no
  | .pow, .int i, .int j => if 0 ≤ j ∧ j ≤ 1000 ∧ i.natAbs < 2 ^ 64 then .ret (.int (i ^ j.toNat)) else .no
  | _, _, _ => .no

/-- the items of what stands in the store, or of a tree -/
def seqOf (d : D) : M (List D) := match d with
  | .tup x => .ret x
  | .fl x => .ret x
  | .sl x => .ret x
  | _ => .no
def tfOf (d : D) : M (List D) := match d with
  | .tup x => .ret x
  | .fl x => .ret x
  | _ => .no
def lstOf (d : D) : M (List D) := fun S => match d with
  | .fl x => .ok x S
  | .ref n => match S[n]? with
    | some (.lst x) => .ok x S
    | _ => .bad
  | _ => .bad

def findK : List D → List D → D → Option D
  | k :: ks, v :: vs, x => if D.eq k x then some v else findK ks vs x
  | _, _, _ => none
def putK (ks vs : List D) (x y : D) : List D × List D :=
  if ks.any fun k => D.eq k x then (ks, List.zipWith (fun k v => if D.eq k x then y else v) ks vs) else (ks ++ [x], vs ++ [y])
/-- a key that the kind of dict may have -/
def keyOk (t : Bool) : D → Bool
  | .int _ => !t
  | .str _ => !t
  | .tup xs => t && xs.all fun d => match d with | .int _ => true | .str _ => true | _ => false
  | _ => false
def dictOf (d : D) : M (Bool × List D × List D) := fun S => match d with
  | .fd t k v => .ok (t, k, v) S
  | .ref n => match S[n]? with
    | some (.dict t k v) => .ok (t, k, v) S
    | _ => .bad
  | _ => .bad

/-- x[y] = v -/
def putAt (x y v : D) : M Unit := fun S => match x with
  | .ref n => match S[n]? with
    | some (.lst xs) => match y with
      | .int k => match ix xs.length k with
        | some j => .ok () (S.set n (.lst (xs.set j v)))
        | none => .bad
      | _ => .bad
    | some (.dict t ks vs) => if keyOk t y && decide (ks.length < line) then .ok () (S.set n (.dict t (putK ks vs y v).1 (putK ks vs y v).2)) else .bad
    | _ => .bad
  | _ => .bad
def isDict (d : D) : M Bool := fun S => match d with
  | .fd .. => .ok true S
  | .ref n => match S[n]? with
    | some (.dict ..) => .ok true S
    | _ => .ok false S
  | _ => .ok false S
def plain : D → Bool
  | .non => true | .bl _ => true | .int _ => true | .str _ => true | .tup _ => true | .fl _ => true | _ => false
mutual
/-- data that == is told of, so deep at most -/
def D.deep : Nat → D → Bool
  | 0, _ => false
  | n + 1, .tup xs => D.deeps n xs
  | n + 1, .fl xs => D.deeps n xs
  | _ + 1, .non => true
  | _ + 1, .bl _ => true
  | _ + 1, .int _ => true
  | _ + 1, .str x => x.cps.all (· < 1114112)
  | _ + 1, _ => false
def D.deeps : Nat → List D → Bool
  | _, [] => true
  | n, x :: xs => D.deep n x && D.deeps n xs
end
def memD (x : D) (ys : List D) : Bool := ys.any fun y => D.eq y x

def cm : Cm → D → D → M D
  | .lt, .int i, .int j => .ret (.bl (decide (i < j)))
  | .le, .int i, .int j => .ret (.bl (decide (i ≤ j)))
  | .gt, .int i, .int j => .ret (.bl (decide (j < i)))
  | .ge, .int i, .int j => .ret (.bl (decide (j ≤ i)))
  | .eq, x, y => if D.deep 30 x && D.deep 30 y then .ret (.bl (D.eq x y)) else .no
  | .ne, x, y => if D.deep 30 x && D.deep 30 y then .ret (.bl (!D.eq x y)) else .no
  | .isN, x, .non => .ret (.bl (match x with | .non => true | _ => false))
  | .notN, x, .non => .ret (.bl (match x with | .non => false | _ => true))
  | .isT, .bl b, .bl true => .ret (.bl b)
  | .notT, .bl b, .bl true => .ret (.bl (!b))
  | .mem, x, y => M.seq (isDict y) fun b => if b then M.seq (dictOf y) fun p => if keyOk p.1 x then .ret (.bl (findK p.2.1 p.2.2 x).isSome) else .no
      else M.seq (tfOf y) fun ys => if D.deep 30 x && D.deeps 30 ys then .ret (.bl (memD x ys)) else .no
  | .nmem, x, y => M.seq (isDict y) fun b => if b then M.seq (dictOf y) fun p => if keyOk p.1 x then .ret (.bl (findK p.2.1 p.2.2 x).isNone) else .no
      else M.seq (tfOf y) fun ys => if D.deep 30 x && D.deeps 30 ys then .ret (.bl (!memD x ys)) else .no
  | _, _, _ => .no

def getI (a i : D) : M D := M.seq (isDict a) fun b => if b then M.seq (dictOf a) fun p => if keyOk p.1 i then .opt (findK p.2.1 p.2.2 i) else .no
  else match i with
    | .int j => match a with
      | .tup x => .opt (nth x j)
      | .fl x => .opt (nth x j)
      | .sl x => .opt (nth x j)
      | .ref n => M.seq (lstOf (.ref n)) fun x => .opt (nth x j)
      | _ => .no
    | _ => .no
def sliceI (a : D) (lo hi : Option Int) : M D := match a with
  | .tup x => .ret (.tup (cut x lo hi))
  | .fl x => .ret (.fl (cut x lo hi))
  | .sl x => .ret (.fl (cut x lo hi))
  | .ref n => M.seq (lstOf (.ref n)) fun x => .ret (.fl (cut x lo hi))
  | _ => .no
def intOf : D → M Int
  | .int i => .ret i
  | _ => .no
def blOf : D → M Bool
  | .bl b => .ret b
  | _ => .no

def getF (f : Nat) : List Nat → List D → Option D
  | n :: ns, v :: vs => if n = f then some v else getF f ns vs
  | _, _ => none
def setF (f : Nat) (d : D) : List Nat → List D → List Nat × List D
  | n :: ns, v :: vs => if n = f then (n :: ns, d :: vs) else ((setF f d ns vs).1.cons n, (setF f d ns vs).2.cons v)
  | _, _ => ([f], [d])
def fldOf (d : D) (f : Nat) : M D := fun S => match d with
  | .obj _ ns vs => M.opt (getF f ns vs) S
  | .ref n => match S[n]? with
    | some (.ins _ ns vs) => M.opt (getF f ns vs) S
    | _ => .bad
  | _ => .bad
def clsOf (d : D) (c : Nat) : M Unit := fun S => match d with
  | .obj b _ _ => if b = c then .ok () S else .bad
  | .ref n => match S[n]? with
    | some (.ins b _ _) => if b = c then .ok () S else .bad
    | _ => .bad
  | _ => .bad

/-- an instance of the class c whose own attributes bear not the name m -/
def methOf (d : D) (c m : Nat) : M Unit := fun S => match d with
  | .obj b ns _ => if b = c ∧ m ∉ ns then .ok () S else .bad
  | .ref n => match S[n]? with
    | some (.ins b ns _) => if b = c ∧ m ∉ ns then .ok () S else .bad
    | _ => .bad
  | _ => .bad
def pick {α : Type} (ks : List Nat) (xs : List α) : List α := ks.filterMap fun k => xs[k]?

def bi : Bi → List D → M D
  | .len, [.str x] => if x.length ≤ line then .ret (.int x.length) else .no
  | .len, [.ref n] => fun S => match S[n]? with
    | some (.lst x) => .ok (.int x.length) S
    | _ => .bad
  | .len, [d] => M.seq (seqOf d) fun x => .ret (.int x.length)
  | .abs, [.int i] => .ret (.int (if i < 0 then -i else i))
  | .int, [.int i] => .ret (.int i)
  | .int, [.bl b] => .ret (.int (if b then 1 else 0))
  | .bool, [.int i] => .ret (.bl (i != 0))
  | .bool, [.bl b] => .ret (.bl b)
  | .sum, [.fl x] => match intsOf x with
    | some is => .ret (.int is.sum)
    | none => .no
  | .max, [.fl x] => match intsOf x with
    | some (i :: is) => .ret (.int (topI is i))
    | _ => .no
  | .max, [.tup x] => match intsOf x with
    | some (i :: is) => .ret (.int (topI is i))
    | _ => .no
  | .min, [.fl x] => match intsOf x with
    | some (i :: is) => .ret (.int (lowI is i))
    | _ => .no
  | .max2, [.int i, .int j] => .ret (.int (if j > i then j else i))
  | .min2, [.int i, .int j] => .ret (.int (if j < i then j else i))
  | .all, [.fl x] => match blsOf x with
    | some bs => .ret (.bl (bs.all id))
    | none => .no
  | .any, [.fl x] => match blsOf x with
    | some bs => .ret (.bl (bs.any id))
    | none => .no
  | .tuple, [.fl x] => .ret (.tup x)
  | .tuple, [.sl x] => .ret (.tup x)
  | .tuple, [.tup x] => .ret (.tup x)
  | .gcd, [.int i, .int j] => .ret (.int (Nat.gcd i.natAbs j.natAbs : Nat))
  | _, _ => .no

/-- the type of a value -/
def tyD (S : Store) : D → Option Ty
  | .non => some .none
  | .bl _ => some .bool
  | .int _ => some .int
  | .str _ => some .str
  | .tup _ => some .tuple
  | .fl _ => some .list
  | .sl _ => none
  | .fd t _ _ => if t then none else some .dict
  | .obj _ _ _ => none
  | .ref n => match S[n]? with
    | some (.lst _) => some .list
    | some (.dict t _ _) => if t then none else some .dict
    | _ => none
def isSub (s t : Ty) : Bool := decide (s = t) || (decide (s = .bool) && decide (t = .int))
def isTy (t : Ty) (d : D) : M D := fun S => match tyD S d with
  | some s => .ok (.bl (isSub s t)) S
  | none => .bad

def collect (f : D → M (Option D)) : List D → M (List D)
  | [] => .ret []
  | x :: xs => M.seq (f x) fun o => M.seq (collect f xs) fun ys => .ret (match o with | some y => y :: ys | none => ys)
/-- over a list that may be written meanwhile -/
def walkR (f : D → M (Option D)) (x : D) : Nat → Nat → M (List D)
  | 0, _ => .no
  | m + 1, i => M.seq (lstOf x) fun xs => match xs[i]? with
    | none => .ret []
    | some y => M.seq (f y) fun o => M.seq (walkR f x m (i + 1)) fun ys => .ret (match o with | some y => y :: ys | none => ys)
def collect2 (f : D → M (List D)) : List D → M (List D)
  | [] => .ret []
  | x :: xs => M.seq (f x) fun o => M.seq (collect2 f xs) fun ys => .ret (o ++ ys)
def count (lo : Int) (c : Int) : Nat → List D
  | 0 => []
  | n + 1 => .int lo :: count (lo + c) c n
def pairs : List D → List D → List D
  | x :: xs, y :: ys => .tup [x, y] :: pairs xs ys
  | _, _ => []
def numbered (k : Int) : List D → List D
  | [] => []
  | x :: xs => .tup [.int k, x] :: numbered (k + 1) xs
def frz (d : D) : M D := fun S => match d with
  | .ref n => match S[n]? with
    | some (.lst x) => .ok (.fl x) (S.set n .dead)
    | some (.dict t k v) => .ok (.fd t k v) (S.set n .dead)
    | some (.ins c n' v) => .ok (.obj c n' v) (S.set n .dead)
    | _ => .bad
  | d => .ok d S

/-! #### calls: the callee sees the objects that are handed to it alone -/
def refsOf : List D → List Nat
  | [] => []
  | .ref n :: r => n :: refsOf r
  | _ :: r => refsOf r
def takeO (S : Store) : List Nat → Option Store
  | [] => some []
  | n :: r => match S[n]?, takeO S r with
    | some o, some q => if o.rf then some (o :: q) else none
    | _, _ => none
/-- the arguments as the callee sees them -/
def lent (k : Nat) : List D → Option (List D)
  | [] => some []
  | .ref _ :: r => (lent (k + 1) r).map (.ref k :: ·)
  | d :: r => if d.rf then (lent k r).map (d :: ·) else none
def putO (S : Store) : List Nat → Store → Option Store
  | [], _ => some S
  | n :: r, o :: q => if o.rf then putO (S.set n o) r q else none
  | _, _ => none
def noDup : List Nat → Bool
  | [] => true
  | n :: r => !r.contains n && noDup r
def callR (call : List D → M D) (ds : List D) : M D := fun S =>
  if noDup (refsOf ds) then match takeO S (refsOf ds), lent 0 ds with
    | some q, some es => match call es q with
      | .ok r q' => match putO S (refsOf ds) q' with
          | some S' => match r with
            | .ref n => if (refsOf ds).length ≤ n then match q'[n]? with
                | some o => if o.rf then .ok (.ref S'.length) (S' ++ [o]) else .bad
                | none => .bad
              else .bad
            | r => if r.rf then .ok r S' else .bad
          | none => .bad
      | .exc c ns vs q' => if D.rfs vs then match putO S (refsOf ds) q' with
          | some S' => .exc c ns vs S'
          | none => .bad
        else .bad
      | .bad => .bad
    | _, _ => .bad
  else .bad
/-- a new instance: __init__ fills it, then it is a tree -/
def makeR (call : List D → M D) (c : Nat) (ds : List D) : M D := fun S =>
  if D.rfs ds then match call (.ref 0 :: ds) [.ins c [] []] with
    | .ok .non (.ins b ns vs :: _) => if D.rfs vs && decide (b = c) then .ok (.obj c ns vs) S else .bad
    | .exc d ns vs _ => if D.rfs vs then .exc d ns vs S else .bad
    | _ => .bad
  else .bad

section
variable (call : Nat → List D → M D) (gl : List D)
mutual
def evalE : E → Env → M D
  | .var i, r => match r[i]? with
    | some (some d) => .ret d
    | _ => .no
  | .int i, _ => .ret (.int i)
  | .bl b, _ => .ret (.bl b)
  | .non, _ => .ret .non
  | .str x, _ => .ret (.str x)
  | .glob g, _ => .opt gl[g]?
  | .bin o a b, r => M.seq (evalE a r) fun x => M.seq (evalE b r) fun y => op2 o x y
  | .neg a, r => M.seq (evalE a r) fun x => M.seq (intOf x) fun i => .ret (.int (-i))
  | .cmp o a b, r => M.seq (evalE a r) fun x => M.seq (evalE b r) fun y => cm o x y
  | .chain o p a b c, r => M.seq (evalE a r) fun x => M.seq (evalE b r) fun y => M.seq (cm o x y) fun z => M.seq (blOf z) fun t =>
      if t then M.seq (evalE c r) fun u => cm p y u else .ret (.bl false)
  | .and_ a b, r => M.seq (evalE a r) fun x => M.seq (blOf x) fun t => if t then evalE b r else .ret (.bl false)
  | .or_ a b, r => M.seq (evalE a r) fun x => M.seq (blOf x) fun t => if t then .ret (.bl true) else evalE b r
  | .not_ a, r => M.seq (evalE a r) fun x => M.seq (blOf x) fun t => .ret (.bl (!t))
  | .ite c a b, r => M.seq (evalE c r) fun x => M.seq (blOf x) fun t => if t then evalE a r else evalE b r
  | .tup es, r => M.seq (evalEs es r) fun xs => if xs.length ≤ line then .ret (.tup xs) else .no
  | .fl l, r => M.seq (evalL l r) fun xs => .ret (.fl xs)
  | .nw l, r => M.seq (evalL l r) fun xs S => .ok (.ref S.length) (S ++ [.lst xs])
  | .idx a i, r => M.seq (evalE a r) fun x => M.seq (evalE i r) fun y => getI x y
  | .sl0 a, r => M.seq (evalE a r) fun x => sliceI x none none
  | .slLo a lo, r => M.seq (evalE a r) fun x => M.seq (evalE lo r) fun y => M.seq (intOf y) fun i => sliceI x (some i) none
  | .slHi a hi, r => M.seq (evalE a r) fun x => M.seq (evalE hi r) fun y => M.seq (intOf y) fun i => sliceI x none (some i)
  | .slLH a lo hi, r => M.seq (evalE a r) fun x => M.seq (evalE lo r) fun y => M.seq (intOf y) fun i => M.seq (evalE hi r) fun z => M.seq (intOf z) fun j => sliceI x (some i) (some j)
  | .rev a, r => M.seq (evalE a r) fun x => match x with
    | .fl xs => .ret (.fl xs.reverse)
    | _ => .no
  | .fld c a f, r => M.seq (evalE a r) fun x => M.seq (clsOf x c) fun _ => fldOf x f
  | .call f es, r => M.seq (evalEs es r) fun xs => callR (call f) xs
  | .callK f es ks, r => M.seq (evalEs es r) fun xs => if xs.length = ks.length then callR (call f) (pick ks xs) else .no
  | .meth c m f o es, r => M.seq (evalE o r) fun x => M.seq (methOf x c m) fun _ => M.seq (evalEs es r) fun xs => callR (call f) (x :: xs)
  | .make c f es, r => M.seq (evalEs es r) fun xs => makeR (call f) c xs
  | .bi b es, r => M.seq (evalEs es r) fun xs => bi b xs
  | .isi a t, r => M.seq (evalE a r) fun x => isTy t x
  | .dnew t, _ => fun S => .ok (.ref S.length) (S ++ [.dict t [] []])
  | .app a e, r => M.seq (evalE a r) fun x => M.seq (lstOf x) fun _ => M.seq (evalE e r) fun y S => match x with
    | .ref n => match S[n]? with
      | some (.lst xs) => if xs.length < line then .ok .non (S.set n (.lst (xs ++ [y]))) else .bad
      | _ => .bad
    | _ => .bad
  | .ext a e, r => M.seq (evalE a r) fun x => M.seq (evalE e r) fun y S => match x, y with
    | .ref n, .fl ys => match S[n]? with
      | some (.lst xs) => if xs.length + ys.length < line then .ok .non (S.set n (.lst (xs ++ ys))) else .bad
      | _ => .bad
    | _, _ => .bad
  | .pop a, r => M.seq (evalE a r) fun x S => match x with
    | .ref n => match S[n]? with
      | some (.lst xs) => match xs.getLast? with
        | some y => .ok y (S.set n (.lst xs.dropLast))
        | none => .bad
      | _ => .bad
    | _ => .bad
  | .index a e, r => M.seq (evalE a r) fun x => match x with
    | .fl xs => M.seq (evalE e r) fun y => if D.deep 30 y && D.deeps 30 xs then .opt ((xs.findIdx? fun z => D.eq z y).map fun (k : Nat) => D.int k) else .no
    | _ => .no
  | .frz a, r => M.seq (evalE a r) frz
  | .never, _ => .no
def evalL : L → Env → M (List D)
  | .disp es, r => M.seq (evalEs es r) fun xs => if xs.length ≤ line then .ret xs else .no
  | .comp e own t i c, r => M.seq (evalI i r) fun xs => if xs.length ≤ line then M.calm (collect (fun x => M.seq (.opt (t.bind x (wipe r own))) fun q => M.seq (evalC c q) fun b => if b then M.seq (evalE e q) fun y => .ret (some y) else .ret none) xs) else .no
  | .compR e own t a c, r => M.seq (evalE a r) fun x => M.calm (walkR (fun x => M.seq (.opt (t.bind x (wipe r own))) fun q => M.seq (evalC c q) fun b => if b then M.seq (evalE e q) fun y => .ret (some y) else .ret none) x 2000 0)
  | .comp2 e own own2 t i c t2 i2 c2, r => M.seq (evalI i r) fun xs => M.calm (M.seq (collect2 (fun x => M.seq (.opt (t.bind x (wipe r own))) fun q => M.seq (evalC c q) fun b => if b then
        M.seq (evalI i2 q) fun zs => if zs.length ≤ 1000 then collect (fun z => M.seq (.opt (t2.bind z (wipe q own2))) fun q2 => M.seq (evalC c2 q2) fun b => if b then M.seq (evalE e q2) fun y => .ret (some y) else .ret none) zs else .no else .ret []) xs) fun ys => if xs.length ≤ 1000 then .ret ys else .no)
  | .list a, r => M.seq (evalE a r) fun x => seqOf x
  | .listR i, r => evalI i r
  | .cat a b, r => M.seq (evalE a r) fun x => M.seq (evalE b r) fun y => match x, y with
    | .fl xs, .fl ys => if xs.length + ys.length ≤ line then .ret (xs ++ ys) else .no
    | _, _ => .no
  | .rep a b, r => M.seq (evalE a r) fun x => M.seq (evalE b r) fun y => match x, y with
    | .fl xs, .int k => if 0 ≤ k ∧ k < 1000 ∧ xs.length ≤ 1000 then .ret (List.replicate k.toNat xs).flatten else .no
    | _, _ => .no
  | .cut a, r => M.seq (evalE a r) fun x => match x with
    | .fl xs => .ret xs
    | _ => .no
def evalEs : Es → Env → M (List D)
  | .nil, _ => .ret []
  | .cons e es, r => M.seq (evalE e r) fun x => M.seq (evalEs es r) fun xs => .ret (x :: xs)
  | .star e es, r => M.seq (evalE e r) fun x => M.seq (seqOf x) fun ys => M.seq (evalEs es r) fun xs => .ret (ys ++ xs)
def evalC : Es → Env → M Bool
  | .nil, _ => .ret true
  | .cons e .nil, r => M.seq (evalE e r) blOf
  | _, _ => .no
def evalI : I → Env → M (List D)
  | .e a, r => M.seq (evalE a r) seqOf
  | .rng a, r => M.seq (evalE a r) fun x => M.seq (intOf x) fun n => if -(line : Int) ≤ n ∧ n ≤ line then .ret (count 0 1 n.toNat) else .no
  | .rng2 a b, r => M.seq (evalE a r) fun x => M.seq (evalE b r) fun y => M.seq (intOf x) fun n => M.seq (intOf y) fun m =>
      if -(line : Int) ≤ n ∧ n ≤ line ∧ -(line : Int) ≤ m ∧ m ≤ line then .ret (count n 1 (m - n).toNat) else .no
  | .rng3 _ _ _, _ => .no
  | .enum a, r => M.seq (evalE a r) fun x => M.seq (seqOf x) fun xs => .ret (numbered 0 xs)
  | .zip a b, r => M.seq (evalE a r) fun x => M.seq (evalE b r) fun y => M.seq (seqOf x) fun xs => M.seq (seqOf y) fun ys => .ret (pairs xs ys)
end

inductive Fl where
  | nx (r : Env) | rt (d : D) | bk (r : Env) | ct (r : Env)
/-- what a statement ends in: an exception bears the names' values too -/
inductive RS where
  | ok (f : Fl) (S : Store)
  | exc (c : Nat) (ns : List Nat) (vs : List D) (r : Env) (S : Store)
  | bad
abbrev MS := Store → RS
def lift {α : Type} (m : M α) (r : Env) (k : α → MS) : MS := fun S => match m S with
  | .ok a S' => k a S'
  | .exc c ns vs S' => .exc c ns vs r S'
  | .bad => .bad
def MS.ok (f : Fl) : MS := fun S => .ok f S
def MS.no : MS := fun _ => .bad
def MS.then (m : MS) (k : Env → MS) : MS := fun S => match m S with
  | .ok (.nx r) S' => k r S'
  | x => x
/-- a loop over the items -/
def loop (f : D → Env → MS) : List D → Env → MS
  | [], r => .ok (.nx r)
  | x :: xs, r => fun S => match f x r S with
    | .ok (.nx r') S' => loop f xs r' S'
    | .ok (.ct r') S' => loop f xs r' S'
    | .ok (.bk r') S' => .ok (.nx r') S'
    | y => y
def spin (c : Env → M Bool) (f : Env → MS) : Nat → Env → MS
  | 0, _ => .no
  | n + 1, r => lift (c r) r fun b => if b then fun S => match f r S with
      | .ok (.nx r') S' => spin c f n r' S'
      | .ok (.ct r') S' => spin c f n r' S'
      | .ok (.bk r') S' => .ok (.nx r') S'
      | y => y
    else .ok (.nx r)

def fuel : Nat := 100000
mutual
def evalS : S → Env → MS
  | .asg t e, r => lift (evalE call gl e r) r fun x => match t.bind x r with
    | some r' => .ok (.nx r')
    | none => .no
  | .setI o i e, r => lift (M.seq (evalE call gl e r) fun v => M.seq (evalE call gl o r) fun x => M.seq (evalE call gl i r) fun y => putAt x y v) r fun _ => .ok (.nx r)
  | .set2 o i o2 i2 es, r => lift (M.seq (evalEs call gl es r) fun vs => match vs with
      | [v, v2] => M.seq (evalE call gl o r) fun x => M.seq (evalE call gl i r) fun y => M.seq (putAt x y v) fun _ => M.seq (evalE call gl o2 r) fun x2 => M.seq (evalE call gl i2 r) fun y2 => putAt x2 y2 v2
      | _ => .no) r fun _ => .ok (.nx r)
  | .setF c o f e, r => lift (M.seq (evalE call gl e r) fun v => M.seq (evalE call gl o r) fun x S => match x with
      | .ref n => match S[n]? with
        | some (.ins b ns vs) => if b = c ∧ ns.length < 900 then .ok () (S.set n (.ins b (setF f v ns vs).1 (setF f v ns vs).2)) else .bad
        | _ => .bad
      | _ => .bad) r fun _ => .ok (.nx r)
  | .expr e, r => lift (evalE call gl e r) r fun _ => .ok (.nx r)
  | .ret e, r => lift (evalE call gl e r) r fun x => .ok (.rt x)
  | .retN, _ => .ok (.rt .non)
  | .if_ c a b, r => lift (M.seq (evalE call gl c r) blOf) r fun t => if t then evalSs a r else evalSs b r
  | .for_ t i b, r => lift (evalI call gl i r) r fun xs => loop (fun x r => match t.bind x r with
      | some r' => evalSs b r'
      | none => .no) xs r
  | .while_ c b, r => spin (fun r => M.seq (evalE call gl c r) blOf) (fun r => evalSs b r) fuel r
  | .raise c f es, r => lift (evalEs call gl es r) r fun xs S => match makeR (call f) c xs S with
      | .ok (.obj c ns vs) S' => .exc c ns vs r S'
      | .exc c ns vs S' => .exc c ns vs r S'
      | _ => .bad
  | .raise0 c, r => fun S => .exc c [] [] r S
  | .brk, r => .ok (.bk r)
  | .cont, r => .ok (.ct r)
  | .pass, r => .ok (.nx r)
  | .never, _ => .no
def evalSs : Ss → Env → MS
  | .nil, r => .ok (.nx r)
  | .cons s ss, r => MS.then (evalS s r) fun r => evalSs ss r
end
end

/-- a def: how many parameters, how many names, its body -/
structure F where
  ps : Nat
  ns : Nat
  body : Ss
def start (n : Nat) (ds : List D) : Env := ds.map some ++ List.replicate (n - ds.length) none
def runF (call : Nat → List D → M D) (gl : List D) (f : F) (ds : List D) : M D := fun S =>
  if ds.length = f.ps then match evalSs call gl f.body (start f.ns ds) S with
    | .ok (.rt d) S' => .ok d S'
    | .ok (.nx _) S' => .ok .non S'
    | .exc c ns vs _ S' => .exc c ns vs S'
    | _ => .bad
  else .bad
def callF (fs : List F) (gl : List D) : Nat → Nat → List D → M D
  | 0, _, _ => .no
  | n + 1, f, ds => match fs[f]? with
    | some g => runF (callF fs gl n) gl g ds
    | none => .no
end EV
end
section
set_option Elab.async false
set_option linter.all false
set_option maxRecDepth 100000
set_option maxHeartbeats 4000000
/-! EV, part x: rules of the layer that were lacking. -/
namespace EV
open PySem PySem.Spec PyProof.Rows L2
/-- a tuple times 1 is itself -/
theorem tuple_times_one (l : Addr) (items : Array Value) (n : Nat) (dd : Option Addr) (sl : Array (Option Value)) (u : Tok) :
    Meets (Builtin.«tuple.__mul__» ⟨[.ref l, .int 1 u], []⟩) (fun _ R s => s.heap.get? l = some { cls := .type "tuple", dict := dd, data := .seq items n, slots := sl } ∧ R (.ok (.ret (Value.ref l))) s) :=
  .of_wp fun prog w A R s h => by
    obtain ⟨hp, g, d, tk, os⟩ := s
    obtain ⟨hl, h⟩ := h
    have f1 := AutoSeq1.idx_int
    wp_walk using wpAny_loadPart' hl
    exact ⟨_, rfl, h⟩
def rOnce (K : PySem.W.Frag) : R2 := fun x y H Q => ∃ l xs, x = .ref l ∧ y = .int 1 ∧ SqT K H l xs ∧ Q (.ref l) H
theorem op_once {X : Cx} : OpR X (binaryOp .Mult) (rOnce X.K) := by
  rintro pins s σ H x y v u Q I rx ry ⟨l, xs, rfl, rfl, hT, q⟩
  cases rx
  obtain ⟨t, rfl⟩ := ry
  obtain ⟨its, r, ⟨ob, ho, hc, n, hd⟩, hs⟩ := I.tuple hT
  obtain ⟨cls, dd, data, sl⟩ := ob
  simp only at hc hd
  subst hc hd
  exact wpAny_binaryOp_repeat_ref (T := "tuple") (U := "int") (by decide) ⟨_, ho, rfl⟩ (fun s' => typeIs_int s' 1 t) noFill_tuple_mul F.fills_int_mul F.slot_int_rmul repeat_tuple F.slot_int_index.lookup
    (call_meets F.slot_int_rmul (typeIs_int s 1 t) F.entry_int_rmul (F.args_int_rmul_2 _ _) (int_rmul_tuple 1 t l its.toArray n dd sl)
      ⟨ho, rfl, ⟨_, ho, rfl⟩, call_meets F.slot_tuple_mul ⟨_, ho, rfl⟩ F.entry_tuple_mul (F.args_tuple_mul_2 _ _) (tuple_times_one l its.toArray n dd sl t) ⟨ho, .ref l, H, I, rfl, q⟩⟩)

/-- x in t, t a tuple of data -/
def rAmid (K : PySem.W.Frag) (b : Bool) : R2 := fun x y H Q => ∃ d ds, Dp K H x d ∧ Dp K H y (.tuple ds) ∧ SeqAt.shaped d = true ∧ SeqAt.shaped (.tuple ds) = true ∧ Q (.bl (b != (ds.any fun z => PyData.eqv z d))) H
section
variable {X : Cx}
theorem op_amid (hu : X.A.units + 65 < cLine) : OpR X (compareOp .In) (rAmid X.K false) := by
  rintro pins s σ H x y v u Q I rx ry ⟨d, ds, hd, he, sd, se, q⟩
  obtain ⟨as, r1⟩ := Dp.reads I d x v hd rx
  obtain ⟨bs, r2⟩ := Dp.reads I (.tuple ds) y u he ry
  exact SeqAt.in_tuple_reads r2 r1 (SeqAt.canLay_of_shaped se) (SeqAt.canLay_of_shaped sd) (room_in_shaped sd hu) ⟨.bl _, H, I, by simp [L2.RelV], q⟩
theorem op_notAmid (hu : X.A.units + 65 < cLine) : OpR X (compareOp .NotIn) (rAmid X.K true) := by
  rintro pins s σ H x y v u Q I rx ry ⟨d, ds, hd, he, sd, se, q⟩
  obtain ⟨as, r1⟩ := Dp.reads I d x v hd rx
  obtain ⟨bs, r2⟩ := Dp.reads I (.tuple ds) y u he ry
  exact SeqAt.notIn_tuple_reads r2 r1 (SeqAt.canLay_of_shaped se) (SeqAt.canLay_of_shaped sd) (room_in_shaped sd hu) ⟨.bl _, H, I, by simp [L2.RelV], q⟩
end

/-! ### a dict whose keys are tuples, wherever these stand -/
abbrev Entry := List Key × Addr × Value
/-- the dict at a with these entries -/
def dTx (P : Program) (w : World) (a : Addr) (xs : List Entry) : HO := .ext fun h => (a == sysModules) = false ∧ xs.length ≤ sizeLine ∧
  ∃ o es ep, h.get? a = some o ∧ o.ExactDict ∧ o.data = .dict es ep ∧ es.toList = xs.map (entryOfKey (tupleKind (mixKind P w))) ∧ (xs.map (·.1)).Nodup
theorem dTx_ok {P : Program} {w : World} {H : Hp} {h : Heap} {a : Addr} {xs : List Entry} (h1 : (a == sysModules) = false) (h2 : xs.length ≤ sizeLine)
    (h3 : ∃ o es ep, h.get? a = some o ∧ o.ExactDict ∧ o.data = .dict es ep ∧ es.toList = xs.map (entryOfKey (tupleKind (mixKind P w))) ∧ (xs.map (·.1)).Nodup) : ObjOk P w H h a (dTx P w a xs) := by
  obtain ⟨o, es, ep, e, r⟩ := id h3
  exact ⟨⟨h1, h2, h3⟩, ⟨o, e⟩, fun g1 g2 ⟨z1, z2, o', es', ep', e', r'⟩ k => ⟨z1, z2, o', es', ep', k _ e', r'⟩⟩
section
variable {X : Cx} {pins : List (Addr × Obj)} {σ : L2.St} {H : Hp} {s : Shared} {a b : Addr} {xs : List Entry} {k : List Key} {A : Around} {E : Value → Shared → Prop}
theorem key_at (I : L2.Inv X pins σ H s) (h : SqT X.K H b (k.map kV)) : (tupleKind (mixKind X.prog X.w)).is s.heap k b := by
  obtain ⟨its, r, ⟨o, h1, h2, n, h3⟩, _⟩ := I.tuple h
  exact ⟨o, its.toArray, n, h1, h2, h3, by simpa using items_are r⟩
theorem dTx_at (I : L2.Inv X pins σ H s) (h : H a = some (dTx X.prog X.w a xs)) (hk : ∀ q ∈ xs, SqT X.K H q.2.1 (q.1.map kV)) :
    (a == sysModules) = false ∧ xs.length ≤ sizeLine ∧ s.heap.DictOfH (tupleKind (mixKind X.prog X.w)) a xs := by
  obtain ⟨⟨h1, h2, o, es, ep, e, r1, r2, r3, r4⟩, _, _⟩ := I.hok a _ h
  exact ⟨h1, h2, o, es, ep, e, r1, r2, r3, fun q hq => key_at I (hk q hq), r4⟩
/-- the rest of o[i] where the object's type has a built-in rule -/
theorem tail_any {prog : Program} {w : World} {T id : String} {value slice : Expr} {o i : Value} {Q : Value → Shared → Prop} (hl : typeLookup (.type T) "__getitem__" = pure (some (.builtin id))) (hT : s.TypeIs o T)
    (hs : subscripted slice false o i = operate [o, i] (getItem o i)) (h : wpAny (model prog w) A (getItem o i) Q E s) : wpAny (model prog w) A (subscriptTail value slice o i) Q E s := by
  unfold subscriptTail
  refine wpAny_bind ?_
  rw [getitemInPython_of_ne hT.not_modules]
  refine wpAny_bind (wpAny_specialOf hT hl ?_)
  have last : wpAny (model prog w) A (subscripted slice false o i) (fun r s₃ => wpAny (model prog w) A (letTemporaryGo value o r >>= fun _ => pure r) Q E s₃) E s := by
    rw [hs]
    exact wpAny_operating (wpAny_mono h (fun r s₃ h₃ => wpAny_bind (wpAny_letTemporaryGo (wpAny_pure h₃))) fun _ _ x => x)
  first
    | exact wpAny_pure (wpAny_bind last)
    | exact wpAny_bind (wpAny_pure (wpAny_bind last))
    | exact wpAny_bind last
/-- what stands in the dict at the key y -/
def Has (P : Program) (w : World) (K : PySem.W.Frag) (H : Hp) (a : Addr) (y : V) (o : Option V) : Prop :=
  DGet H a y o ∨ ∃ xs k b, H a = some (dTx P w a xs) ∧ (∀ q ∈ xs, SqT K H q.2.1 (q.1.map kV)) ∧ y = .ref b ∧ SqT K H b (k.map kV) ∧ RelO o ((atKey xs k).map (·.2))
theorem Has.type (I : L2.Inv X pins σ H s) {y : V} {o : Option V} (g : Has X.prog X.w X.K H a y o) : s.TypeIs (.ref a) "dict" := by
  rcases g with g | ⟨xs, k, b, e, hk, _⟩
  · exact dict_typeIs I g
  · exact (dTx_at I e hk).2.2.typeIs
theorem has_get {y v : V} {u : Value} {Q : Value → Shared → Prop} (hu : A.units + 1 < cLine) (I : L2.Inv X pins σ H s) (g : Has X.prog X.w X.K H a y (some v)) (ry : L2.RelV y u) (h : ∀ w' s', L2.Inv X pins σ H s' → L2.RelV v w' → Q w' s') :
    wpAny (model X.prog X.w) A (getItem (.ref a) u) Q E s := by
  rcases g with g | ⟨xs, k, b, e, hk, rfl, hb, ho⟩
  · exact d_getItem hu I g ry h
  · cases ry
    obtain ⟨_, _, dd⟩ := dTx_at I e hk
    obtain ⟨w', hw, rw'⟩ := RelO.some_of ho
    obtain ⟨p, hp, hp2⟩ := Option.map_eq_some_iff.mp hw
    refine wpAny_getItem_heap (tupleKind_room_in1 hu) (key_at I hb) dd hp ?_
    rw [hp2]
    exact h w' _ (I.tok _) rw'
def rIxD (P : Program) (w : World) (K : PySem.W.Frag) : R2 := fun x y H Q => ∃ a v, x = .ref a ∧ Has P w K H a y (some v) ∧ Q v H
theorem ix_dict (hu : X.A.units + 1 < cLine) : IxR X (rIxD X.prog X.w X.K) := by
  rintro value slice pins s σ H x y v u Q I rx ry ⟨a, z, rfl, g, q⟩ hs
  cases rx
  exact tail_any PySem.F.slot_dict_getitem.lookup (g.type I) hs (has_get hu I g ry fun w' s' I' r' => ⟨z, H, I', r', q⟩)
def rInDict (P : Program) (w : World) (K : PySem.W.Frag) (neg : Bool) : R2 := fun x y H Q => ∃ a o, y = .ref a ∧ Has P w K H a x o ∧ Q (.bl (neg != o.isSome)) H
theorem op_inDict (hu : X.A.units + 1 < cLine) : OpR X (compareOp .In) (rInDict X.prog X.w X.K false) := by
  rintro pins s σ H x y v u Q I rx ry ⟨a, o, rfl, g, q⟩
  cases ry
  rcases g with g | ⟨xs, k, b, e, hk, rfl, hb, ho⟩
  · exact d_in hu I g rx fun s' I' => ⟨_, H, I', by simp [L2.RelV], q⟩
  · cases rx
    obtain ⟨hd, _, dd⟩ := dTx_at I e hk
    refine wpAny_in_heap (tupleKind_room_in1 hu) (key_at I hb) hd dd ⟨_, H, I.tok _, ?_, q⟩
    have := ho.isSome_eq
    rw [Option.isSome_map] at this
    simp [L2.RelV, this]
theorem op_notInDict (hu : X.A.units + 1 < cLine) : OpR X (compareOp .NotIn) (rInDict X.prog X.w X.K true) := by
  rintro pins s σ H x y v u Q I rx ry ⟨a, o, rfl, g, q⟩
  cases ry
  rcases g with g | ⟨xs, k, b, e, hk, rfl, hb, ho⟩
  · exact d_notIn hu I g rx fun s' I' => ⟨_, H, I', by simp [L2.RelV], q⟩
  · cases rx
    obtain ⟨hd, _, dd⟩ := dTx_at I e hk
    refine wpAny_notIn_heap (tupleKind_room_in1 hu) (key_at I hb) hd dd ⟨_, H, I.tok _, ?_, q⟩
    have := ho.isSome_eq
    rw [Option.isSome_map] at this
    simp [L2.RelV, this]
/-- the entries behind a store -/
def putX (xs : List Entry) (k : List Key) (b : Addr) (u : Value) : List Entry := storedH xs k b u
def rSetX (P : Program) (w : World) (K : PySem.W.Frag) : V → V → V → Hp → (Hp → Prop) → Prop := fun o i v H Q => ∃ a xs k b, o = .ref a ∧ i = .ref b ∧ H a = some (dTx P w a xs) ∧ (∀ q ∈ xs, SqT K H q.2.1 (q.1.map kV)) ∧
  SqT K H b (k.map kV) ∧ xs.length < sizeLine ∧ ∀ u, L2.RelV v u → Q (upd H a (dTx P w a (putX xs k b u)))
theorem set_dictX (hu : X.A.units + 1 < cLine) : PSet X (rSetX X.prog X.w X.K) := by
  rintro pins s σ H o i v ov iv u Q I ro ri rv ⟨a, xs, k, b, rfl, rfl, e, hk, hb, hl, q⟩
  cases ro
  cases ri
  obtain ⟨hd, hz, dd⟩ := dTx_at I e hk
  refine wpAny_setItem_heap (hsz := hz) (tupleKind_room_in1 hu) (key_at I hb) dd fun h' dd' hs => ⟨_, ?_, q u rv⟩
  obtain ⟨o, es, ep, ho, h2, h3, h4, _, h5⟩ := dd'
  refine d_write I (by rw [e]; exact True.intro) hs ⟨o, ho⟩ (dTx_ok hd ?_ ⟨o, es, ep, ho, h2, h3, h4, h5⟩)
  unfold putX storedH
  split
  · rw [List.length_map]; exact hz
  · rw [List.length_append]; exact hl
def rSetK : V → V → V → Hp → (Hp → Prop) → Prop := fun o i v H Q => ∃ a H', o = .ref a ∧ DPut H a i v H' ∧ Q H'
theorem set_dictK (hu : X.A.units + 1 < cLine) : PSet X rSetK := by
  rintro pins s σ H o i v ov iv u Q I ro ri rv ⟨a, H', rfl, g, q⟩
  cases ro
  exact d_setItem hu I g ri rv fun s' I' => ⟨H', I', q⟩
theorem set_or {t t' : TSet} (h : PSet X t) (k : PSet X t') : PSet X (fun o i v H Q => t o i v H Q ∨ t' o i v H Q) := fun pins s σ H o i v ov iv u Q I ro ri rv q =>
  q.elim (h pins s σ H o i v ov iv u Q I ro ri rv) (k pins s σ H o i v ov iv u Q I ro ri rv)
def tNewX (P : Program) (w : World) : TE := fun _ H Q => ∀ p, H p = none → Q (.ref p) (upd H p (dTx P w p []))
theorem pe_newX {pos : Pos} : PE X (.Dict [] [] pos) (tNewX X.prog X.w) := ⟨fun pins s σ H Q I h =>
  wpAny_Dict_empty ⟨.ref s.heap.objs.size, _, I.laid (a := s.heap.objs.size) (o := dTx X.prog X.w s.heap.objs.size []) (t' := s.toks) (fun _ _ q => Heap.get?_push_of_some _ q) (Nat.le_refl _)
    (dTx_ok (beq_eq_false_iff_ne.mpr (Ne.symm (Nat.ne_of_lt I.big))) (Nat.zero_le _) ⟨_, #[], 0, Heap.get?_push_size _ rfl, ⟨rfl, rfl, rfl⟩, rfl, rfl, List.nodup_nil⟩), rfl, h _ (I.hok.fresh (Nat.le_refl _))⟩⟩
end
end EV
end
section
set_option Elab.async false
set_option linter.all false
set_option maxRecDepth 100000
set_option maxHeartbeats 4000000
/-! EV, part b: how trees and the store lie in the layer's heap. -/
namespace EV
open L2 (V HO Hp upd upd_same upd_ne SqT SqL Rd Key Cx Ends TE TT TA TS TG TI PE PT PA PS PSs PG PI VK XK WX)
open PySem PySem.Spec

/-- where the text's classes stand, how its fields are called -/
structure Zt where
  P : Program
  w : World
  cA : Nat → Addr
  fN : Nat → Str
/-- where the store's objects stand; what nobody may name -/
structure Wl where
  l : List (Option Addr)
  hid : List Addr
def Wl.hide (w : Wl) (p : Addr) : Wl := ⟨w.l, p :: w.hid⟩
def Wl.push (w : Wl) (p : Addr) : Wl := ⟨w.l ++ [some p], w.hid⟩
def Out (w : Wl) (a : Addr) : Prop := (∀ n : Nat, w.l[n]? ≠ some (some a)) ∧ a ∉ w.hid

def keyD : Key → D
  | .inl i => .int i
  | .inr x => .str x
def keysD (k : List Key) : D := .tup (k.map keyD)

section
variable (K : PySem.W.Frag) (Z : Zt) (w : Wl) (H : Hp)
mutual
def Rep : D → V → Prop
  | .non, v => v = .non
  | .bl b, v => v = .bl b
  | .int i, v => v = .int i
  | .str x, v => v = .str x
  | .tup ds, v => ∃ a xs, v = .ref a ∧ SqT K H a xs ∧ Reps ds xs
  | .fl ds, v => ∃ a xs, v = .ref a ∧ Out w a ∧ H a = some (.lst xs) ∧ Reps ds xs
  | .sl ds, v => ∃ a xs, v = .ref a ∧ (Out w a ∧ Rd H a (.lst xs) ∨ ∀ J : Hp, SqL K J a xs) ∧ Reps ds xs
  | .fd t ks vs, v => ∃ a, v = .ref a ∧ Out w a ∧
      ((t = true ∧ ∃ (xs : List Entry) (us : List V), H a = some (dTx Z.P Z.w a xs) ∧ ks = xs.map (fun q => keysD q.1) ∧ (∀ q ∈ xs, SqT K H q.2.1 (q.1.map L2.kV)) ∧ L2.Vals us (xs.map (·.2.2)) ∧ Reps vs us) ∨
       (t = false ∧ ∃ kvs : List (Key × V), H a = some (.dK kvs) ∧ ks = kvs.map (fun p => keyD p.1) ∧ Reps vs (kvs.map (·.2))))
  | .obj c ns vs, v => ∃ a dx fs, v = .ref a ∧ Out w a ∧ H a = some (.ins (Z.cA c) dx fs) ∧ fs.map (·.1) = ns.map Z.fN ∧ Reps vs (fs.map (·.2))
  | .ref n, v => ∃ a o, v = .ref a ∧ w.l[n]? = some o ∧ ∀ b, o = some b → b = a
def Reps : List D → List V → Prop
  | [], vs => vs = []
  | d :: ds, vs => ∃ v r, vs = v :: r ∧ Rep d v ∧ Reps ds r
end
/-- what stands at n in the store -/
def ORep (a : Addr) : O → Prop
  | .dead => False
  | .lst ds => ∃ xs, H a = some (.lst xs) ∧ Reps K Z w H ds xs
  | .dict t ks vs => (t = true ∧ ∃ (xs : List Entry) (us : List V), H a = some (dTx Z.P Z.w a xs) ∧ ks = xs.map (fun q => keysD q.1) ∧ (∀ q ∈ xs, SqT K H q.2.1 (q.1.map L2.kV)) ∧ L2.Vals us (xs.map (·.2.2)) ∧ Reps K Z w H vs us) ∨
       (t = false ∧ ∃ kvs : List (Key × V), H a = some (.dK kvs) ∧ ks = kvs.map (fun p => keyD p.1) ∧ Reps K Z w H vs (kvs.map (·.2)))
  | .ins c ns vs => ∃ dx fs, H a = some (.ins (Z.cA c) dx fs) ∧ fs.map (·.1) = ns.map Z.fN ∧ Reps K Z w H vs (fs.map (·.2))
structure SRel (S : Store) : Prop where
  len : w.l.length = S.length
  inj : ∀ (n m : Nat) (a : Addr), w.l[n]? = some (some a) → w.l[m]? = some (some a) → n = m
  apart : ∀ (n : Nat) (a : Addr), w.l[n]? = some (some a) → a ∉ w.hid
  there : ∀ a ∈ w.hid, ∃ o, H a = some o ∧ (∀ xs, o ≠ .tup xs) ∧ ∀ q x, o ≠ .frz q x
  obj : ∀ (n : Nat) (o : O), S[n]? = some o → (o = .dead ∧ w.l[n]? = some none) ∨ ∃ a, w.l[n]? = some (some a) ∧ ORep K Z w H a o
structure ERel (r : Env) (σ : L2.St) : Prop where
  len : r.length = σ.length
  at_ : ∀ (i : Nat) (d : D), r[i]? = some (some d) → ∃ v, σ[i]? = some (some v) ∧ Rep K Z w H d v
structure Rel (S : Store) (r : Env) (σ : L2.St) : Prop where
  s : SRel K Z w H S
  e : ERel K Z w H r σ
end
/-- what is told of trees stays true -/
structure Ext (K : PySem.W.Frag) (w : Wl) (H : Hp) (w' : Wl) (H' : Hp) : Prop where
  tup : ∀ a xs, SqT K H a xs → SqT K H' a xs
  keep : ∀ a o, H a = some o → Out w a → H' a = some o ∧ Out w' a
  ref : ∀ (n : Nat) (o : Option Addr), w.l[n]? = some o → ∃ q, w'.l[n]? = some q ∧ ∀ b, q = some b → o = some b
  dom : ∀ a, H' a = none → H a = none
/-- what may become of the world and the heap -/
structure Post (K : PySem.W.Frag) (w : Wl) (H : Hp) (w' : Wl) (H' : Hp) : Prop extends Ext K w H w' H' where
  hid : w'.hid = w.hid
  still : ∀ a ∈ w.hid, H' a = H a
  fresh : ∀ (n : Nat) (a : Addr), w.l.length ≤ n → w'.l[n]? = some (some a) → H a = none

variable {K : PySem.W.Frag} {Z : Zt} {w w1 w2 w3 : Wl} {H H1 H2 H3 : Hp} {S S1 : Store} {r : Env} {σ : L2.St}
theorem Ext.rfl : Ext K w H w H := ⟨fun _ _ h => h, fun _ _ h o => ⟨h, o⟩, fun _ o h => ⟨o, h, fun _ e => e⟩, fun _ h => h⟩
theorem Ext.trans (p : Ext K w H w1 H1) (q : Ext K w1 H1 w2 H2) : Ext K w H w2 H2 where
  tup a xs h := q.tup a xs (p.tup a xs h)
  keep a o h u := let z := p.keep a o h u; q.keep a o z.1 z.2
  ref n o h := by
    obtain ⟨o1, h1, e1⟩ := p.ref n o h
    obtain ⟨o2, h2, e2⟩ := q.ref n o1 h1
    exact ⟨o2, h2, fun b e => e1 b (e2 b e)⟩
  dom a h := p.dom a (q.dom a h)
theorem upd_dom {H : Hp} {a : Addr} {o : HO} : ∀ b, upd H a o b = none → H b = none := fun b h => by
  by_cases e : b = a
  · subst e; rw [upd_same] at h; cases h
  · rw [upd_ne e] at h; exact h
theorem lt_of_get0 {α : Type} {l : List α} {n : Nat} {a : α} (h : l[n]? = some a) : n < l.length := (List.getElem?_eq_some_iff.mp h).1
theorem Post.rfl : Post K w H w H := ⟨Ext.rfl, Eq.refl _, fun _ _ => Eq.refl _, fun n a hn e => absurd (lt_of_get0 e) (Nat.not_lt.mpr hn)⟩
theorem fresh_trans {w w1 w2 : Wl} {H H1 : Hp} (l1 : ∀ (n : Nat) (o : Option Addr), w1.l[n]? = some o → ∃ q, w2.l[n]? = some q ∧ ∀ b, q = some b → o = some b) (d1 : ∀ a, H1 a = none → H a = none)
    (f1 : ∀ (n : Nat) (a : Addr), w.l.length ≤ n → w1.l[n]? = some (some a) → H a = none) (f2 : ∀ (n : Nat) (a : Addr), w1.l.length ≤ n → w2.l[n]? = some (some a) → H1 a = none) (n : Nat) (a : Addr) (hn : w.l.length ≤ n) (e : w2.l[n]? = some (some a)) : H a = none := by
  by_cases h : w1.l.length ≤ n
  · exact d1 a (f2 n a h e)
  · have hl : n < w1.l.length := Nat.lt_of_not_le h
    obtain ⟨q, hq, hb⟩ := l1 n w1.l[n] (List.getElem?_eq_getElem hl)
    rw [e] at hq
    cases hq
    exact f1 n a hn (by rw [List.getElem?_eq_getElem hl, hb a (Eq.refl _)])
theorem Post.trans (p : Post K w H w1 H1) (q : Post K w1 H1 w2 H2) : Post K w H w2 H2 :=
  ⟨p.toExt.trans q.toExt, q.hid.trans p.hid, fun a h => (q.still a (by rw [p.hid]; exact h)).trans (p.still a h), fresh_trans q.ref p.dom p.fresh q.fresh⟩

theorem lt_of_get {α : Type} {l : List α} {n : Nat} {a : α} (h : l[n]? = some a) : n < l.length := (List.getElem?_eq_some_iff.mp h).1
theorem get_of_lt {α : Type} {l : List α} {n : Nat} (h : n < l.length) : ∃ a, l[n]? = some a := ⟨l[n], List.getElem?_eq_getElem h⟩

mutual
theorem Rep.mono (p : Ext K w H w1 H1) : ∀ {d : D} {v : V}, Rep K Z w H d v → Rep K Z w1 H1 d v
  | .non, _, h => by simpa [Rep] using h
  | .bl _, _, h => by simpa [Rep] using h
  | .int _, _, h => by simpa [Rep] using h
  | .str _, _, h => by simpa [Rep] using h
  | .tup ds, v, h => by
    rw [Rep] at h ⊢
    obtain ⟨a, xs, e, q, t⟩ := h
    exact ⟨a, xs, e, p.tup a xs q, Reps.mono p t⟩
  | .fl ds, v, h => by
    rw [Rep] at h ⊢
    obtain ⟨a, xs, e, u, q, t⟩ := h
    exact ⟨a, xs, e, (p.keep a _ q u).2, (p.keep a _ q u).1, Reps.mono p t⟩
  | .sl ds, v, h => by
    rw [Rep] at h ⊢
    obtain ⟨a, xs, e, q, t⟩ := h
    refine ⟨a, xs, e, ?_, Reps.mono p t⟩
    rcases q with ⟨u, q | ⟨o, q⟩⟩ | q
    · exact .inl ⟨(p.keep a _ q u).2, .inl (p.keep a _ q u).1⟩
    · exact .inl ⟨(p.keep a _ q u).2, .inr ⟨o, (p.keep a _ q u).1⟩⟩
    · exact .inr q
  | .fd t ks vs, v, h => by
    rw [Rep] at h ⊢
    obtain ⟨a, e, u, q⟩ := h
    rcases q with ⟨ht, xs, us, q1, q2, q3, q4, q5⟩ | ⟨ht, kvs, q1, q2, q3⟩
    · exact ⟨a, e, (p.keep a _ q1 u).2, .inl ⟨ht, xs, us, (p.keep a _ q1 u).1, q2, fun y m => p.tup _ _ (q3 y m), q4, Reps.mono p q5⟩⟩
    · exact ⟨a, e, (p.keep a _ q1 u).2, .inr ⟨ht, kvs, (p.keep a _ q1 u).1, q2, Reps.mono p q3⟩⟩
  | .obj c ns vs, v, h => by
    rw [Rep] at h ⊢
    obtain ⟨a, dx, fs, e, u, q, q2, q3⟩ := h
    exact ⟨a, dx, fs, e, (p.keep a _ q u).2, (p.keep a _ q u).1, q2, Reps.mono p q3⟩
  | .ref n, v, h => by
    rw [Rep] at h ⊢
    obtain ⟨a, o, e, q, u⟩ := h
    obtain ⟨o1, h1, e1⟩ := p.ref n o q
    exact ⟨a, o1, e, h1, fun b hb => u b (e1 b hb)⟩
theorem Reps.mono (p : Ext K w H w1 H1) : ∀ {ds : List D} {vs : List V}, Reps K Z w H ds vs → Reps K Z w1 H1 ds vs
  | [], _, h => by rw [Reps] at h ⊢; exact h
  | d :: ds, vs, h => by
    rw [Reps] at h ⊢
    obtain ⟨v, q, e, h1, h2⟩ := h
    exact ⟨v, q, e, Rep.mono p h1, Reps.mono p h2⟩
end

theorem Reps.len : ∀ {ds : List D} {vs : List V}, Reps K Z w H ds vs → ds.length = vs.length
  | [], _, h => by rw [Reps] at h; subst h; rfl
  | d :: ds, _, h => by
    rw [Reps] at h
    obtain ⟨v, q, e, _, h2⟩ := h
    subst e
    simp [Reps.len h2]
theorem Reps.get : ∀ {ds : List D} {vs : List V} {i : Nat} {d : D}, Reps K Z w H ds vs → ds[i]? = some d → ∃ v, vs[i]? = some v ∧ Rep K Z w H d v
  | [], _, _, _, _, e => by simp at e
  | d :: ds, _, 0, _, h, e => by
    rw [Reps] at h
    obtain ⟨v, q, rfl, h1, _⟩ := h
    simp at e
    subst e
    exact ⟨v, rfl, h1⟩
  | d :: ds, _, i + 1, _, h, e => by
    rw [Reps] at h
    obtain ⟨v, q, rfl, _, h2⟩ := h
    simpa using Reps.get (i := i) h2 (by simpa using e)
theorem Reps.app : ∀ {ds : List D} {vs : List V} {es : List D} {us : List V}, Reps K Z w H ds vs → Reps K Z w H es us → Reps K Z w H (ds ++ es) (vs ++ us)
  | [], _, _, _, h, k => by rw [Reps] at h; subst h; exact k
  | d :: ds, _, _, _, h, k => by
    rw [Reps] at h
    obtain ⟨v, q, rfl, h1, h2⟩ := h
    rw [List.cons_append, List.cons_append, Reps]
    exact ⟨v, _, rfl, h1, Reps.app h2 k⟩
theorem Reps.one {d : D} {v : V} (h : Rep K Z w H d v) : Reps K Z w H [d] [v] := by rw [Reps]; exact ⟨v, [], rfl, h, by rw [Reps]⟩
theorem Reps.nil : Reps K Z w H [] [] := by rw [Reps]
theorem Reps.cons {d : D} {v : V} {ds : List D} {vs : List V} (h : Rep K Z w H d v) (k : Reps K Z w H ds vs) : Reps K Z w H (d :: ds) (v :: vs) := by rw [Reps]; exact ⟨v, vs, rfl, h, k⟩
theorem Reps.take : ∀ {ds : List D} {vs : List V} (n : Nat), Reps K Z w H ds vs → Reps K Z w H (ds.take n) (vs.take n)
  | _, _, 0, _ => by simp [Reps]
  | [], _, n + 1, h => by rw [Reps] at h; subst h; simp [Reps]
  | d :: ds, _, n + 1, h => by
    rw [Reps] at h
    obtain ⟨v, q, rfl, h1, h2⟩ := h
    exact Reps.cons h1 (Reps.take n h2)
theorem Reps.drop : ∀ {ds : List D} {vs : List V} (n : Nat), Reps K Z w H ds vs → Reps K Z w H (ds.drop n) (vs.drop n)
  | _, _, 0, h => h
  | [], _, n + 1, h => by rw [Reps] at h; subst h; simp [Reps]
  | d :: ds, _, n + 1, h => by
    rw [Reps] at h
    obtain ⟨v, q, rfl, h1, h2⟩ := h
    exact Reps.drop n h2
theorem Reps.set {d : D} {v : V} (hd : Rep K Z w H d v) : ∀ {ds : List D} {vs : List V} (n : Nat), Reps K Z w H ds vs → Reps K Z w H (ds.set n d) (vs.set n v)
  | [], _, n, h => by rw [Reps] at h; subst h; simp [Reps]
  | e :: ds, _, 0, h => by
    rw [Reps] at h
    obtain ⟨u, q, rfl, h1, h2⟩ := h
    exact Reps.cons hd h2
  | e :: ds, _, n + 1, h => by
    rw [Reps] at h
    obtain ⟨u, q, rfl, h1, h2⟩ := h
    exact Reps.cons h1 (Reps.set hd n h2)
theorem Reps.rev {ds : List D} {vs : List V} (h : Reps K Z w H ds vs) : Reps K Z w H ds.reverse vs.reverse := by
  induction ds generalizing vs with
  | nil => rw [Reps] at h; subst h; simp [Reps]
  | cons d ds ih =>
    rw [Reps] at h
    obtain ⟨v, q, rfl, h1, h2⟩ := h
    simpa using Reps.app (ih h2) (Reps.one h1)
theorem Reps.cut {ds : List D} {vs : List V} (lo hi : Option Int) (h : Reps K Z w H ds vs) : Reps K Z w H (cut ds lo hi) (cut vs lo hi) := by
  unfold EV.cut
  rw [Reps.len h]
  exact Reps.take _ (Reps.drop _ h)
theorem Reps.rep {ds : List D} {vs : List V} (h : Reps K Z w H ds vs) : ∀ n : Nat, Reps K Z w H (List.replicate n ds).flatten (List.replicate n vs).flatten
  | 0 => by simp [Reps]
  | n + 1 => by
    simp only [List.replicate_succ, List.flatten_cons]
    exact Reps.app h (Reps.rep h n)

theorem ORep.mono {a : Addr} {o : O} (p : Ext K w H w1 H1) (e : H1 a = H a) (h : ORep K Z w H a o) : ORep K Z w1 H1 a o := by
  cases o with
  | dead => exact h
  | lst ds =>
    obtain ⟨xs, h1, h2⟩ := h
    exact ⟨xs, e.trans h1, Reps.mono p h2⟩
  | dict t ks vs =>
    rcases h with ⟨t1, xs, us, h1, h2, h3, h4, h5⟩ | ⟨t1, kvs, h1, h2, h3⟩
    · exact .inl ⟨t1, xs, us, e.trans h1, h2, fun y m => p.tup _ _ (h3 y m), h4, Reps.mono p h5⟩
    · exact .inr ⟨t1, kvs, e.trans h1, h2, Reps.mono p h3⟩
  | ins c ns vs =>
    obtain ⟨dx, fs, h1, h2, h3⟩ := h
    exact ⟨dx, fs, e.trans h1, h2, Reps.mono p h3⟩
theorem ORep.there {a : Addr} {o : O} (h : ORep K Z w H a o) : ∃ u, H a = some u ∧ (∀ xs, u ≠ .tup xs) ∧ ∀ q x, u ≠ .frz q x := by
  cases o with
  | dead => exact h.elim
  | lst ds =>
    obtain ⟨xs, h1, h2⟩ := h
    exact ⟨_, h1, fun _ z => (by cases z), fun _ _ z => (by cases z)⟩
  | dict t ks vs =>
    rcases h with ⟨t1, xs, us, h1, h2, h3, h4, h5⟩ | ⟨t1, kvs, h1, h2, h3⟩
    · exact ⟨_, h1, fun _ z => (by cases z), fun _ _ z => (by cases z)⟩
    · exact ⟨_, h1, fun _ z => (by cases z), fun _ _ z => (by cases z)⟩
  | ins c ns vs =>
    obtain ⟨dx, fs, h1, h2, h3⟩ := h
    exact ⟨_, h1, fun _ z => (by cases z), fun _ _ z => (by cases z)⟩
theorem ERel.mono (p : Ext K w H w1 H1) (h : ERel K Z w H r σ) : ERel K Z w1 H1 r σ :=
  ⟨h.len, fun i d e => let ⟨v, a, b⟩ := h.at_ i d e; ⟨v, a, Rep.mono p b⟩⟩
theorem SRel.mono (h : SRel K Z w H S) (p : Post K w H w H1) (e : ∀ (n : Nat) (a : Addr), w.l[n]? = some (some a) → H1 a = H a) : SRel K Z w H1 S :=
  ⟨h.len, h.inj, h.apart, fun a m => by rw [p.still a m]; exact h.there a m, fun n o z => by
    rcases h.obj n o z with q | ⟨a, q, u⟩
    · exact .inl q
    · exact .inr ⟨a, q, u.mono p.toExt (e n a q)⟩⟩
/-- where an address of the store is, something stands -/
theorem SRel.some_ {n : Nat} {a : Addr} (h : SRel K Z w H S) (e : w.l[n]? = some (some a)) : ∃ u, H a = some u ∧ (∀ xs, u ≠ .tup xs) ∧ ∀ q x, u ≠ .frz q x := by
  obtain ⟨ob, hb⟩ := get_of_lt (l := S) (n := n) (by rw [← h.len]; exact lt_of_get e)
  rcases h.obj n ob hb with ⟨_, q⟩ | ⟨b, q, u⟩
  · rw [e] at q; cases q
  · rw [e] at q
    cases q
    exact u.there
/-- a new object that nobody has seen -/
theorem Post.new {p : Addr} {o : HO} (h : SRel K Z w H S) (hp : H p = none) : Post K w H w (upd H p o) := by
  refine ⟨⟨fun a xs h => ?_, fun a u h k => ⟨by rw [upd_ne (fun e => by rw [e, hp] at h; cases h)]; exact h, k⟩, fun _ o h => ⟨o, h, fun _ e => e⟩, upd_dom⟩, Eq.refl _, fun a m => ?_, fun n a hn e => absurd (lt_of_get0 e) (Nat.not_lt.mpr hn)⟩
  · rcases h with (h | ⟨q, h⟩) | h
    · exact .inl (.inl (by rw [upd_ne (fun e => by rw [e, hp] at h; cases h)]; exact h))
    · exact .inl (.inr ⟨q, by rw [upd_ne (fun e => by rw [e, hp] at h; cases h)]; exact h⟩)
    · exact .inr h
  · obtain ⟨u, hu, _⟩ := h.there a m
    exact upd_ne fun e => by rw [e, hp] at hu; cases hu
theorem SRel.new {p : Addr} {o : HO} (h : SRel K Z w H S) (hp : H p = none) : SRel K Z w (upd H p o) S :=
  h.mono (Post.new h hp) fun n a e => upd_ne fun z => by
    obtain ⟨u, hu, _⟩ := h.some_ e
    rw [z, hp] at hu; cases hu
theorem SRel.out_new {p : Addr} (h : SRel K Z w H S) (hp : H p = none) : Out w p := by
  refine ⟨fun n e => ?_, fun m => ?_⟩
  · obtain ⟨u, hu, _⟩ := h.some_ e
    rw [hp] at hu; cases hu
  · obtain ⟨u, hu, _⟩ := h.there p m
    rw [hp] at hu; cases hu
/-- an object of the store is written -/
theorem SRel.post {n : Nat} {a : Addr} {u : HO} (h : SRel K Z w H S) (ha : w.l[n]? = some (some a)) : Post K w H w (upd H a u) := by
  obtain ⟨x, hx, n1, n2⟩ := h.some_ ha
  refine ⟨⟨fun b xs q => ?_, fun b y q k => ⟨by rw [upd_ne fun e => k.1 n (by rw [ha, e])]; exact q, k⟩, fun _ o h => ⟨o, h, fun _ e => e⟩, upd_dom⟩, Eq.refl _, fun b m => upd_ne fun e => h.apart n a ha (by rw [← e]; exact m), fun n a hn e => absurd (lt_of_get0 e) (Nat.not_lt.mpr hn)⟩
  rcases q with (q | ⟨z, q⟩) | q
  · exact .inl (.inl (by rw [upd_ne fun e => by rw [e, hx] at q; exact n1 _ (Option.some.inj q)]; exact q))
  · exact .inl (.inr ⟨z, by rw [upd_ne fun e => by rw [e, hx] at q; exact n2 _ _ (Option.some.inj q)]; exact q⟩)
  · exact .inr q
theorem SRel.write {n : Nat} {a : Addr} {u : HO} {o : O} (h : SRel K Z w H S) (ha : w.l[n]? = some (some a)) (hu : ORep K Z w (upd H a u) a o) : SRel K Z w (upd H a u) (S.set n o) := by
  have hn : n < S.length := by rw [← h.len]; exact lt_of_get ha
  have ps := h.post (u := u) ha
  refine ⟨by rw [List.length_set]; exact h.len, h.inj, h.apart, fun b m => by rw [ps.still b m]; exact h.there b m, fun m ob q => ?_⟩
  by_cases e : m = n
  · subst e
    rw [List.getElem?_set_self hn] at q
    cases q
    exact .inr ⟨a, ha, hu⟩
  · rw [List.getElem?_set_ne (Ne.symm e)] at q
    rcases h.obj m ob q with z | ⟨b, z, k⟩
    · exact .inl z
    · exact .inr ⟨b, z, k.mono ps.toExt (upd_ne fun y => e (h.inj m n a (by rw [z, y]) ha))⟩
/-- what a reference stands for -/
theorem SRel.at_ {n : Nat} {o : O} {v : V} (h : SRel K Z w H S) (hr : Rep K Z w H (.ref n) v) (ho : S[n]? = some o) (hd : o ≠ .dead) : ∃ a, v = .ref a ∧ w.l[n]? = some (some a) ∧ ORep K Z w H a o := by
  rw [Rep] at hr
  obtain ⟨a, q, e, k, z⟩ := hr
  rcases h.obj n o ho with ⟨y, _⟩ | ⟨b, y, u⟩
  · exact absurd y hd
  · rw [k] at y
    cases y
    have := z b (Eq.refl _)
    subst this
    exact ⟨b, e, k, u⟩

/-! ### other worlds over the same heap -/
mutual
/-- .. where nothing refers into the store -/
theorem Rep.other (f : ∀ a, Out w a → Out w1 a) : ∀ {d : D} {v : V}, d.rf = true → Rep K Z w H d v → Rep K Z w1 H d v
  | .non, _, _, h => by simpa [Rep] using h
  | .bl _, _, _, h => by simpa [Rep] using h
  | .int _, _, _, h => by simpa [Rep] using h
  | .str _, _, _, h => by simpa [Rep] using h
  | .tup ds, v, z, h => by
    rw [Rep] at h ⊢
    rw [D.rf] at z
    obtain ⟨a, xs, e, q, t⟩ := h
    exact ⟨a, xs, e, q, Reps.other f z t⟩
  | .fl ds, v, z, h => by
    rw [Rep] at h ⊢
    rw [D.rf] at z
    obtain ⟨a, xs, e, u, q, t⟩ := h
    exact ⟨a, xs, e, f a u, q, Reps.other f z t⟩
  | .sl ds, v, z, h => by
    rw [Rep] at h ⊢
    rw [D.rf] at z
    obtain ⟨a, xs, e, q, t⟩ := h
    exact ⟨a, xs, e, q.imp (fun z => ⟨f a z.1, z.2⟩) (fun z => z), Reps.other f z t⟩
  | .fd t ks vs, v, z, h => by
    rw [Rep] at h ⊢
    rw [D.rf, Bool.and_eq_true] at z
    obtain ⟨a, e, u, q⟩ := h
    rcases q with ⟨ht, xs, us, q1, q2, q3, q4, q5⟩ | ⟨ht, kvs, q1, q2, q3⟩
    · exact ⟨a, e, f a u, .inl ⟨ht, xs, us, q1, q2, q3, q4, Reps.other f z.2 q5⟩⟩
    · exact ⟨a, e, f a u, .inr ⟨ht, kvs, q1, q2, Reps.other f z.2 q3⟩⟩
  | .obj c ns vs, v, z, h => by
    rw [Rep] at h ⊢
    rw [D.rf] at z
    obtain ⟨a, dx, fs, e, u, q, q2, q3⟩ := h
    exact ⟨a, dx, fs, e, f a u, q, q2, Reps.other f z q3⟩
  | .ref n, v, z, h => by
    rw [D.rf] at z
    cases z
theorem Reps.other (f : ∀ a, Out w a → Out w1 a) : ∀ {ds : List D} {vs : List V}, D.rfs ds = true → Reps K Z w H ds vs → Reps K Z w1 H ds vs
  | [], _, _, h => by rw [Reps] at h ⊢; exact h
  | d :: ds, vs, z, h => by
    rw [Reps] at h ⊢
    rw [D.rfs, Bool.and_eq_true] at z
    obtain ⟨v, q, e, h1, h2⟩ := h
    exact ⟨v, q, e, Rep.other f z.1 h1, Reps.other f z.2 h2⟩
end
theorem ORep.other {a : Addr} {o : O} (f : ∀ a, Out w a → Out w1 a) (z : o.rf = true) (h : ORep K Z w H a o) : ORep K Z w1 H a o := by
  cases o with
  | dead => exact h
  | lst ds =>
    obtain ⟨xs, h1, h2⟩ := h
    exact ⟨xs, h1, Reps.other f z h2⟩
  | dict t ks vs =>
    have z2 : D.rfs vs = true := (Bool.and_eq_true_iff.mp z).2
    rcases h with ⟨t1, xs, us, h1, h2, h3, h4, h5⟩ | ⟨t1, kvs, h1, h2, h3⟩
    · exact .inl ⟨t1, xs, us, h1, h2, h3, h4, Reps.other f z2 h5⟩
    · exact .inr ⟨t1, kvs, h1, h2, Reps.other f z2 h3⟩
  | ins c ns vs =>
    obtain ⟨dx, fs, h1, h2, h3⟩ := h
    exact ⟨dx, fs, h1, h2, Reps.other f z h3⟩
theorem out_of_hide {p a : Addr} (h : Out (w.hide p) a) : Out w a := ⟨h.1, fun m => h.2 (List.mem_cons_of_mem _ m)⟩
theorem out_hide {p a : Addr} (h : Out w a) (e : a ≠ p) : Out (w.hide p) a := ⟨h.1, fun m => (List.mem_cons.mp m).elim e h.2⟩
theorem Ext.unhide {p : Addr} : Ext K (w.hide p) H w H := ⟨fun _ _ h => h, fun _ _ h o => ⟨h, out_of_hide o⟩, fun _ o h => ⟨o, h, fun _ e => e⟩, fun _ h => h⟩
theorem SRel.unhide {p : Addr} (h : SRel K Z (w.hide p) H S) : SRel K Z w H S :=
  ⟨h.len, h.inj, fun n a e m => h.apart n a e (List.mem_cons_of_mem _ m), fun a m => h.there a (List.mem_cons_of_mem _ m), fun n o e => (h.obj n o e).imp id fun ⟨a, x, y⟩ => ⟨a, x, y.mono Ext.unhide (Eq.refl _)⟩⟩
/-- the heap grows at p, which is hidden from then on -/
theorem Ext.hide {p : Addr} {o : HO} (h : SRel K Z w H S) (hp : H p = none) : Ext K w H (w.hide p) (upd H p o) :=
  have q : Post K w H w (upd H p o) := Post.new h hp
  ⟨q.tup, fun a u e k => ⟨(q.keep a u e k).1, out_hide k fun z => by rw [z, hp] at e; cases e⟩, q.ref, q.dom⟩
theorem SRel.hide {p : Addr} {o : HO} (h : SRel K Z w H S) (hp : H p = none) (n1 : ∀ xs, o ≠ .tup xs) (n2 : ∀ q x, o ≠ .frz q x) : SRel K Z (w.hide p) (upd H p o) S := by
  have np : ∀ (n : Nat) (a : Addr), w.l[n]? = some (some a) → a ≠ p := fun n a e z => by
    obtain ⟨u, hu, _⟩ := h.some_ e
    rw [z, hp] at hu; cases hu
  refine ⟨h.len, h.inj, fun n a e m => (List.mem_cons.mp m).elim (np n a e) (h.apart n a e), fun a m => ?_, fun n ob e => ?_⟩
  · rcases List.mem_cons.mp m with z | z
    · subst z
      exact ⟨o, upd_same, n1, n2⟩
    · obtain ⟨u, hu, k⟩ := h.there a z
      exact ⟨u, by rw [upd_ne fun e => by rw [e, hp] at hu; cases hu]; exact hu, k⟩
  · rcases h.obj n ob e with z | ⟨a, z, k⟩
    · exact .inl z
    · exact .inr ⟨a, z, k.mono (Ext.hide h hp) (upd_ne (np n a z))⟩
/-- the hidden one is written -/
theorem SRel.grow {p : Addr} {o u : HO} (h : SRel K Z (w.hide p) H S) (hp : H p = some o) (n1 : ∀ xs, u ≠ .tup xs) (n2 : ∀ q x, u ≠ .frz q x) :
    SRel K Z (w.hide p) (upd H p u) S ∧ Ext K (w.hide p) H (w.hide p) (upd H p u) := by
  obtain ⟨x, hx, m1, m2⟩ := h.there p List.mem_cons_self
  have ex : Ext K (w.hide p) H (w.hide p) (upd H p u) := by
    refine ⟨fun b xs q => ?_, fun b y q k => ⟨by rw [upd_ne fun e => k.2 (by rw [e]; exact List.mem_cons_self)]; exact q, k⟩, fun _ o h => ⟨o, h, fun _ e => e⟩, upd_dom⟩
    rcases q with (q | ⟨z, q⟩) | q
    · exact .inl (.inl (by rw [upd_ne fun e => by rw [e, hx] at q; exact m1 _ (Option.some.inj q)]; exact q))
    · exact .inl (.inr ⟨z, by rw [upd_ne fun e => by rw [e, hx] at q; exact m2 _ _ (Option.some.inj q)]; exact q⟩)
    · exact .inr q
  refine ⟨⟨h.len, h.inj, h.apart, fun a m => ?_, fun n ob e => ?_⟩, ex⟩
  · by_cases z : a = p
    · subst z
      exact ⟨u, upd_same, n1, n2⟩
    · rw [upd_ne z]
      exact h.there a m
  · rcases h.obj n ob e with z | ⟨a, z, k⟩
    · exact .inl z
    · exact .inr ⟨a, z, k.mono ex (upd_ne fun y => h.apart n a z (by rw [y]; exact List.mem_cons_self))⟩
/-- the hidden one comes into the store -/
theorem Ext.push {p : Addr} : Ext K (w.hide p) H (w.push p) H := by
  refine ⟨fun _ _ h => h, fun a _ h o => ⟨h, fun n e => ?_, fun m => o.2 (List.mem_cons_of_mem _ m)⟩, fun n o h => ⟨o, ?_, fun _ e => e⟩, fun _ h => h⟩
  · have e : (w.l ++ [some p])[n]? = some (some a) := e
    rcases Nat.lt_trichotomy n w.l.length with q | q | q
    · rw [List.getElem?_append_left q] at e
      exact o.1 n e
    · subst q
      simp at e
      exact o.2 (by rw [e]; exact List.mem_cons_self)
    · rw [List.getElem?_eq_none (by simp; omega)] at e; cases e
  · have h : w.l[n]? = some o := h
    show (w.l ++ [some p])[n]? = some o
    rw [List.getElem?_append_left (lt_of_get h)]
    exact h
theorem SRel.push {p : Addr} {o : O} (h : SRel K Z (w.hide p) H S) (np : p ∉ w.hid) (ho : ORep K Z (w.hide p) H p o) : SRel K Z (w.push p) H (S ++ [o]) := by
  have cs : ∀ (n : Nat) (b : Option Addr), (w.push p).l[n]? = some b → (w.l[n]? = some b) ∨ (n = w.l.length ∧ b = some p) := fun n b e => by
    have e : (w.l ++ [some p])[n]? = some b := e
    rcases Nat.lt_trichotomy n w.l.length with q | q | q
    · rw [List.getElem?_append_left q] at e; exact .inl e
    · subst q; simp at e; exact .inr ⟨rfl, e.symm⟩
    · rw [List.getElem?_eq_none (by simp; omega)] at e; cases e
  have hl : w.l.length = S.length := h.len
  have ne : ∀ (n : Nat), w.l[n]? ≠ some (some p) := fun n e => h.apart n p e List.mem_cons_self
  refine ⟨by show (w.l ++ [some p]).length = _; simp [hl], fun n m a h1 h2 => ?_, fun n a e m => ?_, fun a m => h.there a (List.mem_cons_of_mem _ m), fun n ob e => ?_⟩
  · rcases cs n _ h1 with a1 | ⟨a1, a2⟩ <;> rcases cs m _ h2 with b1 | ⟨b1, b2⟩
    · exact h.inj n m a a1 b1
    · cases b2; exact absurd a1 (ne n)
    · cases a2; exact absurd b1 (ne m)
    · omega
  · rcases cs n _ e with a1 | ⟨a1, a2⟩
    · exact h.apart n a a1 (List.mem_cons_of_mem _ m)
    · cases a2; exact np m
  · rcases Nat.lt_trichotomy n S.length with z | z | z
    · rw [List.getElem?_append_left z] at e
      have wl : (w.push p).l[n]? = w.l[n]? := List.getElem?_append_left (by rw [hl]; exact z)
      rcases h.obj n ob e with ⟨y1, y2⟩ | ⟨a, y, u⟩
      · exact .inl ⟨y1, by rw [wl]; exact y2⟩
      · exact .inr ⟨a, by rw [wl]; exact y, u.mono Ext.push (Eq.refl _)⟩
    · subst z
      simp at e
      subst e
      exact .inr ⟨p, by show (w.l ++ [some p])[S.length]? = _; rw [← hl]; simp, ho.mono Ext.push (Eq.refl _)⟩
    · rw [List.getElem?_eq_none (by simp; omega)] at e; cases e
/-- an object of the store becomes a tree -/
def Wl.drop (w : Wl) (n : Nat) : Wl := ⟨w.l.set n none, w.hid⟩
theorem drop_l {n m : Nat} {b : Option Addr} (e : (w.drop n).l[m]? = some b) : (m = n ∧ b = none ∧ n < w.l.length) ∨ (m ≠ n ∧ w.l[m]? = some b) := by
  have e : (w.l.set n none)[m]? = some b := e
  by_cases q : m = n
  · subst q
    have hm : m < w.l.length := by simpa using lt_of_get e
    rw [List.getElem?_set_self hm] at e
    exact .inl ⟨rfl, (Option.some.inj e).symm, hm⟩
  · rw [List.getElem?_set_ne (Ne.symm q)] at e
    exact .inr ⟨q, e⟩
theorem Post.drop (n : Nat) : Post K w H (w.drop n) H := by
  refine ⟨⟨fun _ _ h => h, fun a o h k => ⟨h, fun m e => ?_, k.2⟩, fun m o h => ?_, fun _ h => h⟩, Eq.refl _, fun _ _ => Eq.refl _, fun m a hm e => absurd (lt_of_get0 e) (by show ¬ m < (w.l.set n none).length; rw [List.length_set]; exact Nat.not_lt.mpr hm)⟩
  · rcases drop_l e with ⟨_, z, _⟩ | ⟨_, z⟩
    · cases z
    · exact k.1 m z
  · by_cases q : m = n
    · subst q
      exact ⟨none, by show (w.l.set m none)[m]? = _; rw [List.getElem?_set_self (lt_of_get h)], fun _ z => by cases z⟩
    · exact ⟨o, by show (w.l.set n none)[m]? = _; rw [List.getElem?_set_ne (Ne.symm q)]; exact h, fun _ z => z⟩
theorem SRel.drop {n : Nat} (h : SRel K Z w H S) : SRel K Z (w.drop n) H (S.set n .dead) := by
  have cs : ∀ (m : Nat) (a : Addr), (w.drop n).l[m]? = some (some a) → w.l[m]? = some (some a) := fun m a e => by
    rcases drop_l e with ⟨_, z, _⟩ | ⟨_, z⟩
    · cases z
    · exact z
  refine ⟨by show (w.l.set n none).length = _; simp [h.len], fun m k a h1 h2 => h.inj m k a (cs m a h1) (cs k a h2), fun m a e => h.apart m a (cs m a e), h.there, fun m o e => ?_⟩
  by_cases q : m = n
  · subst q
    have hm : m < S.length := by simpa using lt_of_get e
    rw [List.getElem?_set_self hm] at e
    refine .inl ⟨(Option.some.inj e).symm, ?_⟩
    show (w.l.set m none)[m]? = _
    rw [List.getElem?_set_self (by rw [h.len]; exact hm)]
  · rw [List.getElem?_set_ne (Ne.symm q)] at e
    have wl : (w.drop n).l[m]? = w.l[m]? := by show (w.l.set n none)[m]? = _; rw [List.getElem?_set_ne (Ne.symm q)]
    rcases h.obj m o e with ⟨z1, z2⟩ | ⟨a, z, u⟩
    · exact .inl ⟨z1, by rw [wl]; exact z2⟩
    · exact .inr ⟨a, by rw [wl]; exact z, u.mono (Post.drop n).toExt (Eq.refl _)⟩
theorem SRel.out_drop {n : Nat} {a : Addr} (h : SRel K Z w H S) (e : w.l[n]? = some (some a)) : Out (w.drop n) a := by
  refine ⟨fun m z => ?_, h.apart n a e⟩
  rcases drop_l z with ⟨_, y, _⟩ | ⟨k, y⟩
  · cases y
  · exact k (h.inj m n a y e)
end EV
end
section
set_option Elab.async false
set_option linter.all false
set_option maxRecDepth 100000
set_option maxHeartbeats 4000000
/-! EV, part c: what is computed happens: expressions. -/
namespace EV
open L2 (V HO Hp upd upd_same upd_ne SqT SqL Rd Key Cx Ends TE TT TA TS TG TI PE PT PA PS PSs PG PI VK XK WX PC OpR R2 CallR)
open PySem PySem.Spec

section
variable (K : PySem.W.Frag) (Z : Zt)
/-- an exception's own dict bears its attributes -/
def ExcD (w : Wl) (H : Hp) (ns : List Nat) (vs : List D) (d : Option Addr) : Prop :=
  (ns = [] ∧ vs = [] ∧ d = none) ∨ ∃ dd fs, d = some dd ∧ H dd = some (.xd fs) ∧ fs.map (·.1) = ns.map Z.fN ∧ Reps K Z w H vs (fs.map (·.2))
/-- what holds behind a computation, wherever its objects come to stand -/
def Aft {α : Type} (Wx : Value → Option Addr → Hp → Prop) (w : Wl) (S : Store) (H : Hp) (m : M α) (R : α → Wl → Store → Hp → Prop) : Prop :=
  match m S with
  | .ok a S' => ∀ w' H', Post K w H w' H' → SRel K Z w' H' S' → R a w' S' H'
  | .exc c ns vs S' => ∀ w' H' d, Post K w H w' H' → SRel K Z w' H' S' → ExcD K Z w' H' ns vs d → Wx (.ref (Z.cA c)) d H'
  | .bad => False
end
abbrev NoX : Value → Option Addr → Hp → Prop := fun _ _ _ => False

variable {K : PySem.W.Frag} {Z : Zt} {w w1 : Wl} {H H1 : Hp} {S S1 : Store} {r : Env} {σ : L2.St} {α β : Type} {Wx : Value → Option Addr → Hp → Prop}
theorem Aft.seq {m : M α} {k : α → M β} {R : β → Wl → Store → Hp → Prop} (h : Aft K Z Wx w S H (M.seq m k) R) : Aft K Z Wx w S H m fun a w1 S1 H1 => Aft K Z Wx w1 S1 H1 (k a) R := by
  unfold Aft at h ⊢
  unfold M.seq at h
  cases e : m S with
  | ok a S1 =>
    rw [e] at h
    intro w1 H1 p q
    show match k a S1 with | .ok a S' => _ | .exc c ns vs S' => _ | .bad => False
    have h : match k a S1 with
      | .ok a S' => ∀ w' H', Post K w H w' H' → SRel K Z w' H' S' → R a w' S' H'
      | .exc c ns vs S' => ∀ w' H' d, Post K w H w' H' → SRel K Z w' H' S' → ExcD K Z w' H' ns vs d → Wx (.ref (Z.cA c)) d H'
      | .bad => False := h
    cases e2 : k a S1 with
    | ok b S2 => rw [e2] at h; exact fun w2 H2 p2 q2 => h w2 H2 (p.trans p2) q2
    | exc c ns vs S2 => rw [e2] at h; exact fun w2 H2 d p2 q2 => h w2 H2 d (p.trans p2) q2
    | bad => rw [e2] at h; exact h
  | exc c ns vs S1 => rw [e] at h; exact h
  | bad => rw [e] at h; exact h
theorem Aft.imp {m : M α} {R R' : α → Wl → Store → Hp → Prop} (h : Aft K Z Wx w S H m R) (f : ∀ a w1 S1 H1, Post K w H w1 H1 → SRel K Z w1 H1 S1 → R a w1 S1 H1 → R' a w1 S1 H1) : Aft K Z Wx w S H m R' := by
  unfold Aft at h ⊢
  cases e : m S with
  | ok a S1 => rw [e] at h; exact fun w1 H1 p q => f a w1 S1 H1 p q (h w1 H1 p q)
  | exc c ns vs S1 => rw [e] at h; exact h
  | bad => rw [e] at h; exact h
theorem Aft.ret {a : α} {R : α → Wl → Store → Hp → Prop} (h : Aft K Z Wx w S H (.ret a) R) (s : SRel K Z w H S) : R a w S H := h w H Post.rfl s
theorem Aft.no {R : α → Wl → Store → Hp → Prop} (h : Aft K Z Wx w S H .no R) : False := h
theorem Aft.ok {m : M α} {a : α} {S' : Store} {R : α → Wl → Store → Hp → Prop} (h : Aft K Z Wx w S H m R) (e : m S = .ok a S') : ∀ w' H', Post K w H w' H' → SRel K Z w' H' S' → R a w' S' H' := by
  unfold Aft at h
  rw [e] at h
  exact h
theorem Aft.bad {m : M α} {R : α → Wl → Store → Hp → Prop} (h : Aft K Z Wx w S H m R) (e : m S = .bad) : False := by
  unfold Aft at h
  rw [e] at h
  exact h
theorem bad_if {c : Prop} [Decidable c] {m : M α} {S : Store} (h : ¬ c) : (if c then m else .no) S = .bad := by rw [if_neg h]; rfl
theorem Aft.opt {o : Option α} {R : α → Wl → Store → Hp → Prop} (h : Aft K Z Wx w S H (.opt o) R) (s : SRel K Z w H S) : ∃ a, o = some a ∧ R a w S H := by
  cases o with
  | none => exact h.no.elim
  | some a => exact ⟨a, rfl, h.ret s⟩

section
variable (Z) (call : Nat → List D → M D) (gl : List D)
/-- how an expression reads: some tree world lies in the heap, and the computation's end is what is wanted -/
def tE (X : Cx) (W : WX) (e : E) : TE := fun σ H Q => ∃ w S r, Rel X.K Z w H S r σ ∧ Aft X.K Z (fun c d H => W c d σ H) w S H (evalE call gl e r) fun d w' _ H' => ∀ v, Rep X.K Z w' H' d v → Q v H'
def tB (X : Cx) (W : WX) (e : E) : TT := fun σ H Q => ∃ w S r, Rel X.K Z w H S r σ ∧ Aft X.K Z (fun c d H => W c d σ H) w S H (M.seq (evalE call gl e r) blOf) fun b _ _ H' => Q b H'
def tEs (X : Cx) (W : WX) (es : Es) : TA := fun σ H Q => ∃ w S r, Rel X.K Z w H S r σ ∧ Aft X.K Z (fun c d H => W c d σ H) w S H (evalEs call gl es r) fun ds w' _ H' => ∀ vs, Reps X.K Z w' H' ds vs → Q vs H'
/-- a list that is made: its address is new, and nobody names it yet -/
def tL (X : Cx) (W : WX) (l : L) : TE := fun σ H Q => ∃ w S r, Rel X.K Z w H S r σ ∧ Aft X.K Z (fun c d H => W c d σ H) w S H (evalL call gl l r) fun ds w' S' H' =>
  ∀ p xs, H p = none → p ∉ w'.hid → H' p = some (.lst xs) → SRel X.K Z (w'.hide p) H' S' → Reps X.K Z (w'.hide p) H' ds xs → Q (.ref p) H'
end

variable {call : Nat → List D → M D} {gl : List D} {X : Cx} {W : WX} {Q : VK}
theorem Aft.seqD {m : M α} {f : α → Store → β} {g : α → Store → Store} {R : β → Wl → Store → Hp → Prop} (h : Aft K Z Wx w S H (M.seq m fun a S => .ok (f a S) (g a S)) R) :
    Aft K Z Wx w S H m fun a _ S1 _ => ∀ w' H', Post K w H w' H' → SRel K Z w' H' (g a S1) → R (f a S1) w' (g a S1) H' := by
  unfold Aft M.seq at h
  unfold Aft
  cases e : m S with
  | ok a S1 => rw [e] at h; exact fun _ _ _ _ => h
  | exc c ns vs S1 => rw [e] at h; exact h
  | bad => rw [e] at h; exact h
theorem imp_pe {e : Expr} {t t' : TE} (h : PE X e t) (f : ∀ σ H Q, t' σ H Q → t σ H Q) : PE X e t' := ⟨fun pins s σ H Q I z => h.run pins s σ H Q I (f σ H Q z)⟩
theorem imp_pt {e : Expr} {t t' : TT} (h : PT X e t) (f : ∀ σ H Q, t' σ H Q → t σ H Q) : PT X e t' := ⟨fun pins s σ H Q I z => h.run pins s σ H Q I (f σ H Q z)⟩
theorem imp_pc {o : CmpOp} {a b : Expr} {t t' : TE} (h : PC X o a b t) (f : ∀ σ H Q, t' σ H Q → t σ H Q) : PC X o a b t' := ⟨fun pins s σ H Q I z => h.run pins s σ H Q I (f σ H Q z)⟩
theorem or_pe {e : Expr} {t t' : TE} (h : PE X e t) (k : PE X e t') : PE X e (fun σ H Q => t σ H Q ∨ t' σ H Q) := ⟨fun pins s σ H Q I z => z.elim (h.run pins s σ H Q I) (k.run pins s σ H Q I)⟩
theorem or_pc {o : CmpOp} {a b : Expr} {t t' : TE} (h : PC X o a b t) (k : PC X o a b t') : PC X o a b (fun σ H Q => t σ H Q ∨ t' σ H Q) := ⟨fun pins s σ H Q I z => z.elim (h.run pins s σ H Q I) (k.run pins s σ H Q I)⟩
theorem pc_of {o : CmpOp} {a b : Expr} {ta tb : TE} {rr : R2} (ho : OpR X (compareOp o) rr) (ha : PE X a ta) (hb : PE X b tb) : PC X o a b (L2.tOp rr ta tb) :=
  ⟨fun pins s σ H Q I h => L2.binT ha hb I h fun v u s2 x y H2 I2 rx ry q => ho pins s2 σ H2 x y v u Q I2 rx ry q⟩

/-- one expression, then the rest -/
theorem tE_step {e : E} {k : D → M α} {R : α → Wl → Store → Hp → Prop} (rel : Rel X.K Z w H S r σ) (h : Aft X.K Z (fun c d H => W c d σ H) w S H (M.seq (evalE call gl e r) k) R) :
    tE Z call gl X W e σ H fun v H1 => ∃ d w1 S1, Rel X.K Z w1 H1 S1 r σ ∧ Rep X.K Z w1 H1 d v ∧ Ext X.K w H w1 H1 ∧ Aft X.K Z (fun c d H => W c d σ H) w1 S1 H1 (k d) R :=
  ⟨w, S, r, rel, h.seq.imp fun d w1 S1 H1 p q z v hv => ⟨d, w1, S1, ⟨q, rel.e.mono p.toExt⟩, hv, p.toExt, z⟩⟩
theorem tE_mono {e : E} {Q Q' : VK} (h : tE Z call gl X W e σ H Q) (f : ∀ v H1, Q v H1 → Q' v H1) : tE Z call gl X W e σ H Q' := by
  obtain ⟨w, S, r, rel, h⟩ := h
  exact ⟨w, S, r, rel, h.imp fun d w1 S1 H1 p q z v hv => f v H1 (z v hv)⟩
theorem tEs_step {e : Es} {k : List D → M α} {R : α → Wl → Store → Hp → Prop} (rel : Rel X.K Z w H S r σ) (h : Aft X.K Z (fun c d H => W c d σ H) w S H (M.seq (evalEs call gl e r) k) R) :
    tEs Z call gl X W e σ H fun v H1 => ∃ d w1 S1, Rel X.K Z w1 H1 S1 r σ ∧ Reps X.K Z w1 H1 d v ∧ Ext X.K w H w1 H1 ∧ Aft X.K Z (fun c d H => W c d σ H) w1 S1 H1 (k d) R :=
  ⟨w, S, r, rel, h.seq.imp fun d w1 S1 H1 p q z v hv => ⟨d, w1, S1, ⟨q, rel.e.mono p.toExt⟩, hv, p.toExt, z⟩⟩
/-- the last expression -/
theorem tE_last {e : E} (rel : Rel X.K Z w H S r σ) (h : Aft X.K Z (fun c d H => W c d σ H) w S H (evalE call gl e r) fun d w' _ H' => ∀ v, Rep X.K Z w' H' d v → Q v H') : tE Z call gl X W e σ H Q := ⟨w, S, r, rel, h⟩
/-- two expressions, then the rest -/
theorem tE_two {a b : E} {k : D → D → M α} {R : α → Wl → Store → Hp → Prop} (rel : Rel X.K Z w H S r σ)
    (h : Aft X.K Z (fun c d H => W c d σ H) w S H (M.seq (evalE call gl a r) fun x => M.seq (evalE call gl b r) fun y => k x y) R) {P : V → V → Hp → Prop}
    (f : ∀ v u H2 x y w2 S2, Rel X.K Z w2 H2 S2 r σ → Rep X.K Z w2 H2 x v → Rep X.K Z w2 H2 y u → Aft X.K Z (fun c d H => W c d σ H) w2 S2 H2 (k x y) R → P v u H2) :
    tE Z call gl X W a σ H fun v H1 => tE Z call gl X W b σ H1 fun u H2 => P v u H2 := by
  refine tE_mono (tE_step rel h) fun v H1 ⟨x, w1, S1, r1, hx, p1, h1⟩ => ?_
  refine tE_mono (tE_step r1 h1) fun u H2 ⟨y, w2, S2, r2, hy, p2, h2⟩ => ?_
  exact f v u H2 x y w2 S2 r2 (Rep.mono p2 hx) hy h2

/-! ### names, constants -/
theorem s_var {i : Nat} {x : Str} {pos : Pos} (hN : X.N[i]? = some x) (hv : L2.Vis X.env.scope x) (hd : (x == ("__debug__" : Str)) = false) (hc : (x == ("__classdict__" : Str)) = false) : PE X (.Name x pos) (tE Z call gl X W (.var i)) := by
  refine imp_pe (L2.pe_var hN hv hd hc) fun σ H Q ⟨w, S, r, rel, h⟩ => ?_
  rw [evalE] at h
  cases e : r[i]? with
  | none => rw [e] at h; exact h.no.elim
  | some o =>
    rw [e] at h
    cases o with
    | none => exact h.no.elim
    | some d =>
      obtain ⟨v, hv, rp⟩ := rel.e.at_ i d e
      exact ⟨v, hv, h.ret rel.s v rp⟩
theorem s_int {i : Int} {j pos} : PE X (.Constant (.int i) j pos) (tE Z call gl X W (.int i)) := imp_pe L2.pe_int fun σ H Q ⟨w, S, r, rel, h⟩ => h.ret rel.s _ (by rw [Rep])
theorem s_bl {i : Bool} {j pos} : PE X (.Constant (.bool i) j pos) (tE Z call gl X W (.bl i)) := imp_pe L2.pe_bl fun σ H Q ⟨w, S, r, rel, h⟩ => h.ret rel.s _ (by rw [Rep])
theorem s_non {j pos} : PE X (.Constant .none j pos) (tE Z call gl X W .non) := imp_pe L2.pe_non fun σ H Q ⟨w, S, r, rel, h⟩ => h.ret rel.s _ (by rw [Rep])
theorem s_str {i : Str} {j pos} : PE X (.Constant (.str i) j pos) (tE Z call gl X W (.str i)) := imp_pe L2.pe_str fun σ H Q ⟨w, S, r, rel, h⟩ => h.ret rel.s _ (by rw [Rep])
theorem s_never {e : Expr} : PE X e (tE Z call gl X W .never) := ⟨fun _ _ _ _ _ _ ⟨_, _, _, _, h⟩ => h.no.elim⟩

/-! ### operators -/
theorem lt_line {n : Nat} (h : n ≤ line) : n ≤ sizeLine := by rw [PySem.sizeLine_eq]; unfold line at h; omega
theorem edge_eq (n d : Nat) (o : Option Int) : HT.sIx n d o = edge n d o := by
  cases o with
  | none => rfl
  | some v =>
    have := HT.clip_eq v n d
    unfold edge
    split at this <;> (rename_i h; simp only [h, if_true, if_false]; omega)

theorem cut_eq {α : Type} (xs : List V) (lo hi : Option Int) : L2.cutV xs lo hi = cut xs lo hi := by
  unfold L2.cutV cut
  rw [edge_eq, edge_eq]
def astO : Op2 → Operator
  | .add => .Add | .sub => .Sub | .mul => .Mult | .mod => .Mod | .fdiv => .FloorDiv | .pow => .Pow
/-- the end of a computation that gives a value -/
abbrev End (K : PySem.W.Frag) (Z : Zt) (Q : VK) : D → Wl → Store → Hp → Prop := fun d w' _ H' => ∀ v, Rep K Z w' H' d v → Q v H'
/-- a new tuple is a tree -/
theorem new_tup {ds : List D} {vs : List V} {p : Addr} (h : Aft K Z Wx w S H (.ret (.tup ds)) (End K Z Q)) (s : SRel K Z w H S) (hp : H p = none) (hr : Reps K Z w H ds vs) : Q (.ref p) (upd H p (.tup vs)) := by
  have ps : Post K w H w (upd H p (.tup vs)) := Post.new s hp
  refine h w _ ps (s.new hp) _ ?_
  rw [Rep]
  exact ⟨p, vs, rfl, .inl (.inl upd_same), Reps.mono ps.toExt hr⟩
theorem new_lst {ds : List D} {vs : List V} {p : Addr} (h : Aft K Z Wx w S H (.ret (.fl ds)) (End K Z Q)) (s : SRel K Z w H S) (hp : H p = none) (hr : Reps K Z w H ds vs) : Q (.ref p) (upd H p (.lst vs)) := by
  have ps : Post K w H w (upd H p (.lst vs)) := Post.new s hp
  refine h w _ ps (s.new hp) _ ?_
  rw [Rep]
  exact ⟨p, vs, rfl, s.out_new hp, upd_same, Reps.mono ps.toExt hr⟩
theorem rep_int {i : Int} {v : V} : Rep K Z w H (.int i) v ↔ v = .int i := by rw [Rep]
theorem rep_bl {i : Bool} {v : V} : Rep K Z w H (.bl i) v ↔ v = .bl i := by rw [Rep]
theorem rep_non {v : V} : Rep K Z w H .non v ↔ v = .non := by rw [Rep]
theorem rep_str {i : Str} {v : V} : Rep K Z w H (.str i) v ↔ v = .str i := by rw [Rep]

def OpOf (X : Cx) (Z : Zt) (f : Value → Value → Sem Value) (g : D → D → M D) : Prop :=
  ∃ rr : R2, OpR X f rr ∧ ∀ (Wx : Value → Option Addr → Hp → Prop) (w : Wl) (S : Store) (H : Hp) (x y : D) (v u : V) (Q : VK), SRel X.K Z w H S → Rep X.K Z w H x v → Rep X.K Z w H y u → Aft X.K Z Wx w S H (g x y) (End X.K Z Q) → rr v u H Q
theorem op_of_int {f : Value → Value → Sem Value} {g : D → D → M D} {C : Int → Int → Prop} {k : Int → Int → D} {kv : Int → Int → V} (h : OpR X f (L2.rI C kv))
    (hg : ∀ x y S, (∃ i j, x = .int i ∧ y = .int j ∧ C i j ∧ g x y = .ret (k i j)) ∨ g x y S = .bad) (hk : ∀ w H i j, Rep X.K Z w H (k i j) (kv i j)) : OpOf X Z f g := by
  refine ⟨_, h, fun Wx w S H x y v u Q s hx hy q => ?_⟩
  rcases hg x y S with ⟨i, j, rfl, rfl, hc, e⟩ | e
  · rw [rep_int] at hx hy
    rw [e] at q
    exact ⟨i, j, hx, hy, hc, q.ret s _ (hk w H i j)⟩
  · exact (q.bad e).elim
/-! list + list -/
theorem bin_add : OpOf X Z (binaryOp .Add) (op2 .add) := by
  refine ⟨_, L2.op_add.or (L2.op_catA.or L2.op_cat), fun Wx w S H x y v u Q s hx hy q => ?_⟩
  cases x with
  | int i =>
    cases y with
    | int j =>
      rw [rep_int] at hx hy
      exact .inl ⟨i, j, hx, hy, q.ret s _ (by rw [Rep])⟩
    | _ => exact (q.bad rfl).elim
  | tup xs =>
    cases y with
    | tup ys =>
      rw [Rep] at hx hy
      obtain ⟨a, us, rfl, ha, hu⟩ := hx
      obtain ⟨b, ws, rfl, hb, hw⟩ := hy
      have lx := Reps.len hu
      have ly := Reps.len hw
      by_cases hz : xs.length + ys.length ≤ line
      · have e : op2 .add (.tup xs) (.tup ys) = .ret (.tup (xs ++ ys)) := if_pos hz
        rw [e] at q
        refine .inr (.inl ⟨a, b, us, ws, rfl, rfl, ha, hb, by rw [← lx, ← ly]; exact lt_line hz, fun e1 => ?_, fun e1 e2 => ?_, fun e1 e2 p hp => ?_⟩)
        · have : xs = [] := List.length_eq_zero_iff.mp (by rw [lx, e1]; rfl)
          subst this
          exact q.ret s _ (by rw [Rep]; exact ⟨b, ws, rfl, hb, hw⟩)
        · have : ys = [] := List.length_eq_zero_iff.mp (by rw [ly, e2]; rfl)
          subst this
          rw [List.append_nil] at q
          exact q.ret s _ (by rw [Rep]; exact ⟨a, us, rfl, ha, hu⟩)
        · exact new_tup q s hp (Reps.app hu hw)
      · exact (q.bad (bad_if hz)).elim
    | _ => exact (q.bad rfl).elim
  | fl xs =>
    cases y with
    | fl ys =>
      rw [Rep] at hx hy
      obtain ⟨a, us, rfl, _, ha, hu⟩ := hx
      obtain ⟨b, ws, rfl, _, hb, hw⟩ := hy
      have lx := Reps.len hu
      have ly := Reps.len hw
      by_cases hz : xs.length + ys.length ≤ line
      · have e : op2 .add (.fl xs) (.fl ys) = .ret (.fl (xs ++ ys)) := if_pos hz
        rw [e] at q
        exact .inr (.inr ⟨a, b, us, ws, rfl, rfl, ha, hb, by rw [← lx, ← ly]; exact lt_line hz, fun p hp => new_lst q s hp (Reps.app hu hw)⟩)
      · exact (q.bad (bad_if hz)).elim
    | _ => exact (q.bad rfl).elim
  | _ => exact (q.bad (by cases y <;> rfl)).elim
theorem rI_of {k : Int → Int → V} {f : Value → Value → Sem Value} (h : OpR X f (L2.rI0 k)) : OpR X f (L2.rI (fun _ _ => True) k) := fun pins s σ H x y v u Q I rx ry ⟨i, j, e1, e2, _, q⟩ => h pins s σ H x y v u Q I rx ry ⟨i, j, e1, e2, q⟩
theorem bin_sub : OpOf X Z (binaryOp .Sub) (op2 .sub) := op_of_int (k := fun i j => .int (i - j)) (rI_of L2.op_sub) (fun x y S => by
  cases x <;> first | exact .inr rfl | (cases y <;> first | exact .inr rfl | exact .inl ⟨_, _, rfl, rfl, trivial, rfl⟩)) (fun w H i j => by rw [Rep])
theorem bin_mod : OpOf X Z (binaryOp .Mod) (op2 .mod) := op_of_int (k := fun i j => .int (i % j)) L2.op_mod (fun x y S => by
  cases x <;> first | exact .inr rfl | (cases y <;> first | exact .inr rfl | skip)
  rename_i i j
  by_cases h : 0 < j
  · exact .inl ⟨_, _, rfl, rfl, h, if_pos h⟩
  · exact .inr (bad_if h)) (fun w H i j => by rw [Rep])
theorem bin_fdiv : OpOf X Z (binaryOp .FloorDiv) (op2 .fdiv) := op_of_int (k := fun i j => .int (i / j)) L2.op_fdivW (fun x y S => by
  cases x <;> first | exact .inr rfl | (cases y <;> first | exact .inr rfl | skip)
  rename_i i j
  by_cases h : 0 < j ∧ big j < 9000
  · exact .inl ⟨_, _, rfl, rfl, h, if_pos h⟩
  · exact .inr (bad_if h)) (fun w H i j => by rw [Rep])
theorem bin_pow : OpOf X Z (binaryOp .Pow) (op2 .pow) := op_of_int (k := fun i j => .int (i ^ j.toNat)) L2.op_pow (fun x y S => by
  cases x <;> first | exact .inr rfl | (cases y <;> first | exact .inr rfl | skip)
  rename_i i j
  by_cases h : 0 ≤ j ∧ j ≤ 1000 ∧ i.natAbs < 2 ^ 64
  · exact .inl ⟨_, _, rfl, rfl, ⟨h.1, by omega, h.2.2⟩, if_pos h⟩
  · exact .inr (bad_if h)) (fun w H i j => by rw [Rep])
theorem bin_mul : OpOf X Z (binaryOp .Mult) (op2 .mul) := by
  refine ⟨_, L2.op_mulW.or (L2.op_repT.or (L2.op_rep.or op_once)), fun Wx w S H x y v u Q s hx hy q => ?_⟩
  cases x with
  | int i =>
    cases y with
    | int j =>
      rw [rep_int] at hx hy
      by_cases hz : big i + big j < 1000000
      · have e : op2 .mul (.int i) (.int j) = .ret (.int (i * j)) := if_pos hz
        rw [e] at q
        exact .inl ⟨i, j, hx, hy, hz, q.ret s _ (by rw [Rep])⟩
      · exact (q.bad (bad_if hz)).elim
    | _ => exact (q.bad rfl).elim
  | tup xs =>
    cases y with
    | int k =>
      rw [rep_int] at hy
      rw [Rep] at hx
      obtain ⟨a, us, rfl, ha, hu⟩ := hx
      have lx := Reps.len hu
      by_cases hz : 2 ≤ k ∧ k ≤ 1000 ∧ xs.length ≤ 1000 ∧ xs ≠ []
      · have e : op2 .mul (.tup xs) (.int k) = .ret (.tup (List.replicate k.toNat xs).flatten) := if_pos hz
        rw [e] at q
        exact .inr (.inl ⟨a, k, us, rfl, hy, ha, fun z => hz.2.2.2 (List.length_eq_zero_iff.mp (by rw [lx, z]; rfl)), hz.1, hz.2.1, by rw [← lx]; exact hz.2.2.1, fun p hp => new_tup q s hp (Reps.rep hu _)⟩)
      · have e : op2 .mul (.tup xs) (.int k) = if k = 1 then .ret (.tup xs) else .no := if_neg hz
        by_cases h1 : k = 1
        · rw [e, if_pos h1] at q
          subst h1
          exact .inr (.inr (.inr ⟨a, us, rfl, hy, ha, q.ret s _ (by rw [Rep]; exact ⟨a, us, rfl, ha, hu⟩)⟩))
        · exact (q.bad (by rw [e]; exact bad_if h1)).elim
    | _ => exact (q.bad rfl).elim
  | fl xs =>
    cases y with
    | int k =>
      rw [rep_int] at hy
      rw [Rep] at hx
      obtain ⟨a, us, rfl, _, ha, hu⟩ := hx
      have lx := Reps.len hu
      by_cases hz : 0 ≤ k ∧ k < 1000 ∧ xs.length ≤ 1000
      · have e : op2 .mul (.fl xs) (.int k) = .ret (.fl (List.replicate k.toNat xs).flatten) := if_pos hz
        rw [e] at q
        refine .inr (.inr (.inl ⟨a, k, us, rfl, hy, ha, by omega, by omega, ?_, fun p hp => new_lst q s hp (Reps.rep hu _)⟩))
        rw [← lx, PySem.sizeLine_eq]
        calc xs.length * k.toNat ≤ 1000 * 1000 := Nat.mul_le_mul hz.2.2 (by omega)
          _ ≤ 16777216 := by decide
      · exact (q.bad (bad_if hz)).elim
    | _ => exact (q.bad rfl).elim
  | _ => exact (q.bad (by cases y <;> rfl)).elim
theorem bin_of : ∀ o : Op2, OpOf X Z (binaryOp (astO o)) (op2 o)
  | .add => bin_add | .sub => bin_sub | .mul => bin_mul | .mod => bin_mod | .fdiv => bin_fdiv | .pow => bin_pow
theorem s_bin {o : Op2} {a b : Expr} {pa pb : E} {pos : Pos} (ha : PE X a (tE Z call gl X W pa)) (hb : PE X b (tE Z call gl X W pb)) : PE X (.BinOp a (astO o) b pos) (tE Z call gl X W (.bin o pa pb)) := by
  obtain ⟨rr, h1, h2⟩ := bin_of (X := X) (Z := Z) o
  refine imp_pe (L2.pe_op h1 ha hb) fun σ H Q ⟨w, S, r, rel, h⟩ => ?_
  rw [evalE] at h
  exact tE_two rel h fun v u H2 x y w2 S2 r2 hx hy q => h2 _ w2 S2 H2 x y v u Q r2.s hx hy q
end EV
end
section
set_option Elab.async false
set_option linter.all false
set_option maxRecDepth 100000
set_option maxHeartbeats 4000000
/-! EV, part d: comparisons, truth, items, fields. -/
namespace EV
open L2 (V HO Hp upd upd_same upd_ne SqT SqL Rd Key Cx Ends TE TT TA TS TG TI PE PT PA PS PSs PG PI VK XK WX PC OpR R2 CallR)
open PySem PySem.Spec

variable {K : PySem.W.Frag} {Z : Zt} {w w1 : Wl} {H H1 : Hp} {S S1 : Store} {r : Env} {σ : L2.St} {α β : Type} {Wx : Value → Option Addr → Hp → Prop}
variable {call : Nat → List D → M D} {gl : List D} {X : Cx} {W : WX} {Q : VK}

/-! ### trees as the layer's data -/
mutual
def toP : D → PyData
  | .non => .none
  | .bl b => .bool b
  | .int i => .int i
  | .str x => .str x
  | .tup xs => .tuple (toPs xs)
  | .fl xs => .list (toPs xs)
  | _ => .dict []
def toPs : List D → List PyData
  | [] => []
  | x :: xs => toP x :: toPs xs
end
mutual
theorem deep_shape : ∀ {d : D} {n : Nat}, D.deep n d = true → (toP d).canLay0 = true ∧ (toP d).depth ≤ n
  | _, 0, h => by simp [D.deep] at h
  | .non, n + 1, _ => by simp [toP, PyData.canLay0, PyData.depth]
  | .bl _, n + 1, _ => by simp [toP, PyData.canLay0, PyData.depth]
  | .int _, n + 1, _ => by simp [toP, PyData.canLay0, PyData.depth]
  | .str x, n + 1, h => by
    rw [D.deep] at h
    refine ⟨?_, by simp [toP, PyData.depth]⟩
    rw [toP, PyData.canLay0, PyData.strOk]
    exact h
  | .tup xs, n + 1, h => by
    rw [D.deep] at h
    obtain ⟨a, b⟩ := deeps_shape h
    rw [toP, PyData.canLay0, PyData.depth]
    exact ⟨a, by omega⟩
  | .fl xs, n + 1, h => by
    rw [D.deep] at h
    obtain ⟨a, b⟩ := deeps_shape h
    rw [toP, PyData.canLay0, PyData.depth]
    exact ⟨a, by omega⟩
  | .sl _, n + 1, h => by simp [D.deep] at h
  | .fd _ _ _, n + 1, h => by simp [D.deep] at h
  | .obj _ _ _, n + 1, h => by simp [D.deep] at h
  | .ref _, n + 1, h => by simp [D.deep] at h
theorem deeps_shape : ∀ {ds : List D} {n : Nat}, D.deeps n ds = true → PyData.canLayAll0 (toPs ds) = true ∧ PyData.depthAll (toPs ds) ≤ n
  | [], _, _ => by simp [toPs, PyData.canLayAll0, PyData.depthAll]
  | d :: ds, n, h => by
    rw [D.deeps, Bool.and_eq_true] at h
    obtain ⟨a, b⟩ := deep_shape h.1
    obtain ⟨a2, b2⟩ := deeps_shape h.2
    rw [toPs, PyData.canLayAll0, PyData.depthAll]
    exact ⟨by rw [a, a2]; rfl, by omega⟩
end
theorem deep_ok {d : D} (h : D.deep 30 d = true) : SeqAt.shaped (toP d) = true := by
  obtain ⟨a, b⟩ := deep_shape h
  unfold SeqAt.shaped
  rw [a, decide_eq_true (by omega)]
  rfl
theorem deeps_ok {ds : List D} (h : D.deeps 30 ds = true) : SeqAt.shaped (.list (toPs ds)) = true ∧ SeqAt.shaped (.tuple (toPs ds)) = true := by
  obtain ⟨a, b⟩ := deeps_shape h
  unfold SeqAt.shaped
  rw [PyData.canLay0, PyData.depth, PyData.canLay0, PyData.depth, a, decide_eq_true (by omega)]
  exact ⟨rfl, rfl⟩
mutual
theorem deep_dp : ∀ {d : D} {n : Nat} {v : V}, D.deep n d = true → Rep K Z w H d v → L2.Dp K H v (toP d)
  | _, 0, _, h, _ => by simp [D.deep] at h
  | .non, n + 1, v, _, q => by rw [Rep] at q; subst q; exact .non
  | .bl _, n + 1, v, _, q => by rw [Rep] at q; subst q; exact .bl _
  | .int _, n + 1, v, _, q => by rw [Rep] at q; subst q; exact .int _
  | .str _, n + 1, v, _, q => by rw [Rep] at q; subst q; exact .str _
  | .tup xs, n + 1, v, h, q => by
    rw [D.deep] at h
    rw [Rep] at q
    obtain ⟨a, us, rfl, h1, h2⟩ := q
    exact .tup h1 (deeps_dp h h2)
  | .fl xs, n + 1, v, h, q => by
    rw [D.deep] at h
    rw [Rep] at q
    obtain ⟨a, us, rfl, _, h1, h2⟩ := q
    exact .lst (L2.SqL.of h1) (deeps_dp h h2)
  | .sl _, n + 1, _, h, _ => by simp [D.deep] at h
  | .fd _ _ _, n + 1, _, h, _ => by simp [D.deep] at h
  | .obj _ _ _, n + 1, _, h, _ => by simp [D.deep] at h
  | .ref _, n + 1, _, h, _ => by simp [D.deep] at h
theorem deeps_dp : ∀ {ds : List D} {n : Nat} {vs : List V}, D.deeps n ds = true → Reps K Z w H ds vs → L2.DpAll K H vs (toPs ds)
  | [], _, _, _, q => by rw [Reps] at q; subst q; exact .nil
  | d :: ds, n, vs, h, q => by
    rw [D.deeps, Bool.and_eq_true] at h
    rw [Reps] at q
    obtain ⟨v, us, rfl, h1, h2⟩ := q
    exact .cons (deep_dp h.1 h1) (deeps_dp h.2 h2)
end
mutual
theorem eq_eqv : ∀ {d e : D} {n : Nat}, D.deep n d = true → D.deep n e = true → PyData.eqv (toP d) (toP e) = D.eq d e := by
  intro d e n hd he
  cases n with
  | zero => simp [D.deep] at hd
  | succ n =>
    cases d <;> cases e <;> first
      | (rw [D.deep] at hd; cases hd; done)
      | (rw [D.deep] at he; cases he; done)
      | (simp [toP, PyData.eqv, D.eq]; done)
      | (rw [D.deep] at hd he; rw [toP, toP, PyData.eqv, D.eq]; exact eqs_eqv hd he)
      | (simp only [toP, PyData.eqv, D.eq]; first | rfl | (rw [Bool.beq_eq_decide_eq]; done) | (simp; done) | skip)
theorem eqs_eqv : ∀ {ds es : List D} {n : Nat}, D.deeps n ds = true → D.deeps n es = true → PyData.eqvAll (toPs ds) (toPs es) = D.eqs ds es
  | [], [], _, _, _ => by simp [toPs, PyData.eqvAll, D.eqs]
  | [], _ :: _, _, _, _ => by simp [toPs, PyData.eqvAll, D.eqs]
  | _ :: _, [], _, _, _ => by simp [toPs, PyData.eqvAll, D.eqs]
  | d :: ds, e :: es, n, hd, he => by
    rw [D.deeps, Bool.and_eq_true] at hd he
    rw [toPs, toPs, PyData.eqvAll, D.eqs, eq_eqv hd.1 he.1, eqs_eqv hd.2 he.2]
end

/-! ### comparisons -/
/-- a comparison by the values of its sides -/
theorem pc_two {o : CmpOp} {c : Cm} {a b : Expr} {pa pb : E} {rr : R2} (ho : OpR X (compareOp o) rr) (ha : PE X a (tE Z call gl X W pa)) (hb : PE X b (tE Z call gl X W pb))
    (f : ∀ (Wx : Value → Option Addr → Hp → Prop) (w : Wl) (S : Store) (H : Hp) (x y : D) (v u : V) (Q : VK), SRel X.K Z w H S → Rep X.K Z w H x v → Rep X.K Z w H y u → Aft X.K Z Wx w S H (cm c x y) (End X.K Z Q) → rr v u H Q) :
    PC X o a b (tE Z call gl X W (.cmp c pa pb)) :=
  imp_pc (pc_of ho ha hb) fun σ H Q ⟨w, S, r, rel, h⟩ => by
    rw [evalE] at h
    exact tE_two rel h fun v u H2 x y w2 S2 r2 hx hy q => f _ w2 S2 H2 x y v u Q r2.s hx hy q
def CmOf (X : Cx) (Z : Zt) (o : CmpOp) (c : Cm) : Prop :=
  ∃ rr : R2, OpR X (compareOp o) rr ∧ ∀ (Wx : Value → Option Addr → Hp → Prop) (w : Wl) (S : Store) (H : Hp) (x y : D) (v u : V) (Q : VK), SRel X.K Z w H S → Rep X.K Z w H x v → Rep X.K Z w H y u → Aft X.K Z Wx w S H (cm c x y) (End X.K Z Q) → rr v u H Q
theorem cm_int {o : CmpOp} {c : Cm} {p : Int → Int → Bool} (h : OpR X (compareOp o) (L2.rI0 fun i j => .bl (p i j))) (hg : ∀ x y S, (∃ i j, x = .int i ∧ y = .int j ∧ cm c x y = .ret (.bl (p i j))) ∨ cm c x y S = .bad) : CmOf X Z o c := by
  refine ⟨_, h, fun Wx w S H x y v u Q s hx hy q => ?_⟩
  rcases hg x y S with ⟨i, j, rfl, rfl, e⟩ | e
  · rw [rep_int] at hx hy
    rw [e] at q
    exact ⟨i, j, hx, hy, q.ret s _ (by rw [Rep])⟩
  · exact (q.bad e).elim
theorem cm_lt : CmOf X Z .Lt .lt := cm_int L2.op_lt fun x y S => by cases x <;> first | exact .inr rfl | (cases y <;> first | exact .inr rfl | exact .inl ⟨_, _, rfl, rfl, rfl⟩)
theorem cm_le : CmOf X Z .LtE .le := cm_int L2.op_le fun x y S => by cases x <;> first | exact .inr rfl | (cases y <;> first | exact .inr rfl | exact .inl ⟨_, _, rfl, rfl, rfl⟩)
theorem cm_gt : CmOf X Z .Gt .gt := cm_int L2.op_gt fun x y S => by cases x <;> first | exact .inr rfl | (cases y <;> first | exact .inr rfl | exact .inl ⟨_, _, rfl, rfl, rfl⟩)
theorem cm_ge : CmOf X Z .GtE .ge := cm_int L2.op_ge fun x y S => by cases x <;> first | exact .inr rfl | (cases y <;> first | exact .inr rfl | exact .inl ⟨_, _, rfl, rfl, rfl⟩)
theorem cm_eq (hu : X.A.units + 64 < cLine) : CmOf X Z .Eq .eq := by
  refine ⟨_, L2.op_eqD hu, fun Wx w S H x y v u Q s hx hy q => ?_⟩
  have e : cm .eq x y = if D.deep 30 x && D.deep 30 y then .ret (.bl (D.eq x y)) else .no := rfl
  rw [e] at q
  split at q
  · rename_i hd
    rw [Bool.and_eq_true] at hd
    refine ⟨_, _, deep_dp hd.1 hx, deep_dp hd.2 hy, deep_ok hd.1, deep_ok hd.2, ?_⟩
    rw [eq_eqv hd.1 hd.2]
    exact q.ret s _ (by rw [Rep])
  · exact q.no.elim
theorem cm_ne (hu : X.A.units + 64 < cLine) : CmOf X Z .NotEq .ne := by
  refine ⟨_, L2.op_neD hu, fun Wx w S H x y v u Q s hx hy q => ?_⟩
  have e : cm .ne x y = if D.deep 30 x && D.deep 30 y then .ret (.bl (!D.eq x y)) else .no := rfl
  rw [e] at q
  split at q
  · rename_i hd
    rw [Bool.and_eq_true] at hd
    refine ⟨_, _, deep_dp hd.1 hx, deep_dp hd.2 hy, deep_ok hd.1, deep_ok hd.2, ?_⟩
    rw [eq_eqv hd.1 hd.2]
    exact q.ret s _ (by rw [Rep])
  · exact q.no.elim
theorem cm_isT : CmOf X Z .Is .isT := by
  refine ⟨_, L2.op_isBl, fun Wx w S H x y v u Q s hx hy q => ?_⟩
  cases x with
  | bl b =>
    cases y with
    | bl c =>
      cases c with
      | true =>
        rw [rep_bl] at hx hy
        have e : cm .isT (.bl b) (.bl true) = .ret (.bl b) := rfl
        rw [e] at q
        exact ⟨b, true, hx, hy, by rw [Bool.decide_eq_true]; exact q.ret s _ (by rw [Rep])⟩
      | false => exact (q.bad rfl).elim
    | _ => exact (q.bad rfl).elim
  | _ => exact (q.bad (by cases y <;> rfl)).elim
theorem cm_notT : CmOf X Z .IsNot .notT := by
  refine ⟨_, L2.op_isnot_bl, fun Wx w S H x y v u Q s hx hy q => ?_⟩
  cases x with
  | bl b =>
    cases y with
    | bl c =>
      cases c with
      | true =>
        rw [rep_bl] at hx hy
        have e : cm .notT (.bl b) (.bl true) = .ret (.bl (!b)) := rfl
        rw [e] at q
        exact ⟨b, true, hx, hy, by rw [Bool.decide_eq_true]; exact q.ret s _ (by rw [Rep])⟩
      | false => exact (q.bad rfl).elim
    | _ => exact (q.bad rfl).elim
  | _ => exact (q.bad (by cases y <;> rfl)).elim
def notNon : D → Bool
  | .non => false
  | _ => true
theorem non_dec {x : D} {v : V} (h : Rep K Z w H x v) : decide (v = .non) = !notNon x := by
  cases x <;> rw [Rep] at h
  case non => subst h; rfl
  case bl => subst h; rfl
  case int => subst h; rfl
  case str => subst h; rfl
  case tup => obtain ⟨_, _, e, _⟩ := h; subst e; rfl
  case fl => obtain ⟨_, _, e, _⟩ := h; subst e; rfl
  case sl => obtain ⟨_, _, e, _⟩ := h; subst e; rfl
  case fd => obtain ⟨_, e, _⟩ := h; subst e; rfl
  case obj => obtain ⟨_, _, _, e, _⟩ := h; subst e; rfl
  case ref => obtain ⟨_, _, e, _⟩ := h; subst e; rfl
theorem s_isN {a : Expr} {pa : E} {j : Nat} {p : Pos} (ha : PE X a (tE Z call gl X W pa)) : PC X .Is a (.Constant .none j p) (tE Z call gl X W (.cmp .isN pa .non)) := by
  refine imp_pc (L2.pc_isN ha) fun σ H Q ⟨w, S, r, rel, h⟩ => ?_
  rw [evalE] at h
  refine tE_mono (tE_step rel h) fun v H1 ⟨x, w1, S1, r1, hx, p1, h1⟩ => ?_
  have e : (M.seq (evalE call gl .non r) fun y => cm .isN x y) = .ret (.bl (!notNon x)) := by cases x <;> rfl
  rw [e] at h1
  exact h1.ret r1.s (.bl (decide (v = .non))) (by rw [Rep, non_dec hx])
theorem s_notN {a : Expr} {pa : E} {j : Nat} {p : Pos} (ha : PE X a (tE Z call gl X W pa)) : PC X .IsNot a (.Constant .none j p) (tE Z call gl X W (.cmp .notN pa .non)) := by
  refine imp_pc (L2.pc_notN ha) fun σ H Q ⟨w, S, r, rel, h⟩ => ?_
  rw [evalE] at h
  refine tE_mono (tE_step rel h) fun v H1 ⟨x, w1, S1, r1, hx, p1, h1⟩ => ?_
  have e : (M.seq (evalE call gl .non r) fun y => cm .notN x y) = .ret (.bl (!(!notNon x))) := by cases x <;> rfl
  rw [e] at h1
  exact h1.ret r1.s (.bl (!decide (v = .non))) (by rw [Rep, non_dec hx])

/-! #### dicts -/
theorem keyD_eq (a b : Key) : D.eq (keyD a) (keyD b) = decide (a = b) := by
  cases a <;> cases b <;> simp [keyD, D.eq]
theorem keysD_eq : ∀ a b : List Key, D.eqs (a.map keyD) (b.map keyD) = decide (a = b)
  | [], [] => by simp [D.eqs]
  | [], _ :: _ => by simp [D.eqs]
  | _ :: _, [] => by simp [D.eqs]
  | a :: as, b :: bs => by
    simp only [List.map_cons, D.eqs, keyD_eq, keysD_eq as bs, List.cons.injEq]
    by_cases h : a = b <;> by_cases k : as = bs <;> simp [h, k]
theorem find_val {κ : Type} [DecidableEq κ] {f : κ → D} (hf : ∀ a b, D.eq (f a) (f b) = decide (a = b)) {k : κ} : ∀ {kvs : List (κ × V)} {vs : List D}, Reps K Z w H vs (kvs.map (·.2)) →
    (∃ d v, findK (kvs.map fun p => f p.1) vs (f k) = some d ∧ L2.valV kvs k = some v ∧ Rep K Z w H d v) ∨ (findK (kvs.map fun p => f p.1) vs (f k) = none ∧ L2.valV kvs k = none)
  | [], vs, h => by
    cases vs with
    | nil => exact .inr ⟨rfl, rfl⟩
    | cons d ds => rw [Reps] at h; obtain ⟨_, _, e, _⟩ := h; cases e
  | p :: kvs, vs, h => by
    cases vs with
    | nil => rw [Reps] at h; cases h
    | cons d ds =>
      rw [Reps] at h
      obtain ⟨v, us, e, h1, h2⟩ := h
      cases e
      by_cases q : p.1 = k
      · refine .inl ⟨d, p.2, ?_, L2.valV_pos q, h1⟩
        rw [List.map_cons, findK, hf, decide_eq_true q, if_pos rfl]
      · rw [List.map_cons, findK, hf, decide_eq_false q, if_neg Bool.false_ne_true, L2.valV_neg q]
        exact find_val hf h2
theorem key_of_int {x : D} {u : V} (h : keyOk false x = true) (hx : Rep K Z w H x u) : ∃ k : Key, x = keyD k ∧ u = L2.kV k := by
  cases x with
  | int i => rw [Rep] at hx; exact ⟨.inl i, rfl, hx⟩
  | str i => rw [Rep] at hx; exact ⟨.inr i, rfl, hx⟩
  | _ => cases h
theorem keys_of : ∀ {xs : List D} {us : List V}, (xs.all fun d => match d with | .int _ => true | .str _ => true | _ => false) = true → Reps K Z w H xs us → ∃ ks : List Key, xs = ks.map keyD ∧ us = ks.map L2.kV
  | [], us, _, q => by rw [Reps] at q; exact ⟨[], rfl, q⟩
  | x :: xs, us, h, q => by
    rw [List.all_cons, Bool.and_eq_true] at h
    rw [Reps] at q
    obtain ⟨v, vs, rfl, h1, h2⟩ := q
    obtain ⟨ks, e1, e2⟩ := keys_of h.2 h2
    have : ∃ k : Key, x = keyD k ∧ v = L2.kV k := by
      cases x with
      | int i => rw [Rep] at h1; exact ⟨.inl i, rfl, h1⟩
      | str i => rw [Rep] at h1; exact ⟨.inr i, rfl, h1⟩
      | _ => exact absurd h.1 Bool.false_ne_true
    obtain ⟨k, e3, e4⟩ := this
    exact ⟨k :: ks, by rw [e1, e3]; rfl, by rw [e2, e4]; rfl⟩
theorem keys_of_tup {x : D} {u : V} (h : keyOk true x = true) (hx : Rep K Z w H x u) : ∃ (ks : List Key) (b : Addr), x = keysD ks ∧ u = .ref b ∧ SqT K H b (ks.map L2.kV) := by
  cases x with
  | tup xs =>
    rw [Rep] at hx
    obtain ⟨b, us, rfl, h1, h2⟩ := hx
    have h' : (xs.all fun d => match d with | .int _ => true | .str _ => true | _ => false) = true := by
      have : (true && xs.all fun d => match d with | .int _ => true | .str _ => true | _ => false) = true := h
      simpa using this
    obtain ⟨ks, e1, e2⟩ := keys_of h' h2
    exact ⟨ks, b, by rw [e1]; rfl, rfl, by rw [← e2]; exact h1⟩
  | int i => cases h
  | str i => cases h
  | _ => cases h
theorem find_at {k : List Key} : ∀ {xs : List Entry} {us : List V} {vs : List D}, L2.Vals us (xs.map (·.2.2)) → Reps K Z w H vs us →
    (∃ d v, findK (xs.map fun q => keysD q.1) vs (keysD k) = some d ∧ L2.RelO (some v) ((atKey xs k).map (·.2)) ∧ Rep K Z w H d v) ∨ (findK (xs.map fun q => keysD q.1) vs (keysD k) = none ∧ L2.RelO none ((atKey xs k).map (·.2)))
  | [], us, vs, h, q => by
    cases h
    cases vs with
    | nil => exact .inr ⟨rfl, trivial⟩
    | cons d ds => rw [Reps] at q; obtain ⟨_, _, e, _⟩ := q; cases e
  | x :: xs, us, vs, h, q => by
    rw [List.map_cons] at h
    cases h with
    | cons r t =>
      rename_i v us'
      cases vs with
      | nil => rw [Reps] at q; cases q
      | cons d ds =>
        rw [Reps] at q
        obtain ⟨v', us2, e, h1, h2⟩ := q
        cases e
        have eq : D.eq (keysD x.1) (keysD k) = decide (x.1 = k) := by unfold keysD; rw [D.eq, keysD_eq]
        by_cases z : x.1 = k
        · refine .inl ⟨d, v, ?_, ?_, h1⟩
          · rw [List.map_cons, findK, eq, decide_eq_true z, if_pos rfl]
          · unfold atKey
            rw [List.find?_cons, decide_eq_true z]
            exact r
        · rw [List.map_cons, findK, eq, decide_eq_false z, if_neg Bool.false_ne_true]
          have : atKey (x :: xs) k = atKey xs k := by
            unfold atKey
            rw [List.find?_cons, decide_eq_false z]
          rw [this]
          exact find_at t h2
/-- a dict's tree, a key's tree: what the dict has there -/
theorem dict_get {t : Bool} {ks vs : List D} {x : D} {a : Addr} {u : V} (h : ORep K Z w H a (.dict t ks vs)) (hk : keyOk t x = true) (hx : Rep K Z w H x u) :
    (∃ d v, findK ks vs x = some d ∧ Has Z.P Z.w K H a u (some v) ∧ Rep K Z w H d v) ∨ (findK ks vs x = none ∧ Has Z.P Z.w K H a u none) := by
  rcases h with ⟨rfl, xs, us, h1, rfl, h3, h4, h5⟩ | ⟨rfl, kvs, h1, rfl, h3⟩
  · obtain ⟨k, b, rfl, rfl, hb⟩ := keys_of_tup hk hx
    rcases find_at (k := k) h4 h5 with ⟨d, v, e1, e2, e3⟩ | ⟨e1, e2⟩
    · exact .inl ⟨d, v, e1, .inr ⟨xs, k, b, h1, h3, rfl, hb, e2⟩, e3⟩
    · exact .inr ⟨e1, .inr ⟨xs, k, b, h1, h3, rfl, hb, e2⟩⟩
  · obtain ⟨k, rfl, rfl⟩ := key_of_int hk hx
    rcases find_val (f := keyD) keyD_eq (k := k) h3 with ⟨d, v, e1, e2, e3⟩ | ⟨e1, e2⟩
    · exact .inl ⟨d, v, e1, .inl (by rw [← e2]; exact L2.DGet.k h1), e3⟩
    · exact .inr ⟨e1, .inl (by rw [← e2]; exact L2.DGet.k h1)⟩
/-- the dict that a value stands for -/
theorem dict_of {d : D} {v : V} {R : Bool × List D × List D → Wl → Store → Hp → Prop} (s : SRel K Z w H S) (hd : Rep K Z w H d v) (h : Aft K Z Wx w S H (dictOf d) R) :
    ∃ a t ks vs, v = .ref a ∧ ORep K Z w H a (.dict t ks vs) ∧ R (t, ks, vs) w S H := by
  cases d with
  | fd t ks vs =>
    rw [Rep] at hd
    obtain ⟨a, e, _, q⟩ := hd
    exact ⟨a, t, ks, vs, e, q, h.ok (a := (t, ks, vs)) rfl w H Post.rfl s⟩
  | ref n =>
    cases e : S[n]? with
    | none => exact (h.bad (by unfold dictOf; simp only [e])).elim
    | some o =>
      cases o with
      | dict t ks vs =>
        obtain ⟨a, e1, _, e2⟩ := s.at_ hd e (fun z => by cases z)
        exact ⟨a, t, ks, vs, e1, e2, h.ok (a := (t, ks, vs)) (by unfold dictOf; simp only [e]) w H Post.rfl s⟩
      | _ => exact (h.bad (by unfold dictOf; simp only [e])).elim
  | _ => exact (h.bad rfl).elim
theorem isDict_ok {d : D} {R : Bool → Wl → Store → Hp → Prop} (s : SRel K Z w H S) (h : Aft K Z Wx w S H (isDict d) R) : ∃ b, isDict d S = .ok b S ∧ R b w S H := by
  have : ∃ b, isDict d S = .ok b S := by
    cases d with
    | ref n =>
      cases e : S[n]? with
      | none => simp only [isDict, e]; exact ⟨_, rfl⟩
      | some o => cases o <;> (simp only [isDict, e]; exact ⟨_, rfl⟩)
    | _ => exact ⟨_, rfl⟩
  obtain ⟨b, e⟩ := this
  exact ⟨b, e, h.ok e w H Post.rfl s⟩

theorem find_none {ks vs : List D} {x : D} (h : findK ks vs x = none) : (findK ks vs x).isSome = false := by rw [h]; rfl
/-- x in y where y is a dict, a list, a tuple -/
theorem mem_reads {c : Cm} {neg : Bool} (hc : ∀ x y, cm c x y = M.seq (isDict y) fun b => if b then M.seq (dictOf y) fun p => if keyOk p.1 x then .ret (.bl (neg != (findK p.2.1 p.2.2 x).isSome)) else .no
      else M.seq (tfOf y) fun ys => if D.deep 30 x && D.deeps 30 ys then .ret (.bl (neg != memD x ys)) else .no)
    {x y : D} {v u : V} (hZ : Z.P = X.prog ∧ Z.w = X.w) (s : SRel K Z w H S) (hx : Rep K Z w H x v) (hy : Rep K Z w H y u) (q : Aft K Z Wx w S H (cm c x y) (End K Z Q)) :
    rInDict X.prog X.w K neg v u H Q ∨ (∃ d ds, L2.Dp K H v d ∧ L2.Dp K H u (.list ds) ∧ SeqAt.shaped d = true ∧ SeqAt.shaped (.list ds) = true ∧ Q (.bl (neg != (ds.any fun z => PyData.eqv z d))) H) ∨ rAmid K neg v u H Q := by
  rw [hc] at q
  obtain ⟨b, _, q⟩ := isDict_ok s q.seq
  have any_ok : ∀ {ys : List D}, D.deep 30 x = true → D.deeps 30 ys = true → ((toPs ys).any fun z => PyData.eqv z (toP x)) = memD x ys := by
    intro ys h1 h2
    induction ys with
    | nil => rfl
    | cons z zs ih =>
      rw [D.deeps, Bool.and_eq_true] at h2
      rw [toPs, List.any_cons, eq_eqv h2.1 h1, ih h2.2]
      rfl
  cases b with
  | true =>
    rw [if_pos rfl] at q
    obtain ⟨a, t, ks, vs, rfl, h2, q⟩ := dict_of s hy q.seq
    simp only at q
    split at q
    · rename_i hk
      refine .inl ⟨a, ?_⟩
      rw [← hZ.1, ← hZ.2]
      rcases dict_get h2 hk hx with ⟨d, v', e1, e2, _⟩ | ⟨e1, e2⟩
      · exact ⟨_, rfl, e2, by
          rw [e1] at q
          exact q.ret s _ (by rw [Rep]; rfl)⟩
      · exact ⟨_, rfl, e2, by
          rw [e1] at q
          exact q.ret s _ (by rw [Rep]; rfl)⟩
    · exact q.no.elim
  | false =>
    rw [if_neg Bool.false_ne_true] at q
    cases y with
    | tup ys =>
      have q := q.seq.ret s
      split at q
      · rename_i hd
        rw [Bool.and_eq_true] at hd
        have hy' := deep_dp (n := 31) (by rw [D.deep]; exact hd.2) hy
        rw [toP] at hy'
        refine .inr (.inr ⟨_, _, deep_dp hd.1 hx, hy', deep_ok hd.1, (deeps_ok hd.2).2, ?_⟩)
        rw [any_ok hd.1 hd.2]
        exact q.ret s _ (by rw [Rep])
      · exact q.no.elim
    | fl ys =>
      have q := q.seq.ret s
      split at q
      · rename_i hd
        rw [Bool.and_eq_true] at hd
        have hy' := deep_dp (n := 31) (by rw [D.deep]; exact hd.2) hy
        rw [toP] at hy'
        refine .inr (.inl ⟨_, _, deep_dp hd.1 hx, hy', deep_ok hd.1, (deeps_ok hd.2).1, ?_⟩)
        rw [any_ok hd.1 hd.2]
        exact q.ret s _ (by rw [Rep])
      · exact q.no.elim
    | _ => exact q.seq.no.elim

theorem units65 {k : Nat} {A : Around} (h : L2.Room k A) : A.units + 65 < cLine := by have := h.un; omega
theorem cm_mem {k : Nat} (hr : L2.Room k X.A) (hZ : Z.P = X.prog ∧ Z.w = X.w) : CmOf X Z .In .mem := by
  refine ⟨_, (op_inDict (by have := hr.un; omega)).or ((L2.op_inD (units65 hr)).or (op_amid (units65 hr))), fun Wx w S H x y v u Q s hx hy q => ?_⟩
  rcases mem_reads (neg := false) (fun x y => by simp only [cm, Bool.false_bne]) hZ s hx hy q with h | ⟨d, ds, h1, h2, h3, h4, h5⟩ | h
  · exact .inl h
  · exact .inr (.inl ⟨d, ds, h1, h2, h3, h4, by rw [Bool.false_bne] at h5; exact h5⟩)
  · exact .inr (.inr h)
theorem cm_nmem {k : Nat} (hr : L2.Room k X.A) (hZ : Z.P = X.prog ∧ Z.w = X.w) : CmOf X Z .NotIn .nmem := by
  refine ⟨_, (op_notInDict (by have := hr.un; omega)).or ((L2.op_notInD (units65 hr)).or (op_notAmid (units65 hr))), fun Wx w S H x y v u Q s hx hy q => ?_⟩
  rcases mem_reads (neg := true) (fun x y => by simp only [cm, Bool.true_bne, Option.not_isSome]) hZ s hx hy q with h | ⟨d, ds, h1, h2, h3, h4, h5⟩ | h
  · exact .inl h
  · exact .inr (.inl ⟨d, ds, h1, h2, h3, h4, by rw [Bool.true_bne] at h5; exact h5⟩)
  · exact .inr (.inr h)
/-- the operator as the text writes it -/
def astC : Cm → CmpOp
  | .lt => .Lt | .le => .LtE | .gt => .Gt | .ge => .GtE | .eq => .Eq | .ne => .NotEq | .mem => .In | .nmem => .NotIn | .isN => .Is | .notN => .IsNot | .isT => .Is | .notT => .IsNot
theorem cm_of {k : Nat} (hr : L2.Room k X.A) (hZ : Z.P = X.prog ∧ Z.w = X.w) : ∀ {c : Cm}, c ≠ .isN → c ≠ .notN → CmOf X Z (astC c) c
  | .lt, _, _ => cm_lt
  | .le, _, _ => cm_le
  | .gt, _, _ => cm_gt
  | .ge, _, _ => cm_ge
  | .eq, _, _ => cm_eq hr.units
  | .ne, _, _ => cm_ne hr.units
  | .mem, _, _ => cm_mem hr hZ
  | .nmem, _, _ => cm_nmem hr hZ
  | .isN, h, _ => absurd rfl h
  | .notN, _, h => absurd rfl h
  | .isT, _, _ => cm_isT
  | .notT, _, _ => cm_notT
theorem s_cmp {c : Cm} {a b : Expr} {pa pb : E} (h : CmOf X Z (astC c) c) (ha : PE X a (tE Z call gl X W pa)) (hb : PE X b (tE Z call gl X W pb)) : PC X (astC c) a b (tE Z call gl X W (.cmp c pa pb)) := by
  obtain ⟨rr, h1, h2⟩ := h
  exact pc_two h1 ha hb h2
/-- a value that is a truth value, as a test -/
theorem tB_of {e : E} {Q' : Bool → Hp → Prop} (h : tB Z call gl X W e σ H Q') : tE Z call gl X W e σ H fun v H1 => ∃ c, v = .bl c ∧ Q' c H1 := by
  obtain ⟨w, S, r, rel, h⟩ := h
  refine tE_mono (tE_step rel h) fun v H1 ⟨x, w1, S1, r1, hx, p1, h1⟩ => ?_
  cases x with
  | bl b => rw [rep_bl] at hx; exact ⟨b, hx, h1.ret r1.s⟩
  | _ => exact h1.no.elim
theorem t_val {e : Expr} {pe : E} (h : PE X e (tE Z call gl X W pe)) (he : ∀ whole, isTrue e X.env whole = (do let v ← whole; standAt e.pos; holding [v] (truthy v))) : PT X e (tB Z call gl X W pe) :=
  imp_pt (L2.pt_val h he) fun σ H Q h => tB_of h
theorem t_cmp {c : CmpOp} {a b : Expr} {pe : E} {pos : Pos} (h : PC X c a b (tE Z call gl X W pe)) (hm : behindInMarks c b = false) : PT X (.Compare a [c] [b] pos) (tB Z call gl X W pe) :=
  imp_pt (L2.pt_cmp h hm) fun σ H Q h => tB_of h
theorem blOf_ok {x : D} {v : V} {R : Bool → Wl → Store → Hp → Prop} (s : SRel K Z w H S) (hx : Rep K Z w H x v) (h : Aft K Z Wx w S H (blOf x) R) : ∃ b, x = .bl b ∧ v = .bl b ∧ R b w S H := by
  cases x with
  | bl b => rw [rep_bl] at hx; exact ⟨b, rfl, hx, h.ret s⟩
  | _ => exact h.no.elim
theorem intOf_ok {x : D} {v : V} {R : Int → Wl → Store → Hp → Prop} (s : SRel K Z w H S) (hx : Rep K Z w H x v) (h : Aft K Z Wx w S H (intOf x) R) : ∃ b, x = .int b ∧ v = .int b ∧ R b w S H := by
  cases x with
  | int b => rw [rep_int] at hx; exact ⟨b, rfl, hx, h.ret s⟩
  | _ => exact h.no.elim

/-! ### and, or, not, if -/
section
variable {a b : Expr} {rest : List Expr} {pa pb pc : E} {pos : Pos}
theorem seq_assoc {γ : Type} {m : M α} {k : α → M β} {l : β → M γ} : M.seq (M.seq m k) l = M.seq m fun x => M.seq (k x) l := by
  funext S
  unfold M.seq
  cases m S <;> rfl
theorem t_and (ha : PT X a (tB Z call gl X W pa)) (hb : L2.PW X (.BoolOp .And (b :: rest) pos) (tB Z call gl X W pb)) : L2.PW X (.BoolOp .And (a :: b :: rest) pos) (tB Z call gl X W (.and_ pa pb)) := by
  refine ⟨fun wh pins s σ H Q I ⟨w, S, r, rel, h⟩ => (L2.pw_and ha hb).run wh pins s σ H Q I ?_⟩
  rw [evalE, seq_assoc] at h
  have h' : Aft X.K Z (fun c d H => W c d σ H) w S H (M.seq (M.seq (evalE call gl pa r) blOf) fun t => M.seq (if t then evalE call gl pb r else .ret (.bl false)) blOf) fun b _ _ H' => Q b H' := by
    rw [seq_assoc]
    have e : (fun x => M.seq (M.seq (blOf x) fun t => if t = true then evalE call gl pb r else .ret (.bl false)) blOf) = fun x => M.seq (blOf x) fun t => M.seq (if t = true then evalE call gl pb r else .ret (.bl false)) blOf := funext fun x => seq_assoc
    rw [← e]
    exact h
  refine ⟨w, S, r, rel, h'.seq.imp fun c w1 S1 H1 p q z => ?_⟩
  cases c with
  | true => exact ⟨w1, S1, r, ⟨q, rel.e.mono p.toExt⟩, z⟩
  | false => exact z.ret q
theorem t_or (ha : PT X a (tB Z call gl X W pa)) (hb : L2.PW X (.BoolOp .Or (b :: rest) pos) (tB Z call gl X W pb)) : L2.PW X (.BoolOp .Or (a :: b :: rest) pos) (tB Z call gl X W (.or_ pa pb)) := by
  refine ⟨fun wh pins s σ H Q I ⟨w, S, r, rel, h⟩ => (L2.pw_or ha hb).run wh pins s σ H Q I ?_⟩
  rw [evalE, seq_assoc] at h
  have h' : Aft X.K Z (fun c d H => W c d σ H) w S H (M.seq (M.seq (evalE call gl pa r) blOf) fun t => M.seq (if t then .ret (.bl true) else evalE call gl pb r) blOf) fun b _ _ H' => Q b H' := by
    rw [seq_assoc]
    have e : (fun x => M.seq (M.seq (blOf x) fun t => if t = true then .ret (.bl true) else evalE call gl pb r) blOf) = fun x => M.seq (blOf x) fun t => M.seq (if t = true then .ret (.bl true) else evalE call gl pb r) blOf := funext fun x => seq_assoc
    rw [← e]
    exact h
  refine ⟨w, S, r, rel, h'.seq.imp fun c w1 S1 H1 p q z => ?_⟩
  cases c with
  | true => exact z.ret q
  | false => exact ⟨w1, S1, r, ⟨q, rel.e.mono p.toExt⟩, z⟩
theorem t_not (ha : PT X a (tB Z call gl X W pa)) : PT X (.UnaryOp .Not a pos) (tB Z call gl X W (.not_ pa)) := by
  refine imp_pt (L2.pt_not ha) fun σ H Q ⟨w, S, r, rel, h⟩ => ?_
  rw [evalE, seq_assoc] at h
  have h' : Aft X.K Z (fun c d H => W c d σ H) w S H (M.seq (M.seq (evalE call gl pa r) blOf) fun t => .ret (!t)) fun b _ _ H' => Q b H' := by
    rw [seq_assoc]
    have e : (fun x => M.seq (M.seq (blOf x) fun t => .ret (.bl (!t))) blOf) = fun x => M.seq (blOf x) fun t => .ret (!t) := funext fun x => seq_assoc
    rw [← e]
    exact h
  exact ⟨w, S, r, rel, h'.seq.imp fun c w1 S1 H1 p q z => z.ret q⟩
theorem v_and (ha : PE X a (tE Z call gl X W pa)) (hb : PE X (.BoolOp .And (b :: rest) pos) (tE Z call gl X W pb)) : PE X (.BoolOp .And (a :: b :: rest) pos) (tE Z call gl X W (.and_ pa pb)) := by
  refine imp_pe (L2.pe_and ha hb) fun σ H Q ⟨w, S, r, rel, h⟩ => ?_
  rw [evalE] at h
  refine tE_mono (tE_step rel h) fun v H1 ⟨x, w1, S1, r1, hx, p1, h1⟩ => ?_
  obtain ⟨c, _, e, q⟩ := blOf_ok r1.s hx h1.seq
  refine ⟨c, e, ?_⟩
  cases c with
  | true => exact ⟨w1, S1, r, r1, q⟩
  | false => exact q.ret r1.s _ (by rw [Rep])
theorem v_or (ha : PE X a (tE Z call gl X W pa)) (hb : PE X (.BoolOp .Or (b :: rest) pos) (tE Z call gl X W pb)) : PE X (.BoolOp .Or (a :: b :: rest) pos) (tE Z call gl X W (.or_ pa pb)) := by
  refine imp_pe (L2.pe_or ha hb) fun σ H Q ⟨w, S, r, rel, h⟩ => ?_
  rw [evalE] at h
  refine tE_mono (tE_step rel h) fun v H1 ⟨x, w1, S1, r1, hx, p1, h1⟩ => ?_
  obtain ⟨c, _, e, q⟩ := blOf_ok r1.s hx h1.seq
  refine ⟨c, e, ?_⟩
  cases c with
  | true => exact q.ret r1.s _ (by rw [Rep])
  | false => exact ⟨w1, S1, r, r1, q⟩
theorem v_not (ha : PE X a (tE Z call gl X W pa)) : PE X (.UnaryOp .Not a pos) (tE Z call gl X W (.not_ pa)) := by
  refine imp_pe (L2.pe_not ha) fun σ H Q ⟨w, S, r, rel, h⟩ => ?_
  rw [evalE] at h
  refine tE_mono (tE_step rel h) fun v H1 ⟨x, w1, S1, r1, hx, p1, h1⟩ => ?_
  obtain ⟨c, _, e, q⟩ := blOf_ok r1.s hx h1.seq
  exact ⟨c, e, q.ret r1.s _ (by rw [Rep])⟩
theorem s_ite {c : Expr} (hc : PT X c (tB Z call gl X W pc)) (ha : PE X a (tE Z call gl X W pa)) (hb : PE X b (tE Z call gl X W pb)) : PE X (.IfExp c a b pos) (tE Z call gl X W (.ite pc pa pb)) := by
  refine imp_pe (L2.pe_ifExp hc ha hb) fun σ H Q ⟨w, S, r, rel, h⟩ => ?_
  rw [evalE, ← seq_assoc] at h
  refine ⟨w, S, r, rel, h.seq.imp fun t w1 S1 H1 p q z => ?_⟩
  cases t with
  | true => exact ⟨w1, S1, r, ⟨q, rel.e.mono p.toExt⟩, z⟩
  | false => exact ⟨w1, S1, r, ⟨q, rel.e.mono p.toExt⟩, z⟩
theorem s_neg (ha : PE X a (tE Z call gl X W pa)) : PE X (.UnaryOp .USub a pos) (tE Z call gl X W (.neg pa)) := by
  refine imp_pe (L2.pe_un L2.un_neg ha) fun σ H Q ⟨w, S, r, rel, h⟩ => ?_
  rw [evalE] at h
  refine tE_mono (tE_step rel h) fun v H1 ⟨x, w1, S1, r1, hx, p1, h1⟩ => ?_
  obtain ⟨c, _, e, q⟩ := intOf_ok r1.s hx h1.seq
  exact ⟨c, e, q.ret r1.s _ (by rw [Rep])⟩
end
end EV
end
section
set_option Elab.async false
set_option linter.all false
set_option maxRecDepth 100000
set_option maxHeartbeats 4000000
/-! EV, part e: items, slices, fields, displays, built-ins. -/
namespace EV
open L2 (V HO Hp upd upd_same upd_ne SqT SqL Rd Key Cx Ends TE TT TA TS TG TI PE PT PA PS PSs PG PI VK XK WX PC OpR R2 CallR)
open PySem PySem.Spec

variable {K : PySem.W.Frag} {Z : Zt} {w w1 : Wl} {H H1 : Hp} {S S1 : Store} {r : Env} {σ : L2.St} {α β : Type} {Wx : Value → Option Addr → Hp → Prop}
variable {call : Nat → List D → M D} {gl : List D} {X : Cx} {W : WX} {Q : VK}

theorem s_chain {o p : Cm} {a b c : Expr} {pa pb pc : E} {pos : Pos} (ho : CmOf X Z (astC o) o) (hp : CmOf X Z (astC p) p) (ha : PE X a (tE Z call gl X W pa)) (hb : PE X b (tE Z call gl X W pb)) (hc : PE X c (tE Z call gl X W pc))
    (hm : lastMarks [astC o, astC p] [b, c] = false) : PE X (.Compare a [astC o, astC p] [b, c] pos) (tE Z call gl X W (.chain o p pa pb pc)) ∧ PT X (.Compare a [astC o, astC p] [b, c] pos) (tB Z call gl X W (.chain o p pa pb pc)) := by
  obtain ⟨r1, h1, k1⟩ := ho
  obtain ⟨r2, h2, k2⟩ := hp
  have key : ∀ σ H Q, tE Z call gl X W (.chain o p pa pb pc) σ H Q → L2.tChain r1 r2 (tE Z call gl X W pa) (tE Z call gl X W pb) (tE Z call gl X W pc) σ H Q := fun σ H Q ⟨w, S, r, rel, h⟩ => by
    rw [evalE] at h
    refine tE_two rel h fun v u H2 x y w2 S2 rel2 hx hy q => ?_
    refine k1 _ w2 S2 H2 x y v u _ rel2.s hx hy (q.seq.imp fun z w3 S3 H3 p3 s3 q3 z' hz => ?_)
    obtain ⟨t, _, e, q4⟩ := blOf_ok s3 hz q3.seq
    refine ⟨t, e, ?_⟩
    cases t with
    | true =>
      have q4 : Aft X.K Z (fun c d H => W c d σ H) w3 S3 H3 (M.seq (evalE call gl pc r) fun u => cm p y u) (End X.K Z Q) := q4
      refine (tE_mono (tE_step ⟨s3, rel2.e.mono p3.toExt⟩ q4) fun c' H4 ⟨d, w4, S4, rel4, hd, p4, q5⟩ => ?_ : _)
      exact k2 _ w4 S4 H4 y d u c' Q rel4.s (Rep.mono p4 (Rep.mono p3.toExt hy)) hd q5
    | false => exact q4.ret s3 _ (by rw [Rep])
  refine ⟨imp_pe (L2.pe_chain h1 h2 ha hb hc hm) key, ?_⟩
  exact imp_pt (L2.pt_chain h1 h2 ha hb hc hm) fun σ H Q h => key _ _ _ (tB_of h)
theorem imp_pa {es : List Expr} {t t' : TA} (h : PA X es t) (f : ∀ σ H Q, t' σ H Q → t σ H Q) : PA X es t' := ⟨fun pos pins s σ H Q I z => h.run pos pins s σ H Q I (f σ H Q z)⟩
/-! ### argument lists -/
def noStar : Expr → Bool
  | .Starred .. => false
  | _ => true
theorem star_cons {e : Expr} {es : List Expr} {env : PySem.Env} (h : noStar e = true) : starEach (e :: es) env = (false, eval e env) :: starEach es env := by
  cases e <;> first | rfl | cases h
theorem back_any {pos : Pos} {env : PySem.Env} : ∀ {es : List Expr}, es.all noStar = true → (backTo pos (starEach es env)).any (·.1) = false
  | [], _ => rfl
  | e :: es, h => by
    rw [List.all_cons, Bool.and_eq_true] at h
    rw [star_cons h.1]
    show (false || (backTo pos (starEach es env)).any (·.1)) = false
    rw [back_any h.2]
    rfl
theorem tEs_mono {e : Es} {Q Q' : List V → Hp → Prop} (h : tEs Z call gl X W e σ H Q) (f : ∀ v H1, Q v H1 → Q' v H1) : tEs Z call gl X W e σ H Q' := by
  obtain ⟨w, S, r, rel, h⟩ := h
  exact ⟨w, S, r, rel, h.imp fun d w1 S1 H1 p q z v hv => f v H1 (z v hv)⟩
/-- a sequence that may be walked -/
theorem seqOf_ok {d : D} {v : V} {R : List D → Wl → Store → Hp → Prop} (s : SRel K Z w H S) (hd : Rep K Z w H d v) (h : Aft K Z Wx w S H (seqOf d) R) :
    ∃ a us xs, v = .ref a ∧ (SqL K H a us ∨ SqT K H a us) ∧ Reps K Z w H xs us ∧ seqOf d = .ret xs ∧ R xs w S H := by
  cases d with
  | tup xs =>
    rw [Rep] at hd
    obtain ⟨a, us, e, q, r⟩ := hd
    exact ⟨a, us, xs, e, .inr q, r, rfl, h.ret s⟩
  | fl xs =>
    rw [Rep] at hd
    obtain ⟨a, us, e, _, q, r⟩ := hd
    exact ⟨a, us, xs, e, .inl (L2.SqL.of q), r, rfl, h.ret s⟩
  | sl xs =>
    rw [Rep] at hd
    obtain ⟨a, us, e, q, r⟩ := hd
    exact ⟨a, us, xs, e, .inl (q.elim (fun z => .inl z.2) fun z => z H), r, rfl, h.ret s⟩
  | _ => exact h.no.elim
section
variable {e : Expr} {es : List Expr} {pe : E} {pes : Es} {pos : Pos}
theorem es_nil : PA X [] (tEs Z call gl X W .nil) := imp_pa L2.pa_nil fun σ H Q ⟨w, S, r, rel, h⟩ => by
  rw [evalEs] at h
  exact h.ret rel.s [] Reps.nil
theorem es_cons (hs : noStar e = true) (ha : PE X e (tE Z call gl X W pe)) (hr : PA X es (tEs Z call gl X W pes)) : PA X (e :: es) (tEs Z call gl X W (.cons pe pes)) :=
  imp_pa (L2.pa_cons ha hr (star_cons hs)) fun σ H Q ⟨w, S, r, rel, h⟩ => by
    rw [evalEs] at h
    refine tE_mono (tE_step rel h) fun v H1 ⟨x, w1, S1, r1, hx, p1, h1⟩ => ?_
    refine tEs_mono (tEs_step r1 h1) fun vs H2 ⟨xs, w2, S2, r2, hxs, p2, h2⟩ => ?_
    exact h2.ret r2.s (v :: vs) (Reps.cons (Rep.mono p2 hx) hxs)
theorem es_star {p : Pos} (ha : PE X e (tE Z call gl X W pe)) (hr : PA X es (tEs Z call gl X W pes)) : PA X (.Starred e p :: es) (tEs Z call gl X W (.star pe pes)) :=
  imp_pa (StX.pa_star ha hr) fun σ H Q ⟨w, S, r, rel, h⟩ => by
    rw [evalEs] at h
    refine tE_mono (tE_step rel h) fun v H1 ⟨x, w1, S1, r1, hx, p1, h1⟩ => ?_
    obtain ⟨a, us, xs, rfl, hq, hr, _, h1⟩ := seqOf_ok r1.s hx h1.seq
    refine ⟨a, us, rfl, hq.symm, ?_⟩
    refine tEs_mono (tEs_step r1 h1) fun vs H2 ⟨ys, w2, S2, r2, hys, p2, h2⟩ => ?_
    exact h2.ret r2.s (us ++ vs) (Reps.app (Reps.mono p2 hr) hys)
theorem s_tup {k : Nat} (ha : PA X es (tEs Z call gl X W pes)) : PE X (.Tuple es k pos) (tE Z call gl X W (.tup pes)) :=
  imp_pe (L2.pe_tup ha) fun σ H Q ⟨w, S, r, rel, h⟩ => by
    rw [evalE] at h
    refine tEs_mono (tEs_step rel h) fun vs H1 ⟨xs, w1, S1, r1, hx, p1, h1⟩ => ?_
    split at h1
    · rename_i hz
      exact ⟨by rw [← Reps.len hx]; exact lt_line hz, fun p hp => new_tup h1 r1.s hp hx⟩
    · exact h1.no.elim
end
/-! ### new lists -/
abbrev EndL (K : PySem.W.Frag) (Z : Zt) (H : Hp) (Q : VK) : List D → Wl → Store → Hp → Prop := fun ds w' S' H' =>
  ∀ p xs, H p = none → p ∉ w'.hid → H' p = some (.lst xs) → SRel K Z (w'.hide p) H' S' → Reps K Z (w'.hide p) H' ds xs → Q (.ref p) H'
theorem new_L {H0 : Hp} {ds : List D} {vs : List V} {p : Addr} (h : Aft K Z Wx w S H (.ret ds) (EndL K Z H0 Q)) (s : SRel K Z w H S) (x : ∀ a, H a = none → H0 a = none) (hp : H p = none) (hr : Reps K Z w H ds vs) : Q (.ref p) (upd H p (.lst vs)) := by
  have n1 : ∀ xs, HO.lst vs ≠ HO.tup xs := fun _ z => by cases z
  have n2 : ∀ q x, HO.lst vs ≠ HO.frz q x := fun _ _ z => by cases z
  refine h w _ (Post.new s hp) (s.new hp) p vs (x p hp) (s.out_new hp).2 upd_same (s.hide hp n1 n2) (Reps.mono (Ext.hide s hp) hr)
section
variable {e a b : Expr} {es : List Expr} {pe pa pb : E} {pes : Es} {pos : Pos} {l : L}
theorem l_disp (ha : PA X es (tEs Z call gl X W pes)) : PE X (.List es pos) (tL Z call gl X W (.disp pes)) :=
  imp_pe (L2.pe_lst ha) fun σ H Q ⟨w, S, r, rel, h⟩ => by
    rw [evalL] at h
    refine tEs_mono (tEs_step rel h) fun vs H1 ⟨xs, w1, S1, r1, hx, p1, h1⟩ => ?_
    split at h1
    · rename_i hz
      exact ⟨by rw [← Reps.len hx]; exact lt_line hz, fun p hp => new_L h1 r1.s p1.dom hp hx⟩
    · exact h1.no.elim
theorem l_list {p : Pos} (hg : L2.Gl X "list") (hm : X.mg "list" = none) (hs : noStar e = true) (ha : PE X e (tE Z call gl X W pe)) : PE X (.Call (.Name "list" p) [e] [] pos) (tL Z call gl X W (.list pe)) :=
  imp_pe (L2.pe_callTy L2.call_list_of hg hm PyProof.Rows.boot_list (L2.pa_cons ha L2.pa_nil (star_cons hs)) (by decide) (by decide) (star_cons hs) (back_any rfl)) fun σ H Q ⟨w, S, r, rel, h⟩ => by
    rw [evalL] at h
    refine tE_mono (tE_step rel h) fun v H1 ⟨x, w1, S1, r1, hx, p1, h1⟩ => ?_
    have h2 : Aft X.K Z (fun c d H => W c d σ H) w1 S1 H1 (M.seq (seqOf x) .ret) (EndL X.K Z H Q) := by
      have : M.seq (seqOf x) .ret = seqOf x := by funext S; unfold M.seq; cases seqOf x S <;> rfl
      rw [this]; exact h1
    obtain ⟨a, us, xs, rfl, hq, hr, _, h3⟩ := seqOf_ok r1.s hx h2.seq
    exact ⟨a, us, rfl, hq, fun p hp => new_L h3 r1.s p1.dom hp hr⟩
theorem l_cat (ha : PE X a (tE Z call gl X W pa)) (hb : PE X b (tE Z call gl X W pb)) : PE X (.BinOp a .Add b pos) (tL Z call gl X W (.cat pa pb)) :=
  imp_pe (L2.pe_op L2.op_cat ha hb) fun σ H Q ⟨w, S, r, rel, h⟩ => by
    rw [evalL] at h
    refine tE_mono (tE_step rel h) fun v H1 ⟨x, w1, S1, r1, hx, p1, h1⟩ => ?_
    refine tE_mono (tE_step r1 h1) fun u H2 ⟨y, w2, S2, r2, hy, p2, h2⟩ => ?_
    have hx := Rep.mono p2 hx
    have dm := (p1.trans p2).dom
    cases x with
    | fl xs =>
      cases y with
      | fl ys =>
        rw [Rep] at hx hy
        obtain ⟨a, us, rfl, _, ha, hu⟩ := hx
        obtain ⟨b, ws, rfl, _, hb, hw⟩ := hy
        simp only at h2
        split at h2
        · rename_i hz
          exact ⟨a, b, us, ws, rfl, rfl, ha, hb, by rw [← Reps.len hu, ← Reps.len hw]; exact lt_line hz, fun p hp => new_L h2 r2.s dm hp (Reps.app hu hw)⟩
        · exact h2.no.elim
      | _ => exact h2.no.elim
    | _ => exact h2.no.elim
theorem l_rep (ha : PE X a (tE Z call gl X W pa)) (hb : PE X b (tE Z call gl X W pb)) : PE X (.BinOp a .Mult b pos) (tL Z call gl X W (.rep pa pb)) :=
  imp_pe (L2.pe_op L2.op_rep ha hb) fun σ H Q ⟨w, S, r, rel, h⟩ => by
    rw [evalL] at h
    refine tE_mono (tE_step rel h) fun v H1 ⟨x, w1, S1, r1, hx, p1, h1⟩ => ?_
    refine tE_mono (tE_step r1 h1) fun u H2 ⟨y, w2, S2, r2, hy, p2, h2⟩ => ?_
    have hx := Rep.mono p2 hx
    have dm := (p1.trans p2).dom
    cases x with
    | fl xs =>
      cases y with
      | int k =>
        rw [Rep] at hx
        rw [rep_int] at hy
        obtain ⟨a, us, rfl, _, ha, hu⟩ := hx
        simp only at h2
        split at h2
        · rename_i hz
          refine ⟨a, k, us, rfl, hy, ha, by omega, by omega, ?_, fun p hp => new_L h2 r2.s dm hp (Reps.rep hu _)⟩
          rw [← Reps.len hu, PySem.sizeLine_eq]
          calc xs.length * k.toNat ≤ 1000 * 1000 := Nat.mul_le_mul hz.2.2 (by omega)
            _ ≤ 16777216 := by decide
        · exact h2.no.elim
      | _ => exact h2.no.elim
    | _ => exact h2.no.elim
theorem out_of_hidden {p : Addr} (sr : SRel K Z (w.hide p) H S) (hp : p ∉ w.hid) : Out w p := ⟨fun n e => sr.apart n p e List.mem_cons_self, hp⟩
theorem s_fl (ha : PE X e (tL Z call gl X W l)) : PE X e (tE Z call gl X W (.fl l)) :=
  imp_pe ha fun σ H Q ⟨w, S, r, rel, h⟩ => by
    rw [evalE] at h
    refine ⟨w, S, r, rel, h.seq.imp fun ds w1 S1 H1 p1 s1 q p xs hn hp hx sr rr => ?_⟩
    refine q w1 H1 Post.rfl s1 (.ref p) ?_
    rw [Rep]
    exact ⟨p, xs, rfl, out_of_hidden sr hp, hx, Reps.mono Ext.unhide rr⟩
theorem Post.push {p : Addr} (p1 : Post K w H w1 H1) (hn : H p = none) : Post K w H (w1.push p) H1 := by
  refine ⟨⟨p1.tup, fun a o h k => ?_, fun n o h => ?_, p1.dom⟩, p1.hid, p1.still, fun n a hl e => ?_⟩
  rotate_right
  · have e : (w1.l ++ [some p])[n]? = some (some a) := e
    rcases Nat.lt_trichotomy n w1.l.length with q | q | q
    · rw [List.getElem?_append_left q] at e
      exact p1.fresh n a hl e
    · subst q
      simp at e
      rw [← e]
      exact hn
    · rw [List.getElem?_eq_none (by simp; omega)] at e; cases e
  · obtain ⟨z1, z2, z3⟩ := p1.keep a o h k
    refine ⟨z1, fun n e => ?_, z3⟩
    have e : (w1.l ++ [some p])[n]? = some (some a) := e
    rcases Nat.lt_trichotomy n w1.l.length with q | q | q
    · rw [List.getElem?_append_left q] at e
      exact z2 n e
    · subst q
      simp at e
      rw [← e, hn] at h
      cases h
    · rw [List.getElem?_eq_none (by simp; omega)] at e; cases e
  · obtain ⟨q, hq, he⟩ := p1.ref n o h
    refine ⟨q, ?_, he⟩
    show (w1.l ++ [some p])[n]? = some q
    rw [List.getElem?_append_left (lt_of_get hq)]
    exact hq
theorem rep_pushed {p : Addr} (hl : w.l.length = S.length) : Rep K Z (w.push p) H (.ref S.length) (.ref p) := by
  rw [Rep]
  exact ⟨p, some p, rfl, by show (w.l ++ [some p])[S.length]? = _; rw [← hl]; simp, fun b e => by cases e; rfl⟩
theorem s_nw (ha : PE X e (tL Z call gl X W l)) : PE X e (tE Z call gl X W (.nw l)) :=
  imp_pe ha fun σ H Q ⟨w, S, r, rel, h⟩ => by
    rw [evalE] at h
    refine ⟨w, S, r, rel, h.seqD.imp fun ds w1 S1 H1 p1 s1 q p xs hn hp hx sr rr => ?_⟩
    exact q (w1.push p) H1 (p1.push hn) (SRel.push sr hp ⟨xs, hx, rr⟩) (.ref p) (rep_pushed s1.len)
end
end EV
end
section
set_option Elab.async false
set_option linter.all false
set_option maxRecDepth 100000
set_option maxHeartbeats 4000000
/-! EV, part f: items, slices, fields, built-ins, lists that grow. -/
namespace EV
open L2 (V HO Hp upd upd_same upd_ne SqT SqL Rd Key Cx Ends TE TT TA TS TG TI PE PT PA PS PSs PG PI VK XK WX PC OpR R2 CallR)
open PySem PySem.Spec

variable {K : PySem.W.Frag} {Z : Zt} {w w1 : Wl} {H H1 : Hp} {S S1 : Store} {r : Env} {σ : L2.St} {α β : Type} {Wx : Value → Option Addr → Hp → Prop}
variable {call : Nat → List D → M D} {gl : List D} {X : Cx} {W : WX} {Q : VK}
variable {e a b c : Expr} {es : List Expr} {pe pa pb pc : E} {pes : Es} {pos p2 : Pos}

theorem ix_eq (n : Nat) (i : Int) : L2.ixN n i = ix n i := rfl
theorem nth_eq {xs : List D} {us : List V} {j : Int} {d : D} (h : Reps K Z w H xs us) (e : nth xs j = some d) : ∃ v, L2.atI us j = some v ∧ Rep K Z w H d v := by
  unfold nth at e
  rw [Reps.len h] at e
  unfold L2.atI
  rw [ix_eq]
  cases q : ix us.length j with
  | none => rw [q] at e; cases e
  | some k =>
    rw [q] at e
    obtain ⟨v, h1, h2⟩ := Reps.get h e
    exact ⟨v, h1, h2⟩
def notSlice : Expr → Bool
  | .Slice .. => false
  | _ => true
theorem plain_ix (h : notSlice b = true) : L2.PlainIx b := by
  intro o i
  cases b <;> first | rfl | cases h
/-- a list or a tuple, wherever it is -/
theorem lst_ok {d : D} {v : V} {R : List D → Wl → Store → Hp → Prop} (s : SRel K Z w H S) (hd : Rep K Z w H d v) (h : Aft K Z Wx w S H (lstOf d) R) :
    ∃ a us xs, v = .ref a ∧ H a = some (.lst us) ∧ Reps K Z w H xs us ∧ R xs w S H := by
  cases d with
  | fl xs =>
    rw [Rep] at hd
    obtain ⟨a, us, e, _, q, r⟩ := hd
    exact ⟨a, us, xs, e, q, r, h.ok (a := xs) rfl w H Post.rfl s⟩
  | ref n =>
    cases e : S[n]? with
    | none => exact (h.bad (by unfold lstOf; simp only [e])).elim
    | some o =>
      cases o with
      | lst xs =>
        obtain ⟨a, e1, _, us, e2, e3⟩ := s.at_ hd e (fun z => by cases z)
        exact ⟨a, us, xs, e1, e2, e3, h.ok (a := xs) (by unfold lstOf; simp only [e]) w H Post.rfl s⟩
      | _ => exact (h.bad (by unfold lstOf; simp only [e])).elim
  | _ => exact (h.bad rfl).elim
theorem sl_sq {xs : List D} {v : V} (h : Rep K Z w H (.sl xs) v) : ∃ a us, v = .ref a ∧ SqL K H a us ∧ Reps K Z w H xs us := by
  rw [Rep] at h
  obtain ⟨a, us, e, q, r⟩ := h
  exact ⟨a, us, e, q.elim (fun z => .inl z.2) fun z => z H, r⟩
theorem s_idx {k : Nat} (hr : L2.Room k X.A) (hZ : Z.P = X.prog ∧ Z.w = X.w) (ha : PE X a (tE Z call gl X W pa)) (hb : PE X b (tE Z call gl X W pb)) (hs : notSlice b = true) :
    PE X (.Subscript a b pos) (tE Z call gl X W (.idx pa pb)) := by
  refine imp_pe (L2.pe_ix (L2.IxR.or (ix_dict (by have := hr.un; omega)) (L2.IxR.or L2.ix_list L2.ix_tup)) ha hb (plain_ix hs)) fun σ H Q ⟨w, S, r, rel, h⟩ => ?_
  rw [evalE] at h
  refine tE_two rel h fun v u H2 x y w2 S2 r2 hx hy q => ?_
  unfold getI at q
  obtain ⟨b, hb, q⟩ := isDict_ok r2.s q.seq
  cases b with
  | true =>
    rw [if_pos rfl] at q
    obtain ⟨a, t, ks, vs, rfl, h2, q⟩ := dict_of r2.s hx q.seq
    simp only at q
    split at q
    · rename_i hk
      refine .inl ⟨a, ?_⟩
      obtain ⟨d, e, q⟩ := q.opt r2.s
      rcases dict_get h2 hk hy with ⟨d', v', e1, e2, e3⟩ | ⟨e1, e2⟩
      · rw [e1] at e
        cases e
        rw [← hZ.1, ← hZ.2]
        exact ⟨v', rfl, e2, q v' e3⟩
      · rw [e1] at e; cases e
    · exact q.no.elim
  | false =>
    rw [if_neg Bool.false_ne_true] at q
    cases y with
    | int j =>
      rw [rep_int] at hy
      cases x with
      | tup xs =>
        rw [Rep] at hx
        obtain ⟨a, us, rfl, h1, h2⟩ := hx
        obtain ⟨d, e, q⟩ := q.opt r2.s
        obtain ⟨v, e1, e2⟩ := nth_eq h2 e
        exact .inr (.inr ⟨a, us, j, v, rfl, hy, h1, e1, q v e2⟩)
      | fl xs =>
        rw [Rep] at hx
        obtain ⟨a, us, rfl, _, h1, h2⟩ := hx
        obtain ⟨d, e, q⟩ := q.opt r2.s
        obtain ⟨v, e1, e2⟩ := nth_eq h2 e
        exact .inr (.inl ⟨a, us, j, v, rfl, hy, L2.SqL.of h1, e1, q v e2⟩)
      | sl xs =>
        obtain ⟨a, us, rfl, h1, h2⟩ := sl_sq hx
        obtain ⟨d, e, q⟩ := q.opt r2.s
        obtain ⟨v, e1, e2⟩ := nth_eq h2 e
        exact .inr (.inl ⟨a, us, j, v, rfl, hy, h1, e1, q v e2⟩)
      | ref n =>
        obtain ⟨a, us, xs, rfl, h1, h2, q⟩ := lst_ok r2.s hx q.seq
        obtain ⟨d, e, q⟩ := q.opt r2.s
        obtain ⟨v, e1, e2⟩ := nth_eq h2 e
        exact .inr (.inl ⟨a, us, j, v, rfl, hy, L2.SqL.of h1, e1, q v e2⟩)
      | _ => exact q.no.elim
    | _ => exact q.no.elim
/-! ### slices -/
theorem sl_ok {d : D} {v : V} {lo hi : Option Int} (s : SRel K Z w H S) (hd : Rep K Z w H d v) (h : Aft K Z Wx w S H (sliceI d lo hi) (End K Z Q)) : L2.rSlL K v lo hi H Q ∨ L2.rSlA K v lo hi H Q := by
  cases d with
  | tup xs =>
    rw [Rep] at hd
    obtain ⟨a, us, rfl, h1, h2⟩ := hd
    have h : Aft K Z Wx w S H (.ret (.tup (cut xs lo hi))) (End K Z Q) := h
    refine .inr ⟨a, us, rfl, h1, fun ⟨z1, z2⟩ => ?_, fun _ p hp => ?_⟩
    · refine h.ret s _ ?_
      have e : cut xs lo hi = xs := by
        unfold cut
        rw [edge_eq] at z1 z2
        rw [← Reps.len h2] at z1 z2
        rw [z1, z2]
        simp
      rw [e, Rep]
      exact ⟨a, us, rfl, h1, h2⟩
    · rw [cut_eq (α := V)]
      exact new_tup h s hp (Reps.cut lo hi h2)
  | fl xs =>
    rw [Rep] at hd
    obtain ⟨a, us, rfl, _, h1, h2⟩ := hd
    refine .inl ⟨a, us, rfl, L2.SqL.of h1, fun p hp => ?_⟩
    rw [cut_eq (α := V)]
    exact new_lst h s hp (Reps.cut lo hi h2)
  | sl xs =>
    obtain ⟨a, us, rfl, h1, h2⟩ := sl_sq hd
    refine .inl ⟨a, us, rfl, h1, fun p hp => ?_⟩
    rw [cut_eq (α := V)]
    exact new_lst h s hp (Reps.cut lo hi h2)
  | ref n =>
    have h : Aft K Z Wx w S H (M.seq (lstOf (.ref n)) fun x => .ret (.fl (cut x lo hi))) (End K Z Q) := h
    obtain ⟨a, us, xs, rfl, h1, h2, q⟩ := lst_ok s hd h.seq
    refine .inl ⟨a, us, rfl, L2.SqL.of h1, fun p hp => ?_⟩
    rw [cut_eq (α := V)]
    exact new_lst q s hp (Reps.cut lo hi h2)
  | _ => exact h.no.elim
theorem s_sl0 (ha : PE X a (tE Z call gl X W pa)) : PE X (.Subscript a (.Slice none none none p2) pos) (tE Z call gl X W (.sl0 pa)) :=
  imp_pe (L2.pe_slice (L2.SlR.or L2.sl_list L2.sl_tupA) ha L2.po_none L2.po_none) fun σ H Q ⟨w, S, r, rel, h⟩ => by
    rw [evalE] at h
    refine tE_mono (tE_step rel h) fun v H1 ⟨x, w1, S1, r1, hx, p1, h1⟩ => ?_
    exact sl_ok r1.s hx h1
theorem s_slLo (ha : PE X a (tE Z call gl X W pa)) (hb : PE X b (tE Z call gl X W pb)) : PE X (.Subscript a (.Slice (some b) none none p2) pos) (tE Z call gl X W (.slLo pa pb)) :=
  imp_pe (L2.pe_slice (L2.SlR.or L2.sl_list L2.sl_tupA) ha (L2.po_some hb) L2.po_none) fun σ H Q ⟨w, S, r, rel, h⟩ => by
    rw [evalE] at h
    refine tE_mono (tE_step rel h) fun v H1 ⟨x, w1, S1, r1, hx, p1, h1⟩ => ?_
    refine tE_mono (tE_step r1 h1) fun u H2 ⟨y, w2, S2, r2, hy, p2, h2⟩ => ?_
    obtain ⟨i, _, rfl, h3⟩ := intOf_ok r2.s hy h2.seq
    exact ⟨i, rfl, sl_ok r2.s (Rep.mono p2 hx) h3⟩
theorem s_slHi (ha : PE X a (tE Z call gl X W pa)) (hb : PE X b (tE Z call gl X W pb)) : PE X (.Subscript a (.Slice none (some b) none p2) pos) (tE Z call gl X W (.slHi pa pb)) :=
  imp_pe (L2.pe_slice (L2.SlR.or L2.sl_list L2.sl_tupA) ha L2.po_none (L2.po_some hb)) fun σ H Q ⟨w, S, r, rel, h⟩ => by
    rw [evalE] at h
    refine tE_mono (tE_step rel h) fun v H1 ⟨x, w1, S1, r1, hx, p1, h1⟩ => ?_
    refine tE_mono (tE_step r1 h1) fun u H2 ⟨y, w2, S2, r2, hy, p2, h2⟩ => ?_
    obtain ⟨i, _, rfl, h3⟩ := intOf_ok r2.s hy h2.seq
    exact ⟨i, rfl, sl_ok r2.s (Rep.mono p2 hx) h3⟩
theorem s_slLH (ha : PE X a (tE Z call gl X W pa)) (hb : PE X b (tE Z call gl X W pb)) (hc : PE X c (tE Z call gl X W pc)) : PE X (.Subscript a (.Slice (some b) (some c) none p2) pos) (tE Z call gl X W (.slLH pa pb pc)) :=
  imp_pe (L2.pe_slice (L2.SlR.or L2.sl_list L2.sl_tupA) ha (L2.po_some hb) (L2.po_some hc)) fun σ H Q ⟨w, S, r, rel, h⟩ => by
    rw [evalE] at h
    refine tE_mono (tE_step rel h) fun v H1 ⟨x, w1, S1, r1, hx, p1, h1⟩ => ?_
    refine tE_mono (tE_step r1 h1) fun u H2 ⟨y, w2, S2, r2, hy, p2, h2⟩ => ?_
    obtain ⟨i, _, rfl, h3⟩ := intOf_ok r2.s hy h2.seq
    refine ⟨i, rfl, ?_⟩
    refine tE_mono (tE_step r2 h3) fun u H3 ⟨y, w3, S3, r3, hy, p3, h4⟩ => ?_
    obtain ⟨j, _, rfl, h5⟩ := intOf_ok r3.s hy h4.seq
    exact ⟨j, rfl, sl_ok r3.s (Rep.mono p3 (Rep.mono p2 hx)) h5⟩
theorem s_rev {k : Nat} {p1 p3 p4 : Pos} (ha : PE X a (tE Z call gl X W pa)) : PE X (.Subscript a (.Slice none none (some (.UnaryOp .USub (.Constant (.int 1) k p1) p3)) p4) pos) (tE Z call gl X W (.rev pa)) :=
  imp_pe (L2.pe_revL ha) fun σ H Q ⟨w, S, r, rel, h⟩ => by
    rw [evalE] at h
    refine tE_mono (tE_step rel h) fun v H1 ⟨x, w1, S1, r1, hx, p1, h1⟩ => ?_
    cases x with
    | fl xs =>
      rw [Rep] at hx
      obtain ⟨a, us, rfl, _, h2, h3⟩ := hx
      exact ⟨a, us, rfl, L2.SqL.of h2, fun p hp => new_lst h1 r1.s hp (Reps.rev h3)⟩
    | _ => exact h1.no.elim
/-! ### fields -/
/-- not super() -/
def notCall0 : Expr → Bool
  | .Call _ [] [] _ => false
  | _ => true
theorem base_ok {f : Str} {env : PySem.Env} (h : notCall0 a = true) : attributeBase a f env (eval a env) = eval a env := by
  cases a <;> first | rfl | skip
  rename_i g es kws p
  cases es <;> cases kws <;> first | (cases h; done) | (cases g <;> rfl)
theorem getF_ok {f : Nat} (hF : ∀ m n, Z.fN m = Z.fN n → m = n) : ∀ {ns : List Nat} {vs : List D} {fs : List (Str × V)} {d : D}, fs.map (·.1) = ns.map Z.fN → Reps K Z w H vs (fs.map (·.2)) → getF f ns vs = some d → ∃ v, fs.lookup (Z.fN f) = some v ∧ Rep K Z w H d v
  | [], _, _, _, _, _, e => by simp [getF] at e
  | n :: ns, [], _, _, _, _, e => by simp [getF] at e
  | n :: ns, d :: ds, fs, d', h, q, e => by
    cases fs with
    | nil => cases h
    | cons y fs =>
      simp only [List.map_cons, List.cons.injEq] at h
      rw [List.map_cons, Reps] at q
      obtain ⟨v, us, e1, h1, h2⟩ := q
      cases e1
      obtain ⟨y1, y2⟩ := y
      rw [getF] at e
      have h0 : y1 = Z.fN n := h.1
      subst h0
      by_cases z : n = f
      · rw [if_pos z] at e
        cases e
        subst z
        exact ⟨y2, by simp [List.lookup], h1⟩
      · rw [if_neg z] at e
        obtain ⟨u, e2, e3⟩ := getF_ok hF h.2 h2 e
        refine ⟨u, ?_, e3⟩
        have : (Z.fN f == Z.fN n) = false := beq_eq_false_iff_ne.mpr fun x => z (hF _ _ x).symm
        simp only [List.lookup, this, e2]
theorem s_fld {cl f : Nat} (hF : ∀ m n, Z.fN m = Z.fN n → m = n) (hC : L2.Cls X.K (Z.cA cl)) (hN : L2.NoAttr X.K (Z.cA cl) (Z.fN f)) (hb : notCall0 a = true) (ha : PE X a (tE Z call gl X W pa)) :
    PE X (.Attribute a (Z.fN f) pos) (tE Z call gl X W (.fld cl pa f)) :=
  imp_pe (L2.pe_fld ha (base_ok hb)) fun σ H Q ⟨w, S, r, rel, h⟩ => by
    rw [evalE] at h
    refine tE_mono (tE_step rel h) fun v H1 ⟨x, w1, S1, r1, hx, p1, h1⟩ => ?_
    have key : ∀ {a : Addr} {c : Nat} {ns : List Nat} {vs : List D} {dx : Addr} {fs : List (Str × V)}, c = cl → v = .ref a → H1 a = some (.ins (Z.cA c) dx fs) → fs.map (·.1) = ns.map Z.fN → Reps X.K Z w1 H1 vs (fs.map (·.2)) →
        Aft X.K Z (fun c d H => W c d σ H) w1 S1 H1 (M.opt (getF f ns vs)) (End X.K Z Q) → ∃ a C dx fs v_1, v = V.ref a ∧ H1 a = some (HO.ins C dx fs) ∧ L2.Cls X.K C ∧ L2.NoAttr X.K C (Z.fN f) ∧ List.lookup (Z.fN f) fs = some v_1 ∧ Q v_1 H1 := by
      intro a c ns vs dx fs e1 e2 e3 e4 e5 q
      subst e1
      obtain ⟨d, e, q⟩ := q.opt r1.s
      obtain ⟨u, e6, e7⟩ := getF_ok hF e4 e5 e
      exact ⟨a, _, dx, fs, u, e2, e3, hC, hN, e6, q u e7⟩
    cases x with
    | obj c ns vs =>
      rw [Rep] at hx
      obtain ⟨a, dx, fs, e, _, z1, z2, z3⟩ := hx
      by_cases hc : c = cl
      · have q := h1.seq.ok (a := ()) (by show (if c = cl then _ else _) = _; rw [if_pos hc]) w1 H1 Post.rfl r1.s
        exact key hc e z1 z2 z3 q
      · exact (h1.seq.bad (by show (if c = cl then _ else _) = _; rw [if_neg hc])).elim
    | ref n =>
      cases e : S1[n]? with
      | none => exact (h1.seq.bad (by unfold clsOf; simp only [e])).elim
      | some o =>
        cases o with
        | ins c ns vs =>
          obtain ⟨a, e1, _, dx, fs, z1, z2, z3⟩ := r1.s.at_ hx e (fun z => by cases z)
          by_cases hc : c = cl
          · have q := h1.seq.ok (a := ()) (by unfold clsOf; simp only [e]; rw [if_pos hc]) w1 H1 Post.rfl r1.s
            have eq : fldOf (.ref n) f S1 = M.opt (getF f ns vs) S1 := by unfold fldOf; simp only [e]
            have q : Aft X.K Z (fun c d H => W c d σ H) w1 S1 H1 (M.opt (getF f ns vs)) (End X.K Z Q) := by
              unfold Aft at q ⊢
              rw [eq] at q
              exact q
            exact key hc e1 z1 z2 z3 q
          · exact (h1.seq.bad (by unfold clsOf; simp only [e]; rw [if_neg hc])).elim
        | _ => exact (h1.seq.bad (by unfold clsOf; simp only [e])).elim
    | _ => exact (h1.seq.bad rfl).elim
end EV
end
section
set_option Elab.async false
set_option linter.all false
set_option maxRecDepth 100000
set_option maxHeartbeats 4000000
/-! EV, part g: isinstance, built-ins, lists that grow, new dicts. -/
namespace EV
open L2 (V HO Hp upd upd_same upd_ne SqT SqL Rd Key Cx Ends TE TT TA TS TG TI PE PT PA PS PSs PG PI VK XK WX PC OpR R2 CallR)
open PySem PySem.Spec

variable {K : PySem.W.Frag} {Z : Zt} {w w1 : Wl} {H H1 : Hp} {S S1 : Store} {r : Env} {σ : L2.St} {α β : Type} {Wx : Value → Option Addr → Hp → Prop}
variable {call : Nat → List D → M D} {gl : List D} {X : Cx} {W : WX} {Q : VK}
variable {e a b c : Expr} {es : List Expr} {pe pa pb pc : E} {pes : Es} {pos p2 p3 : Pos}

/-! ### isinstance -/
def tyS : Ty → String
  | .none => "NoneType" | .int => "int" | .bool => "bool" | .str => "str" | .tuple => "tuple" | .list => "list" | .dict => "dict" | .cls _ => ""
/-- types that the text may name -/
def tyN : Ty → Bool
  | .int => true | .bool => true | .str => true | .tuple => true | .list => true | .dict => true | _ => false
def tyB : Ty → Bool
  | .cls _ => false | _ => true
theorem kit_table {s t : Ty} (hs : tyB s = true) (ht : tyN t = true) : L2.kitB (tyS s) (tyS t) = some (isSub s t) := by
  cases s <;> first | (cases hs; done) | (cases t <;> first | (cases ht; done) | decide +kernel)
theorem tup_ty {a : Addr} {us : List V} (h : SqT K H a us) : L2.TyX K H (.ref a) (.type "tuple") := by
  rcases h with (h | ⟨o, h⟩) | ⟨o, its, n, h1, h2, _⟩
  · exact .base (.tup h)
  · exact .fTuple h
  · exact .kTuple h1 h2
theorem ty_ok {d : D} {v : V} {t : Ty} (s : SRel K Z w H S) (hd : Rep K Z w H d v) (h : tyD S d = some t) : tyB t = true ∧ L2.TyX K H v (.type (tyS t)) := by
  cases d with
  | non => cases h; rw [Rep] at hd; subst hd; exact ⟨rfl, .base .non⟩
  | bl b => cases h; rw [Rep] at hd; subst hd; exact ⟨rfl, .base (.bl b)⟩
  | int i => cases h; rw [Rep] at hd; subst hd; exact ⟨rfl, .base (.int i)⟩
  | str x => cases h; rw [Rep] at hd; subst hd; exact ⟨rfl, .base (.str x)⟩
  | tup xs =>
    cases h
    rw [Rep] at hd
    obtain ⟨a, us, rfl, q, _⟩ := hd
    exact ⟨rfl, tup_ty q⟩
  | fl xs =>
    cases h
    rw [Rep] at hd
    obtain ⟨a, us, rfl, _, q, _⟩ := hd
    exact ⟨rfl, .base (.lst q)⟩
  | sl xs => cases h
  | fd t ks vs =>
    cases t with
    | true => cases h
    | false =>
      cases h
      rw [Rep] at hd
      obtain ⟨a, rfl, _, q⟩ := hd
      rcases q with ⟨z, _⟩ | ⟨_, kvs, q, _⟩
      · cases z
      · exact ⟨rfl, .base (.dK q)⟩
  | obj c ns vs => cases h
  | ref n =>
    unfold tyD at h
    cases e : S[n]? with
    | none => simp only [e] at h; cases h
    | some o =>
      simp only [e] at h
      cases o with
      | lst xs =>
        cases h
        obtain ⟨a, rfl, _, us, q, _⟩ := s.at_ hd e (fun z => by cases z)
        exact ⟨rfl, .base (.lst q)⟩
      | dict t ks vs =>
        cases t with
        | true => cases h
        | false =>
          cases h
          obtain ⟨a, rfl, _, q⟩ := s.at_ hd e (fun z => by cases z)
          rcases q with ⟨z, _⟩ | ⟨_, kvs, q, _⟩
          · cases z
          · exact ⟨rfl, .base (.dK q)⟩
      | _ => cases h
theorem boot_ty {t : Ty} (h : tyN t = true) : bootBuiltins (Str.ofString (tyS t)) = some (.type (tyS t)) := by
  cases t <;> first | (cases h; done) | decide +kernel
theorem name_ty {t : Ty} (h : tyN t = true) : (Str.ofString (tyS t) ≠ ("__name__" : Str)) ∧ ((Str.ofString (tyS t) == ("__debug__" : Str)) = false) ∧ (Str.ofString (tyS t) == ("__classdict__" : Str)) = false := by
  cases t <;> first | (cases h; done) | decide +kernel
theorem s_isi {t : Ty} (ht : tyN t = true) (hg : L2.Gl X "isinstance") (hm : X.mg "isinstance" = none) (hg2 : L2.Gl X (Str.ofString (tyS t))) (hm2 : X.mg (Str.ofString (tyS t)) = none) (hs : noStar a = true) (ha : PE X a (tE Z call gl X W pa)) :
    PE X (.Call (.Name "isinstance" p2) [a, .Name (Str.ofString (tyS t)) p3] [] pos) (tE Z call gl X W (.isi pa t)) := by
  have pn : PE X (.Name (Str.ofString (tyS t)) p3) (L2.tC (.ty (tyS t))) := L2.pe_bltn hg2 hm2 (boot_ty ht) rfl (name_ty ht).1 (name_ty ht).2.1
  refine imp_pe (L2.pe_callB L2.call_isi hg hm PyProof.Rows.boot_isinstance (L2.pa_cons ha (L2.pa_cons pn L2.pa_nil rfl) (star_cons hs)) (by decide) (by decide) (star_cons hs) (back_any rfl)) fun σ H Q ⟨w, S, r, rel, h⟩ => ?_
  rw [evalE] at h
  refine tE_mono (tE_step rel h) fun v H1 ⟨x, w1, S1, r1, hx, p1, h1⟩ => ?_
  cases e : tyD S1 x with
  | none => exact (h1.bad (by unfold isTy; simp only [e])).elim
  | some s =>
    obtain ⟨hs, hq⟩ := ty_ok r1.s hx e
    have q := h1.ok (a := .bl (isSub s t)) (by unfold isTy; simp only [e]) w1 H1 Post.rfl r1.s
    exact ⟨v, .ty (tyS t), .type (tyS s), .type (tyS t), isSub s t, rfl, .ty _, hq, L2.kit_ty (kit_table hs ht), q _ (by rw [Rep])⟩

/-! ### built-ins -/
def BiOf (X : Cx) (Z : Zt) (f : Value) (g : List D → M D) : Prop :=
  ∃ r : List V → Hp → VK → Prop, CallR X f r ∧ ∀ (Wx : Value → Option Addr → Hp → Prop) (w : Wl) (S : Store) (H : Hp) (ds : List D) (vs : List V) (Q : VK), SRel X.K Z w H S → Reps X.K Z w H ds vs → Aft X.K Z Wx w S H (g ds) (End X.K Z Q) → r vs H Q
theorem reps1 {d : D} {vs : List V} (h : Reps K Z w H [d] vs) : ∃ v, vs = [v] ∧ Rep K Z w H d v := by
  rw [Reps] at h
  obtain ⟨v, r, rfl, h1, h2⟩ := h
  rw [Reps] at h2
  exact ⟨v, by rw [h2], h1⟩
theorem reps2 {d e : D} {vs : List V} (h : Reps K Z w H [d, e] vs) : ∃ v u, vs = [v, u] ∧ Rep K Z w H d v ∧ Rep K Z w H e u := by
  rw [Reps] at h
  obtain ⟨v, r, rfl, h1, h2⟩ := h
  obtain ⟨u, rfl, h3⟩ := reps1 h2
  exact ⟨v, u, rfl, h1, h3⟩
theorem ints_ok : ∀ {xs : List D} {us : List V} {is : List Int}, intsOf xs = some is → Reps K Z w H xs us → us = is.map V.int
  | [], us, is, h, q => by rw [Reps] at q; cases h; exact q
  | x :: xs, us, is, h, q => by
    rw [Reps] at q
    obtain ⟨v, r, rfl, h1, h2⟩ := q
    cases x with
    | int i =>
      rw [rep_int] at h1
      rw [intsOf] at h
      obtain ⟨js, e, rfl⟩ := Option.map_eq_some_iff.mp h
      rw [h1, ints_ok e h2]
      rfl
    | _ => cases h
theorem bls_ok : ∀ {xs : List D} {us : List V} {is : List Bool}, blsOf xs = some is → Reps K Z w H xs us → us = is.map V.bl
  | [], us, is, h, q => by rw [Reps] at q; cases h; exact q
  | x :: xs, us, is, h, q => by
    rw [Reps] at q
    obtain ⟨v, r, rfl, h1, h2⟩ := q
    cases x with
    | bl i =>
      rw [rep_bl] at h1
      rw [blsOf] at h
      obtain ⟨js, e, rfl⟩ := Option.map_eq_some_iff.mp h
      rw [h1, bls_ok e h2]
      rfl
    | _ => cases h
theorem topI_le : ∀ (xs : List Int) (m : Int), m ≤ topI xs m ∧ ∀ x ∈ xs, x ≤ topI xs m
  | [], m => ⟨Int.le_refl _, fun _ h => nomatch h⟩
  | x :: xs, m => by
    rw [topI]
    obtain ⟨h1, h2⟩ := topI_le xs (if m < x then x else m)
    by_cases z : m < x
    · simp only [if_pos z] at h1 h2 ⊢
      exact ⟨by omega, fun y hy => (List.mem_cons.mp hy).elim (fun e => by rw [e]; exact h1) (h2 y)⟩
    · simp only [if_neg z] at h1 h2 ⊢
      exact ⟨h1, fun y hy => (List.mem_cons.mp hy).elim (fun e => by rw [e]; omega) (h2 y)⟩
theorem topI_mem : ∀ (xs : List Int) (m : Int), topI xs m ∈ m :: xs
  | [], m => by simp [topI]
  | x :: xs, m => by
    rw [topI]
    have := topI_mem xs (if m < x then x else m)
    split at this <;> split <;> simp_all
    all_goals (rcases this with h | h <;> simp [h])
theorem lowI_le : ∀ (xs : List Int) (m : Int), lowI xs m ≤ m ∧ ∀ x ∈ xs, lowI xs m ≤ x
  | [], m => ⟨Int.le_refl _, fun _ h => nomatch h⟩
  | x :: xs, m => by
    rw [lowI]
    obtain ⟨h1, h2⟩ := lowI_le xs (if x < m then x else m)
    by_cases z : x < m
    · simp only [if_pos z] at h1 h2 ⊢
      exact ⟨by omega, fun y hy => (List.mem_cons.mp hy).elim (fun e => by rw [e]; exact h1) (h2 y)⟩
    · simp only [if_neg z] at h1 h2 ⊢
      exact ⟨h1, fun y hy => (List.mem_cons.mp hy).elim (fun e => by rw [e]; omega) (h2 y)⟩
theorem lowI_mem : ∀ (xs : List Int) (m : Int), lowI xs m ∈ m :: xs
  | [], m => by simp [lowI]
  | x :: xs, m => by
    rw [lowI]
    have := lowI_mem xs (if x < m then x else m)
    split at this <;> split <;> simp_all
    all_goals (rcases this with h | h <;> simp [h])
/-- the built-in's name, what the name stands for -/
def biS : Bi → String
  | .len => "len" | .abs => "abs" | .int => "int" | .sum => "sum" | .max => "max" | .min => "min" | .max2 => "max" | .min2 => "min" | .all => "all" | .any => "any" | .tuple => "tuple" | .gcd => "gcd" | .bool => "bool" | .str => "str"
def biV : Bi → Value
  | .int => .type "int" | .tuple => .type "tuple" | .bool => .type "bool" | .str => .type "str" | .gcd => .builtin "math.gcd" | b => .builtin (biS b)
/-- told of here -/
def biOk : Bi → Bool
  | .str => false | _ => true
theorem bi_len : BiOf X Z (.builtin "len") (bi .len) := by
  refine ⟨_, L2.call_len, fun Wx w S H ds vs Q s hr q => ?_⟩
  match ds, hr, q with
  | [], _, q => exact q.no.elim
  | d :: _ :: _, _, q => exact (q.bad (by cases d <;> rfl)).elim
  | [d], hr, q =>
    obtain ⟨v, rfl, hd⟩ := reps1 hr
    cases d with
    | str x =>
      rw [Rep] at hd
      subst hd
      by_cases hz : x.length ≤ line
      · have e : bi .len [.str x] = .ret (.int x.length) := if_pos hz
        rw [e] at q
        exact ⟨_, x.length, rfl, ⟨lt_line hz, rfl⟩, q.ret s _ (by rw [Rep])⟩
      · exact (q.bad (bad_if hz)).elim
    | ref n =>
      cases e : S[n]? with
      | none => exact (q.bad (by unfold bi; simp only [e])).elim
      | some o =>
        cases o with
        | lst xs =>
          obtain ⟨a, rfl, _, us, e2, e3⟩ := s.at_ hd e (fun z => by cases z)
          have q := q.ok (a := .int xs.length) (by unfold bi; simp only [e]) w H Post.rfl s
          exact ⟨_, us.length, rfl, .inl ⟨us, L2.SqL.of e2, rfl⟩, q _ (by rw [Rep, Reps.len e3])⟩
        | _ => exact (q.bad (by unfold bi; simp only [e])).elim
    | tup xs =>
      have q : Aft X.K Z Wx w S H (M.seq (seqOf (.tup xs)) fun x => .ret (.int x.length)) (End X.K Z Q) := q
      obtain ⟨a, us, ys, rfl, h1, h2, e, q⟩ := seqOf_ok s hd q.seq
      exact ⟨_, us.length, rfl, h1.imp (fun z => ⟨us, z, rfl⟩) (fun z => ⟨us, z, rfl⟩), q.ret s _ (by rw [Rep, Reps.len h2])⟩
    | fl xs =>
      have q : Aft X.K Z Wx w S H (M.seq (seqOf (.fl xs)) fun x => .ret (.int x.length)) (End X.K Z Q) := q
      obtain ⟨a, us, ys, rfl, h1, h2, e, q⟩ := seqOf_ok s hd q.seq
      exact ⟨_, us.length, rfl, h1.imp (fun z => ⟨us, z, rfl⟩) (fun z => ⟨us, z, rfl⟩), q.ret s _ (by rw [Rep, Reps.len h2])⟩
    | sl xs =>
      have q : Aft X.K Z Wx w S H (M.seq (seqOf (.sl xs)) fun x => .ret (.int x.length)) (End X.K Z Q) := q
      obtain ⟨a, us, ys, rfl, h1, h2, e, q⟩ := seqOf_ok s hd q.seq
      exact ⟨_, us.length, rfl, h1.imp (fun z => ⟨us, z, rfl⟩) (fun z => ⟨us, z, rfl⟩), q.ret s _ (by rw [Rep, Reps.len h2])⟩
    | _ => exact q.no.elim
theorem bi_int1 {f : Value} {g : List D → M D} {k : Int → D} {kv : Int → V} (h : CallR X f (fun xs H Q => ∃ i, xs = [.int i] ∧ Q (kv i) H)) (hg : ∀ ds S, (∃ i, ds = [.int i] ∧ g ds = .ret (k i)) ∨ g ds S = .bad) (hk : ∀ w H i, Rep X.K Z w H (k i) (kv i)) : BiOf X Z f g := by
  refine ⟨_, h, fun Wx w S H ds vs Q s hr q => ?_⟩
  rcases hg ds S with ⟨i, rfl, e⟩ | e
  · obtain ⟨v, rfl, hd⟩ := reps1 hr
    rw [rep_int] at hd
    subst hd
    rw [e] at q
    exact ⟨i, rfl, q.ret s _ (hk w H i)⟩
  · exact (q.bad e).elim
theorem bi_int2 {f : Value} {g : List D → M D} {k : Int → Int → D} {kv : Int → Int → V} (h : CallR X f (fun xs H Q => ∃ i j, xs = [.int i, .int j] ∧ Q (kv i j) H)) (hg : ∀ ds S, (∃ i j, ds = [.int i, .int j] ∧ g ds = .ret (k i j)) ∨ g ds S = .bad) (hk : ∀ w H i j, Rep X.K Z w H (k i j) (kv i j)) : BiOf X Z f g := by
  refine ⟨_, h, fun Wx w S H ds vs Q s hr q => ?_⟩
  rcases hg ds S with ⟨i, j, rfl, e⟩ | e
  · obtain ⟨v, u, rfl, hd, he⟩ := reps2 hr
    rw [rep_int] at hd he
    subst hd he
    rw [e] at q
    exact ⟨i, j, rfl, q.ret s _ (hk w H i j)⟩
  · exact (q.bad e).elim
/-- of one list -/
theorem bi_list {f : Value} {g : List D → M D} {r : List V → Hp → VK → Prop} (h : CallR X f r) (hg : ∀ ds S, (∃ xs, ds = [.fl xs]) ∨ g ds S = .bad)
    (hk : ∀ (Wx : Value → Option Addr → Hp → Prop) (w : Wl) (S : Store) (H : Hp) (xs : List D) (us : List V) (a : Addr) (Q : VK), SRel X.K Z w H S → SqL X.K H a us → Reps X.K Z w H xs us → Aft X.K Z Wx w S H (g [.fl xs]) (End X.K Z Q) → r [.ref a] H Q) : BiOf X Z f g := by
  refine ⟨_, h, fun Wx w S H ds vs Q s hr q => ?_⟩
  rcases hg ds S with ⟨xs, rfl⟩ | e
  · obtain ⟨v, rfl, hd⟩ := reps1 hr
    rw [Rep] at hd
    obtain ⟨a, us, rfl, _, h1, h2⟩ := hd
    exact hk Wx w S H xs us a Q s (L2.SqL.of h1) h2 q
  · exact (q.bad e).elim
theorem one_fl {g : List D → M D} {S : Store} (h0 : g [] S = .bad) (h2 : ∀ d e r, g (d :: e :: r) S = .bad) (h1 : ∀ d, (∃ xs, d = .fl xs) ∨ g [d] S = .bad) : ∀ ds, (∃ xs, ds = [.fl xs]) ∨ g ds S = .bad
  | [] => .inr h0
  | [d] => by
    rcases h1 d with ⟨xs, rfl⟩ | e
    · exact .inl ⟨xs, rfl⟩
    · exact .inr e
  | d :: e :: r => .inr (h2 d e r)
theorem dp_ints : ∀ ns : List Int, L2.DpAll K H (ns.map V.int) (ns.map PyData.int)
  | [] => .nil
  | n :: ns => .cons (.int n) (dp_ints ns)
theorem topI_max : ∀ (ns : List Int) (n : Int), topI ns n = ns.foldl max n
  | [], n => rfl
  | x :: ns, n => by
    rw [topI, List.foldl_cons, topI_max]
    congr 1
    rw [Int.max_def]
    split <;> split <;> omega
/-- max of a tuple of ints -/
theorem cr_maxT (hc : X.calm = true) (hu : X.A.units + 64 < cLine) : CallR X (.builtin "max") (fun vs H Q => ∃ (a : Addr) (n : Int) (ns : List Int), vs = [.ref a] ∧ SqT X.K H a ((n :: ns).map V.int) ∧ Q (.int (topI ns n)) H) := by
  rintro pins s σ H vs us Q I r ⟨a, n, ns, rfl, hs, q⟩
  obtain ⟨its, rv, ht, hz⟩ := I.tuple hs
  obtain ⟨as, rd⟩ := L2.Dp.readsAll I ((n :: ns).map PyData.int) _ its (dp_ints (n :: ns)) rv
  rw [L2.Vals.ref1 r]
  have hdep : PyData.depthAll ((n :: ns).map PyData.int) ≤ 1 := by
    have : ∀ l : List Int, PyData.depthAll (l.map PyData.int) ≤ 1 := fun l => by
      induction l with
      | nil => simp [PyData.depthAll]
      | cons x l ih => simp [PyData.depthAll, PyData.depth]; exact ih
    exact this _
  refine PySem.W.max_tuple_data (I.ok.hd hc) (show s.heap.IsTuple a its.toArray from ht) (x := .int n) (xs := ns.map PyData.int) (as := as) rd (PySem.W.alikeAll_datum (n :: ns)) (by have : PyData.depthAll (PyData.int n :: ns.map PyData.int) ≤ 1 := hdep; omega) fun i v h' tk bs hv hr hk => ⟨.int (topI ns n), H, I.kept hk, ?_, q⟩
  rw [PySem.W.maxD_ints] at hr
  rw [topI_max]
  cases hr
  exact ⟨_, rfl⟩
theorem call_or {f : Value} {r r' : List V → Hp → VK → Prop} (h : CallR X f r) (k : CallR X f r') : CallR X f (fun vs H Q => r vs H Q ∨ r' vs H Q) := fun pins s σ H xs us Q I rv z => z.elim (h pins s σ H xs us Q I rv) (k pins s σ H xs us Q I rv)
theorem bi_of (hc : X.calm = true) (hu : X.A.units + 64 < cLine) : ∀ {b : Bi}, biOk b = true → BiOf X Z (biV b) (bi b)
  | .len, _ => bi_len
  | .abs, _ => bi_int1 (k := fun i => .int (if i < 0 then -i else i)) L2.call_abs (fun ds S => by
      match ds with
      | [] => exact .inr rfl
      | [d] => cases d <;> first | exact .inr rfl | exact .inl ⟨_, rfl, rfl⟩
      | d :: e :: r => exact .inr (by cases d <;> rfl)) (fun w H i => by rw [Rep])
  | .int, _ => by
    refine ⟨_, L2.call_int1, fun Wx w S H ds vs Q s hr q => ?_⟩
    match ds, hr, q with
    | [], _, q => exact q.no.elim
    | d :: _ :: _, _, q => exact (q.bad (by cases d <;> rfl)).elim
    | [d], hr, q =>
      obtain ⟨v, rfl, hd⟩ := reps1 hr
      cases d with
      | int i => rw [rep_int] at hd; subst hd; exact .inl ⟨i, rfl, q.ret s _ (by rw [Rep])⟩
      | bl i => rw [rep_bl] at hd; subst hd; exact .inr ⟨i, rfl, q.ret s _ (by rw [Rep])⟩
      | _ => exact q.no.elim
  | .bool, _ => by
    refine ⟨_, L2.call_bool1, fun Wx w S H ds vs Q s hr q => ?_⟩
    match ds, hr, q with
    | [], _, q => exact q.no.elim
    | d :: _ :: _, _, q => exact (q.bad (by cases d <;> rfl)).elim
    | [d], hr, q =>
      obtain ⟨v, rfl, hd⟩ := reps1 hr
      cases d with
      | int i => rw [rep_int] at hd; subst hd; exact .inl ⟨i, rfl, q.ret s _ (by rw [Rep])⟩
      | bl i => rw [rep_bl] at hd; subst hd; exact .inr ⟨i, rfl, q.ret s _ (by rw [Rep])⟩
      | _ => exact q.no.elim
  | .max2, _ => bi_int2 (k := fun i j => .int (if j > i then j else i)) (L2.call_max2 hc) (fun ds S => by
      match ds with
      | [.int i, .int j] => exact .inl ⟨i, j, rfl, rfl⟩
      | [] => exact .inr rfl
      | [d] => exact .inr (by cases d <;> rfl)
      | [d, e] => cases d <;> cases e <;> first | exact .inr rfl | exact .inl ⟨_, _, rfl, rfl⟩
      | d :: e :: f :: r => exact .inr (by cases d <;> cases e <;> rfl)) (fun w H i j => by rw [Rep])
  | .min2, _ => bi_int2 (k := fun i j => .int (if j < i then j else i)) (L2.call_min2 hc) (fun ds S => by
      match ds with
      | [.int i, .int j] => exact .inl ⟨i, j, rfl, rfl⟩
      | [] => exact .inr rfl
      | [d] => exact .inr (by cases d <;> rfl)
      | [d, e] => cases d <;> cases e <;> first | exact .inr rfl | exact .inl ⟨_, _, rfl, rfl⟩
      | d :: e :: f :: r => exact .inr (by cases d <;> cases e <;> rfl)) (fun w H i j => by rw [Rep])
  | .gcd, _ => bi_int2 (k := fun i j => .int (Nat.gcd i.natAbs j.natAbs : Nat)) L2.cr_gcd (fun ds S => by
      match ds with
      | [.int i, .int j] => exact .inl ⟨i, j, rfl, rfl⟩
      | [] => exact .inr rfl
      | [d] => exact .inr (by cases d <;> rfl)
      | [d, e] => cases d <;> cases e <;> first | exact .inr rfl | exact .inl ⟨_, _, rfl, rfl⟩
      | d :: e :: f :: r => exact .inr (by cases d <;> cases e <;> rfl)) (fun w H i j => by rw [Rep])
  | .sum, _ => bi_list (L2.cr_sum hc) (fun ds S => one_fl rfl (fun d e r => by cases d <;> rfl) (fun d => by cases d <;> first | exact .inr rfl | exact .inl ⟨_, rfl⟩) ds) fun Wx w S H xs us a Q s h1 h2 q => by
      cases e : intsOf xs with
      | none => exact (q.bad (by unfold bi; simp only [e]; rfl)).elim
      | some is =>
        have e2 : bi .sum [.fl xs] = .ret (.int is.sum) := by unfold bi; simp only [e]
        rw [e2] at q
        exact ⟨a, is, rfl, by rw [← ints_ok e h2]; exact h1, q.ret s _ (by rw [Rep])⟩
  | .max, _ => by
    refine ⟨_, call_or (L2.cr_max hc) (cr_maxT hc hu), fun Wx w S H ds vs Q s hr q => ?_⟩
    match ds, hr, q with
    | [], _, q => exact q.no.elim
    | d :: _ :: _, _, q => exact (q.bad (by cases d <;> rfl)).elim
    | [d], hr, q =>
      obtain ⟨v, rfl, hd⟩ := reps1 hr
      have bad : ∀ {d : D} {xs : List D}, bi .max [d] = (match intsOf xs with | some (i :: is) => .ret (.int (topI is i)) | _ => .no) → Aft X.K Z Wx w S H (bi .max [d]) (End X.K Z Q) → ∃ i is, intsOf xs = some (i :: is) ∧ Q (.int (topI is i)) H := by
        intro d xs e q
        rw [e] at q
        cases e2 : intsOf xs with
        | none => simp only [e2] at q; exact q.no.elim
        | some l =>
          cases l with
          | nil => simp only [e2] at q; exact q.no.elim
          | cons i is =>
            simp only [e2] at q
            exact ⟨i, is, rfl, q.ret s _ (by rw [Rep])⟩
      cases d with
      | fl xs =>
        rw [Rep] at hd
        obtain ⟨a, us, rfl, _, h1, h2⟩ := hd
        obtain ⟨i, is, e, q⟩ := bad (xs := xs) rfl q
        refine .inl ⟨a, i :: is, rfl, by rw [← ints_ok e h2]; exact L2.SqL.of h1, by simp, fun m hm hy => ?_⟩
        have : topI is i = m := by
          obtain ⟨z1, z2⟩ := topI_le is i
          have z3 := hy _ (topI_mem is i)
          rcases List.mem_cons.mp hm with rfl | hm
          · omega
          · have := z2 m hm; omega
        rw [← this]
        exact q
      | tup xs =>
        rw [Rep] at hd
        obtain ⟨a, us, rfl, h1, h2⟩ := hd
        obtain ⟨i, is, e, q⟩ := bad (xs := xs) rfl q
        exact .inr ⟨a, i, is, rfl, by rw [← ints_ok e h2]; exact h1, q⟩
      | _ => exact q.no.elim
  | .min, _ => bi_list (L2.cr_min hc) (fun ds S => one_fl rfl (fun d e r => by cases d <;> rfl) (fun d => by cases d <;> first | exact .inr rfl | exact .inl ⟨_, rfl⟩) ds) fun Wx w S H xs us a Q s h1 h2 q => by
      cases e : intsOf xs with
      | none => exact (q.bad (by unfold bi; simp only [e]; rfl)).elim
      | some is =>
        cases is with
        | nil => exact (q.bad (by unfold bi; simp only [e]; rfl)).elim
        | cons i is =>
          have e2 : bi .min [.fl xs] = .ret (.int (lowI is i)) := by unfold bi; simp only [e]
          rw [e2] at q
          refine ⟨a, i :: is, rfl, by rw [← ints_ok e h2]; exact h1, by simp, fun m hm hy => ?_⟩
          have : lowI is i = m := by
            obtain ⟨z1, z2⟩ := lowI_le is i
            have z3 := hy _ (lowI_mem is i)
            rcases List.mem_cons.mp hm with rfl | hm
            · omega
            · have := z2 m hm; omega
          rw [← this]
          exact q.ret s _ (by rw [Rep])
  | .all, _ => bi_list (L2.cr_all hc) (fun ds S => one_fl rfl (fun d e r => by cases d <;> rfl) (fun d => by cases d <;> first | exact .inr rfl | exact .inl ⟨_, rfl⟩) ds) fun Wx w S H xs us a Q s h1 h2 q => by
      cases e : blsOf xs with
      | none => exact (q.bad (by unfold bi; simp only [e]; rfl)).elim
      | some is =>
        have e2 : bi .all [.fl xs] = .ret (.bl (is.all id)) := by unfold bi; simp only [e]
        rw [e2] at q
        exact ⟨a, is, rfl, by rw [← bls_ok e h2]; exact h1, q.ret s _ (by rw [Rep])⟩
  | .any, _ => bi_list (L2.cr_any hc) (fun ds S => one_fl rfl (fun d e r => by cases d <;> rfl) (fun d => by cases d <;> first | exact .inr rfl | exact .inl ⟨_, rfl⟩) ds) fun Wx w S H xs us a Q s h1 h2 q => by
      cases e : blsOf xs with
      | none => exact (q.bad (by unfold bi; simp only [e]; rfl)).elim
      | some is =>
        have e2 : bi .any [.fl xs] = .ret (.bl (is.any id)) := by unfold bi; simp only [e]
        rw [e2] at q
        exact ⟨a, is, rfl, by rw [← bls_ok e h2]; exact h1, q.ret s _ (by rw [Rep])⟩
  | .tuple, _ => by
    refine ⟨_, L2.call_tuple_of, fun Wx w S H ds vs Q s hr q => ?_⟩
    match ds, hr, q with
    | [], _, q => exact q.no.elim
    | d :: _ :: _, _, q => exact (q.bad (by cases d <;> rfl)).elim
    | [d], hr, q =>
      obtain ⟨v, rfl, hd⟩ := reps1 hr
      cases d with
      | tup xs =>
        have hd2 := hd
        rw [Rep] at hd2
        obtain ⟨a, us, rfl, h1, h2⟩ := hd2
        exact ⟨a, us, rfl, .inr ⟨h1, q.ret s _ hd⟩⟩
      | fl xs =>
        rw [Rep] at hd
        obtain ⟨a, us, rfl, _, h1, h2⟩ := hd
        exact ⟨a, us, rfl, .inl ⟨L2.SqL.of h1, fun p hp => new_tup q s hp h2⟩⟩
      | sl xs =>
        obtain ⟨a, us, rfl, h1, h2⟩ := sl_sq hd
        exact ⟨a, us, rfl, .inl ⟨h1, fun p hp => new_tup q s hp h2⟩⟩
      | _ => exact q.no.elim
  | .str, h => by cases h
theorem boot_bi {b : Bi} (h : biOk b = true) (hg : b ≠ .gcd) : bootBuiltins (Str.ofString (biS b)) = some (biV b) := by
  cases b <;> first | (cases h; done) | exact absurd rfl hg | decide +kernel
theorem name_bi (b : Bi) : (Str.ofString (biS b) ≠ ("__name__" : Str)) ∧ ((Str.ofString (biS b) == ("__debug__" : Str)) = false) := by
  cases b <;> decide +kernel
theorem s_bi {b : Bi} (hu : X.A.units + 64 < cLine) (hc : X.calm = true) (hb : biOk b = true) (hg : L2.Gl X (Str.ofString (biS b))) (hm : X.mg (Str.ofString (biS b)) = if b = .gcd then some (.builtin "math.gcd") else none) (hs : (e :: es).all noStar = true) (ha : PA X (e :: es) (tEs Z call gl X W pes)) :
    PE X (.Call (.Name (Str.ofString (biS b)) p2) (e :: es) [] pos) (tE Z call gl X W (.bi b pes)) := by
  obtain ⟨rr, h1, h2⟩ := bi_of (X := X) (Z := Z) hc hu hb
  have key : ∀ σ H Q, tE Z call gl X W (.bi b pes) σ H Q → L2.tCB rr (tEs Z call gl X W pes) σ H Q := fun σ H Q ⟨w, S, r, rel, h⟩ => by
    rw [evalE] at h
    exact tEs_mono (tEs_step rel h) fun vs H1 ⟨ds, w1, S1, r1, hx, p1, q⟩ => h2 _ w1 S1 H1 ds vs Q r1.s hx q
  rw [List.all_cons, Bool.and_eq_true] at hs
  by_cases hgc : b = .gcd
  · subst hgc
    exact imp_pe (L2.pe_callBfun h1 hg (by rw [hm, if_pos rfl]) ha (name_bi .gcd).2 (star_cons hs.1) (back_any hs.2)) key
  · rw [if_neg hgc] at hm
    have bt := boot_bi hb hgc
    have : (∃ id, biV b = .builtin id) ∨ ∃ T, biV b = .type T := by cases b <;> first | exact .inl ⟨_, rfl⟩ | exact .inr ⟨_, rfl⟩
    rcases this with ⟨id, e1⟩ | ⟨T, e1⟩
    · rw [e1] at h1 bt
      exact imp_pe (L2.pe_callB h1 hg hm bt ha (name_bi b).1 (name_bi b).2 (star_cons hs.1) (back_any hs.2)) key
    · rw [e1] at h1 bt
      exact imp_pe (L2.pe_callTy h1 hg hm bt ha (name_bi b).1 (name_bi b).2 (star_cons hs.1) (back_any hs.2)) key
end EV
end
section
set_option Elab.async false
set_option linter.all false
set_option maxRecDepth 100000
set_option maxHeartbeats 4000000
/-! EV, part h: lists that grow, index, new dicts, objects that become trees. -/
namespace EV
open L2 (V HO Hp upd upd_same upd_ne SqT SqL Rd Key Cx Ends TE TT TA TS TG TI PE PT PA PS PSs PG PI VK XK WX PC OpR R2 CallR)
open PySem PySem.Spec

variable {K : PySem.W.Frag} {Z : Zt} {w w1 : Wl} {H H1 : Hp} {S S1 : Store} {r : Env} {σ : L2.St} {α β : Type} {Wx : Value → Option Addr → Hp → Prop}
variable {call : Nat → List D → M D} {gl : List D} {X : Cx} {W : WX} {Q : VK}
variable {e a b c : Expr} {es : List Expr} {pe pa pb pc : E} {pes : Es} {pos p2 p3 apos : Pos}

theorem few_one (h : noStar e = true) : ((backTo pos (starEach [e] X.env)).all (fun x => !x.1) && (backToKw pos (keywordEach [] X.env)).all (fun x => x.1.isSome) && decide ([e].length + ([] : List Keyword).length + (if ([] : List Keyword).isEmpty then 0 else 1) < 30)) = true := by
  rw [star_cons h]
  rfl
/-- a reference of the store, read again later -/
theorem ref_later {n : Nat} {v : V} (x : Ext K w H w1 H1) (h : Rep K Z w H (.ref n) v) : Rep K Z w1 H1 (.ref n) v := Rep.mono x h
theorem s_app (hn : noStar e = true) (hb : notCall0 a = true) (hl : (apos.endLine == pos.line) = true) (ha : PE X a (tE Z call gl X W pa)) (he : PE X e (tE Z call gl X W pe)) :
    PE X (.Call (.Attribute a "append" apos) [e] [] pos) (tE Z call gl X W (.app pa pe)) := by
  refine imp_pe (L2.pe_bm PySem.F.plainAttrs_list PySem.F.slot_list_append PySem.F.type_list_append L2.mt_append ha (L2.pa_cons he L2.pa_nil (star_cons hn)) (base_ok hb) (few_one hn) hl (star_cons hn) (back_any rfl)) fun σ H Q ⟨w, S, r, rel, h⟩ => ?_
  rw [evalE] at h
  refine tE_mono (tE_step rel h) fun v H1 ⟨x, w1, S1, r1, hx, p1, h1⟩ => ?_
  obtain ⟨a, us, xs, rfl, q1, q2, h2⟩ := lst_ok r1.s hx h1.seq
  refine ⟨.inl ⟨rfl, us, L2.SqL.of q1⟩, ?_⟩
  refine tE_mono (tE_step r1 h2) fun u H2 ⟨y, w2, S2, r2, hy, p2, h3⟩ => ?_
  cases x with
  | ref n =>
    have hx2 := ref_later p2 hx
    cases e : S2[n]? with
    | none => exact (h3.bad (by simp only [e])).elim
    | some o =>
      cases o with
      | lst ys =>
        obtain ⟨b, e1, e2, vs, e3, e4⟩ := r2.s.at_ hx2 e (fun z => by cases z)
        cases e1
        by_cases hz : ys.length < line
        · have q := h3.ok (a := .non) (by simp only [e]; rw [if_pos hz]) w2 _ (r2.s.post (u := .lst (vs ++ [u])) e2) (r2.s.write (o := .lst (ys ++ [y])) e2 ⟨vs ++ [u], upd_same, Reps.mono (r2.s.post e2).toExt (Reps.app e4 (Reps.one hy))⟩)
          exact ⟨a, vs, u, rfl, rfl, e3, by rw [← Reps.len e4, PySem.sizeLine_eq]; unfold line at hz; omega, q _ (by rw [Rep])⟩
        · exact (h3.bad (by simp only [e]; rw [if_neg hz])).elim
      | _ => exact (h3.bad (by simp only [e])).elim
  | _ => exact (h3.bad rfl).elim
theorem toPs_get : ∀ {xs : List D} {j : Nat} {z : PyData}, (toPs xs)[j]? = some z → ∃ d, xs[j]? = some d ∧ z = toP d
  | [], j, z, h => by simp [toPs] at h
  | d :: ds, 0, z, h => by
    rw [toPs] at h
    simp at h
    exact ⟨d, rfl, h.symm⟩
  | d :: ds, j + 1, z, h => by
    rw [toPs] at h
    exact toPs_get (j := j) (by simpa using h)
theorem toPs_of : ∀ {xs : List D} {j : Nat} {d : D}, xs[j]? = some d → (toPs xs)[j]? = some (toP d)
  | [], j, z, h => by simp at h
  | d :: ds, 0, z, h => by
    rw [toPs]
    simp at h
    simp [h]
  | d :: ds, j + 1, z, h => by
    rw [toPs]
    simpa using toPs_of (j := j) (by simpa using h)
theorem deeps_mem : ∀ {xs : List D} {n : Nat} {d : D}, D.deeps n xs = true → d ∈ xs → D.deep n d = true
  | [], _, _, _, h => nomatch h
  | x :: xs, n, d, h, m => by
    rw [D.deeps, Bool.and_eq_true] at h
    rcases List.mem_cons.mp m with rfl | m
    · exact h.1
    · exact deeps_mem h.2 m
theorem s_index {k : Nat} (hr : L2.Room k X.A) (hn : noStar e = true) (hb : notCall0 a = true) (hl : (apos.endLine == pos.line) = true) (ha : PE X a (tE Z call gl X W pa)) (he : PE X e (tE Z call gl X W pe)) :
    PE X (.Call (.Attribute a "index" apos) [e] [] pos) (tE Z call gl X W (.index pa pe)) := by
  refine imp_pe (L2.pe_bm PySem.F.plainAttrs_list PySem.F.slot_list_index PySem.F.type_list_index (L2.mt_indexD (units65 hr)) ha (L2.pa_cons he L2.pa_nil (star_cons hn)) (base_ok hb) (few_one hn) hl (star_cons hn) (back_any rfl)) fun σ H Q ⟨w, S, r, rel, h⟩ => ?_
  rw [evalE] at h
  refine tE_mono (tE_step rel h) fun v H1 ⟨x, w1, S1, r1, hx, p1, h1⟩ => ?_
  cases x with
  | fl xs =>
    have hx1 := hx
    rw [Rep] at hx1
    obtain ⟨a, us, rfl, _, q1, q2⟩ := hx1
    refine ⟨.inl ⟨rfl, us, L2.SqL.of q1⟩, ?_⟩
    refine tE_mono (tE_step r1 h1) fun u H2 ⟨y, w2, S2, r2, hy, p2, h3⟩ => ?_
    have hx2 := Rep.mono p2 hx
    split at h3
    · rename_i hd
      rw [Bool.and_eq_true] at hd
      obtain ⟨d, e, q⟩ := h3.opt r2.s
      obtain ⟨j, e2, rfl⟩ := Option.map_eq_some_iff.mp e
      obtain ⟨hj, hj1, hj2⟩ := List.findIdx?_eq_some_iff_getElem.mp e2
      have dl := deep_dp (n := 31) (by rw [D.deep]; exact hd.2) hx2
      rw [toP] at dl
      have gj : xs[j]? = some xs[j] := List.getElem?_eq_getElem hj
      have mj : D.deep 30 xs[j] = true := deeps_mem hd.2 (List.getElem_mem hj)
      refine ⟨a, u, toP y, toPs xs, j, toP xs[j], rfl, rfl, dl, deep_dp hd.1 hy, (deeps_ok hd.2).1, deep_ok hd.1, toPs_of gj, by rw [eq_eqv mj hd.1]; exact hj1, fun m z' hm hz => ?_, q _ (by rw [Rep])⟩
      obtain ⟨d', g, rfl⟩ := toPs_get hz
      obtain ⟨hm2, g2⟩ := List.getElem?_eq_some_iff.mp g
      have := hj2 m hm
      rw [eq_eqv (deeps_mem hd.2 (by rw [← g2]; exact List.getElem_mem hm2)) hd.1, ← g2]
      simpa using this
    · exact h3.no.elim
  | _ => exact h1.no.elim
/-! ### new objects of the store -/
theorem new_obj {p : Addr} {o : HO} {ob : O} (s : SRel K Z w H S) (hp : H p = none) (n1 : ∀ xs, o ≠ .tup xs) (n2 : ∀ q x, o ≠ .frz q x) (ho : ORep K Z (w.hide p) (upd H p o) p ob) :
    Post K w H (w.push p) (upd H p o) ∧ SRel K Z (w.push p) (upd H p o) (S ++ [ob]) :=
  ⟨Post.push (Post.new s hp) hp, SRel.push (s.hide hp n1 n2) (s.out_new hp).2 ho⟩
theorem s_dnewK : PE X (.Dict [] [] pos) (tE Z call gl X W (.dnew false)) :=
  imp_pe L2.pe_dnewK fun σ H Q ⟨w, S, r, rel, h⟩ => by
    rw [evalE] at h
    intro p hp
    obtain ⟨h1, h2⟩ := new_obj (o := .dK []) (ob := .dict false [] []) rel.s hp (fun _ z => by cases z) (fun _ _ z => by cases z) (.inr ⟨rfl, [], upd_same, rfl, Reps.nil⟩)
    exact h.ok rfl _ _ h1 h2 _ (rep_pushed rel.s.len)
theorem s_dnewX (hZ : Z.P = X.prog ∧ Z.w = X.w) : PE X (.Dict [] [] pos) (tE Z call gl X W (.dnew true)) :=
  imp_pe pe_newX fun σ H Q ⟨w, S, r, rel, h⟩ => by
    rw [evalE] at h
    intro p hp
    obtain ⟨h1, h2⟩ := new_obj (o := dTx X.prog X.w p []) (ob := .dict true [] []) rel.s hp (fun _ z => by cases z) (fun _ _ z => by cases z) (.inl ⟨rfl, [], [], by rw [hZ.1, hZ.2]; exact upd_same, rfl, (fun _ m => nomatch m), .nil, Reps.nil⟩)
    exact h.ok rfl _ _ h1 h2 _ (rep_pushed rel.s.len)
/-- an object of the store becomes a tree -/
theorem frz_ok {d : D} {v : V} (s : SRel K Z w H S) (hv : Rep K Z w H d v) (q : Aft K Z Wx w S H (frz d) (End K Z Q)) : Q v H := by
  cases d with
  | ref n =>
    cases e : S[n]? with
    | none => exact (q.bad (by unfold frz; simp only [e])).elim
    | some o =>
      cases o with
      | dead => exact (q.bad (by unfold frz; simp only [e])).elim
      | lst xs =>
        obtain ⟨a, rfl, e1, us, e2, e3⟩ := s.at_ hv e (fun z => by cases z)
        refine q.ok (a := .fl xs) (by unfold frz; simp only [e]) (w.drop n) H (Post.drop n) s.drop _ ?_
        rw [Rep]
        exact ⟨a, us, rfl, s.out_drop e1, e2, Reps.mono (Post.drop n).toExt e3⟩
      | dict t ks vs =>
        obtain ⟨a, rfl, e1, e2⟩ := s.at_ hv e (fun z => by cases z)
        refine q.ok (a := .fd t ks vs) (by unfold frz; simp only [e]) (w.drop n) H (Post.drop n) s.drop _ ?_
        rw [Rep]
        refine ⟨a, rfl, s.out_drop e1, ?_⟩
        have e2 := ORep.mono (Post.drop n).toExt rfl e2
        exact e2
      | ins c ns vs =>
        obtain ⟨a, rfl, e1, e2⟩ := s.at_ hv e (fun z => by cases z)
        refine q.ok (a := .obj c ns vs) (by unfold frz; simp only [e]) (w.drop n) H (Post.drop n) s.drop _ ?_
        rw [Rep]
        obtain ⟨dx, fs, z1, z2, z3⟩ := ORep.mono (Post.drop n).toExt rfl e2
        exact ⟨a, dx, fs, rfl, s.out_drop e1, z1, z2, z3⟩
  | _ => exact q.ok rfl w H Post.rfl s v hv
theorem s_frz (ha : PE X a (tE Z call gl X W pa)) : PE X a (tE Z call gl X W (.frz pa)) :=
  imp_pe ha fun σ H Q ⟨w, S, r, rel, h⟩ => by
    rw [evalE] at h
    exact ⟨w, S, r, rel, h.seq.imp fun d w1 S1 H1 p1 s1 q v hv => frz_ok s1 hv q⟩
/-- a global constant -/
theorem s_glob {g : Nat} {x : Str} {v : V} {u : Value} (hg : L2.Gl X x) (hm : X.mg x = some u) (hr : L2.RelV v u) (hd : (x == ("__debug__" : Str)) = false) (hv : ∀ d, gl[g]? = some d → ∀ w H, Rep X.K Z w H d v) :
    PE X (.Name x pos) (tE Z call gl X W (.glob g)) :=
  imp_pe (L2.pe_glob hg hm hr hd) fun σ H Q ⟨w, S, r, rel, h⟩ => by
    rw [evalE] at h
    obtain ⟨d, e, q⟩ := h.opt rel.s
    exact q v (hv d e w H)
end EV
end
section
set_option Elab.async false
set_option linter.all false
set_option maxRecDepth 100000
set_option maxHeartbeats 4000000
/-! EV, part i: calls. -/
namespace EV
open L2 (V HO Hp upd upd_same upd_ne SqT SqL Rd Key Cx Ends TE TT TA TS TG TI PE PT PA PS PSs PG PI VK XK WX PC OpR R2 CallR)
open PySem PySem.Spec

variable {K : PySem.W.Frag} {Z : Zt} {w w1 : Wl} {H H1 : Hp} {S S1 : Store} {r : Env} {σ : L2.St} {α β : Type} {Wx : Value → Option Addr → Hp → Prop}
variable {Q : VK}

/-! ### regions -/
/-- the store's addresses that a callee does not see -/
def offs (l : List (Option Addr)) (ns : List Nat) : List Addr := (List.range l.length).filterMap fun n => if n ∈ ns then none else (l[n]?).join
theorem mem_offs {l : List (Option Addr)} {ns : List Nat} {a : Addr} : a ∈ offs l ns ↔ ∃ n, n ∉ ns ∧ l[n]? = some (some a) := by
  unfold offs
  rw [List.mem_filterMap]
  constructor
  · rintro ⟨n, h1, h2⟩
    split at h2
    · cases h2
    · rename_i hn
      refine ⟨n, hn, ?_⟩
      cases e : l[n]? with
      | none => rw [e] at h2; cases h2
      | some o =>
        rw [e] at h2
        have : o = some a := h2
        rw [this]
  · rintro ⟨n, h1, h2⟩
    refine ⟨n, List.mem_range.mpr (lt_of_get h2), ?_⟩
    rw [if_neg h1, h2]
    rfl
def Wl.sub (w : Wl) (ns : List Nat) : Wl := ⟨ns.map fun n => (w.l[n]?).join, w.hid ++ offs w.l ns⟩
theorem sub_get {ns : List Nat} {k : Nat} {a : Addr} : (w.sub ns).l[k]? = some (some a) ↔ ∃ n, ns[k]? = some n ∧ w.l[n]? = some (some a) := by
  show (ns.map fun n => (w.l[n]?).join)[k]? = some (some a) ↔ _
  rw [List.getElem?_map]
  constructor
  · intro h
    cases e : ns[k]? with
    | none => rw [e] at h; cases h
    | some n =>
      rw [e] at h
      have h : (w.l[n]?).join = some a := Option.some.inj h
      refine ⟨n, rfl, ?_⟩
      cases e2 : w.l[n]? with
      | none => rw [e2] at h; cases h
      | some o =>
        rw [e2] at h
        have : o = some a := h
        rw [this]
  · rintro ⟨n, h1, h2⟩
    rw [h1]
    show some ((w.l[n]?).join) = _
    rw [h2]
    rfl
theorem out_sub {ns : List Nat} {a : Addr} (h : Out w a) : Out (w.sub ns) a := by
  refine ⟨fun k e => ?_, fun m => ?_⟩
  · obtain ⟨n, _, h2⟩ := sub_get.mp e
    exact h.1 n h2
  · rcases List.mem_append.mp m with m | m
    · exact h.2 m
    · obtain ⟨n, _, h2⟩ := mem_offs.mp m
      exact h.1 n h2
theorem noDup_inj : ∀ {ns : List Nat} {i j n : Nat}, noDup ns = true → ns[i]? = some n → ns[j]? = some n → i = j
  | [], i, j, n, _, h, _ => by simp at h
  | m :: ns, i, j, n, h, h1, h2 => by
    rw [noDup, Bool.and_eq_true, Bool.not_eq_true'] at h
    have hm : ∀ i, ns[i]? ≠ some m := fun i e => by
      have := List.mem_of_getElem? e
      rw [List.contains_eq_mem, decide_eq_false_iff_not] at h
      exact h.1 this
    cases i with
    | zero =>
      cases j with
      | zero => rfl
      | succ j =>
        simp at h1 h2
        subst h1
        exact absurd h2 (hm j)
    | succ i =>
      cases j with
      | zero =>
        simp at h1 h2
        subst h2
        exact absurd h1 (hm i)
      | succ j => exact congrArg _ (noDup_inj h.2 (by simpa using h1) (by simpa using h2))
theorem take_ok : ∀ {ns : List Nat} {q : Store}, takeO S ns = some q → q.length = ns.length ∧ ∀ (k n : Nat), ns[k]? = some n → ∃ o, q[k]? = some o ∧ S[n]? = some o ∧ o.rf = true
  | [], q, h => by cases h; exact ⟨rfl, fun k n e => by simp at e⟩
  | m :: ns, q, h => by
    rw [takeO] at h
    split at h
    · rename_i o q' h1 h2
      split at h
      · rename_i hr
        cases h
        obtain ⟨h3, h4⟩ := take_ok h2
        refine ⟨by simp [h3], fun k n e => ?_⟩
        cases k with
        | zero => simp at e; subst e; exact ⟨o, rfl, h1, hr⟩
        | succ k => simpa using h4 k n (by simpa using e)
      · cases h
    · cases h
theorem put_ok : ∀ {ns : List Nat} {S q S' : Store}, noDup ns = true → putO S ns q = some S' → S'.length = S.length ∧ (∀ (k n : Nat), ns[k]? = some n → ∃ o, q[k]? = some o ∧ o.rf = true ∧ ∀ ob, S'[n]? = some ob → ob = o) ∧ ∀ n, n ∉ ns → S'[n]? = S[n]?
  | [], S, q, S', _, h => by
    rw [putO] at h
    cases h
    exact ⟨rfl, fun k n e => by simp at e, fun _ _ => rfl⟩
  | m :: ns, S, q, S', nd, h => by
    cases q with
    | nil => cases h
    | cons o q =>
      rw [putO] at h
      split at h
      · rename_i hr
        rw [noDup, Bool.and_eq_true, Bool.not_eq_true'] at nd
        obtain ⟨h1, h2, h3⟩ := put_ok nd.2 h
        rw [List.contains_eq_mem, decide_eq_false_iff_not] at nd
        refine ⟨by rw [h1, List.length_set], fun k n e => ?_, fun n hn => ?_⟩
        · cases k with
          | zero =>
            simp at e
            subst e
            refine ⟨o, rfl, hr, fun ob hob => ?_⟩
            rw [h3 m nd.1] at hob
            have hl : m < S.length := by
              have := lt_of_get hob
              simpa using this
            rw [List.getElem?_set_self hl] at hob
            exact (Option.some.inj hob).symm
          | succ k => simpa using h2 k n (by simpa using e)
        · rw [List.mem_cons, not_or] at hn
          rw [h3 n hn.2, List.getElem?_set_ne (Ne.symm hn.1)]
      · cases h
theorem srel_sub {ns : List Nat} {q : Store} (s : SRel K Z w H S) (nd : noDup ns = true) (ht : takeO S ns = some q) : SRel K Z (w.sub ns) H q := by
  obtain ⟨h1, h2⟩ := take_ok ht
  refine ⟨by show (ns.map _).length = _; rw [List.length_map, h1], fun i j a e1 e2 => ?_, fun i a e m => ?_, fun a m => ?_, fun i o e => ?_⟩
  · obtain ⟨n, n1, n2⟩ := sub_get.mp e1
    obtain ⟨m, m1, m2⟩ := sub_get.mp e2
    have : n = m := s.inj n m a n2 m2
    subst this
    exact noDup_inj nd n1 m1
  · obtain ⟨n, n1, n2⟩ := sub_get.mp e
    rcases List.mem_append.mp m with m | m
    · exact s.apart n a n2 m
    · obtain ⟨k, k1, k2⟩ := mem_offs.mp m
      have : n = k := s.inj n k a n2 k2
      subst this
      exact k1 (List.mem_of_getElem? n1)
  · rcases List.mem_append.mp m with m | m
    · exact s.there a m
    · obtain ⟨k, k1, k2⟩ := mem_offs.mp m
      exact s.some_ k2
  · have hi : i < ns.length := by rw [← h1]; exact lt_of_get e
    obtain ⟨o', e1, e2, e3⟩ := h2 i ns[i] (List.getElem?_eq_getElem hi)
    rw [e] at e1
    cases e1
    rcases s.obj _ o e2 with ⟨z, _⟩ | ⟨a, z, k⟩
    · subst z; cases e3
    · exact .inr ⟨a, sub_get.mpr ⟨_, List.getElem?_eq_getElem hi, z⟩, k.other (fun _ => out_sub) e3⟩
theorem lent_ok {ns : List Nat} (s : SRel K Z w H S) : ∀ {ds es : List D} {vs : List V} {pre : List Nat}, ns = pre ++ refsOf ds → lent pre.length ds = some es → Reps K Z w H ds vs → Reps K Z (w.sub ns) H es vs
  | [], es, vs, pre, _, h, q => by
    rw [lent] at h
    cases h
    rw [Reps] at q ⊢
    exact q
  | d :: ds, es, vs, pre, hn, h, q => by
    rw [Reps] at q
    obtain ⟨v, us, rfl, q1, q2⟩ := q
    have other : (∀ n, d ≠ .ref n) → Reps K Z (w.sub ns) H es (v :: us) := fun hd => by
      have e : lent pre.length (d :: ds) = if d.rf then (lent pre.length ds).map (d :: ·) else none := by
        cases d with
        | ref n => exact absurd rfl (hd n)
        | _ => rfl
      rw [e] at h
      split at h
      · rename_i hr
        obtain ⟨fs, h1, rfl⟩ := Option.map_eq_some_iff.mp h
        have e2 : refsOf (d :: ds) = refsOf ds := by
          cases d with
          | ref n => exact absurd rfl (hd n)
          | _ => rfl
        exact Reps.cons (Rep.other (fun _ => out_sub) hr q1) (lent_ok s (by rw [hn, e2]) h1 q2)
      · cases h
    cases d with
    | ref n =>
      have e : lent pre.length (.ref n :: ds) = (lent (pre.length + 1) ds).map (.ref pre.length :: ·) := rfl
      rw [e] at h
      obtain ⟨fs, h1, rfl⟩ := Option.map_eq_some_iff.mp h
      have e2 : refsOf (.ref n :: ds) = n :: refsOf ds := rfl
      refine Reps.cons ?_ (lent_ok s (pre := pre ++ [n]) (by rw [hn, e2]; simp) (by rw [List.length_append]; exact h1) q2)
      rw [Rep] at q1 ⊢
      obtain ⟨a, o, e3, e4, e5⟩ := q1
      refine ⟨a, o, e3, ?_, e5⟩
      show (ns.map fun n => (w.l[n]?).join)[pre.length]? = some o
      rw [List.getElem?_map, hn, e2, List.getElem?_append_right (Nat.le_refl _), Nat.sub_self]
      show some ((w.l[n]?).join) = some o
      rw [e4]
      rfl
    | _ => exact other fun _ z => by cases z
/-- what a callee is asked -/
def spF (K : PySem.W.Frag) (Z : Zt) (cf : List D → M D) : L2.Sp := fun vs H Q E => ∃ w S ds, SRel K Z w H S ∧ Reps K Z w H ds vs ∧ Aft K Z (fun c d H => E c d H) w S H (cf ds) (End K Z Q)
theorem post_back {ns : List Nat} {w' : Wl} {H' : Hp} (s : SRel K Z w H S) (p : Post K (w.sub ns) H w' H') : Post K w H w H' :=
  ⟨⟨p.tup, fun a o h k => ⟨(p.keep a o h (out_sub k)).1, k⟩, fun _ o h => ⟨o, h, fun _ e => e⟩, p.dom⟩, rfl, fun a m => p.still a (List.mem_append_left _ m), fun n a hn e => absurd (lt_of_get e) (Nat.not_lt.mpr hn)⟩
theorem back_out {ns : List Nat} {w' : Wl} {H' : Hp} {q' : Store} (p : Post K (w.sub ns) H w' H') (s' : SRel K Z w' H' q') (hq : ∀ (k n : Nat), ns[k]? = some n → ∃ o, q'[k]? = some o ∧ o.rf = true) {a : Addr} (h : Out w' a) : Out w a := by
  have hid : w'.hid = w.hid ++ offs w.l ns := p.hid
  refine ⟨fun n e => ?_, fun m => h.2 (by rw [hid]; exact List.mem_append_left _ m)⟩
  by_cases hn : n ∈ ns
  · obtain ⟨k, hk⟩ := List.getElem?_of_mem hn
    obtain ⟨o, h1, h2⟩ := hq k n hk
    rcases s'.obj k o h1 with ⟨z, _⟩ | ⟨b, z, _⟩
    · subst z; cases h2
    · obtain ⟨q, hq1, hq2⟩ := p.ref k (some a) (sub_get.mpr ⟨n, hk, e⟩)
      rw [z] at hq1
      cases hq1
      cases hq2 b rfl
      exact h.1 k z
  · exact h.2 (by rw [hid]; exact List.mem_append_right _ (mem_offs.mpr ⟨n, hn, e⟩))
theorem srel_back {ns : List Nat} {w' : Wl} {H' : Hp} {q' S' : Store} (s : SRel K Z w H S) (nd : noDup ns = true) (p : Post K (w.sub ns) H w' H') (s' : SRel K Z w' H' q') (hp : putO S ns q' = some S') : SRel K Z w H' S' := by
  obtain ⟨h1, h2, h3⟩ := put_ok nd hp
  have hq : ∀ (k n : Nat), ns[k]? = some n → ∃ o, q'[k]? = some o ∧ o.rf = true := fun k n e => let ⟨o, a, b, _⟩ := h2 k n e; ⟨o, a, b⟩
  have pb := post_back s p
  refine ⟨by rw [h1]; exact s.len, s.inj, s.apart, fun a m => by rw [pb.still a m]; exact s.there a m, fun n o e => ?_⟩
  by_cases hn : n ∈ ns
  · obtain ⟨k, hk⟩ := List.getElem?_of_mem hn
    obtain ⟨o', g1, g2, g3⟩ := h2 k n hk
    cases g3 o e
    rcases s'.obj k _ g1 with ⟨z, _⟩ | ⟨b, z, u⟩
    · subst z; cases g2
    · have hl : n < w.l.length := by rw [s.len, ← h1]; exact lt_of_get e
      obtain ⟨c, hc⟩ := get_of_lt hl
      have hsub : (w.sub ns).l[k]? = some c := by
        show (ns.map fun n => (w.l[n]?).join)[k]? = some c
        rw [List.getElem?_map, hk]
        show some ((w.l[n]?).join) = _
        rw [hc]
        rfl
      obtain ⟨q, hq1, hq2⟩ := p.ref k c hsub
      rw [z] at hq1
      cases hq1
      have : c = some b := hq2 b rfl
      subst this
      exact .inr ⟨b, hc, u.other (fun _ => back_out p s' hq) g2⟩
  · rw [h3 n hn] at e
    rcases s.obj n o e with z | ⟨a, z, u⟩
    · exact .inl z
    · exact .inr ⟨a, z, u.mono pb.toExt (p.still a (List.mem_append_right _ (mem_offs.mpr ⟨n, hn, z⟩)))⟩
theorem srel_back2 {ns : List Nat} {w' : Wl} {H' : Hp} {q' S' : Store} {m : Nat} {c : Addr} (s : SRel K Z w H S) (nd : noDup ns = true) (p : Post K (w.sub ns) H w' H') (s' : SRel K Z w' H' q') (hp : putO S ns q' = some S') (hc : w'.l[m]? = some (some c)) (hn : H c = none) : SRel K Z (w.hide c) H' S' := by
  have s0 := srel_back s nd p s' hp
  obtain ⟨h1, h2, h3⟩ := put_ok nd hp
  have hq : ∀ (k n : Nat), ns[k]? = some n → ∃ o, q'[k]? = some o ∧ o.rf = true := fun k n e => let ⟨o, a, b, _⟩ := h2 k n e; ⟨o, a, b⟩
  have pb := post_back s p
  have ex : Ext K w H (w.hide c) H' := ⟨pb.tup, fun a o h k => ⟨(pb.keep a o h k).1, out_hide k fun z => by rw [z, hn] at h; cases h⟩, fun _ o h => ⟨o, h, fun _ e => e⟩, pb.dom⟩
  have op : ∀ a, Out w' a → Out (w.hide c) a := fun a h => out_hide (back_out p s' hq h) fun z => h.1 m (by rw [z]; exact hc)
  refine ⟨s0.len, s0.inj, fun n a e z => ?_, fun a z => ?_, fun n o e => ?_⟩
  · rcases List.mem_cons.mp z with z | z
    · obtain ⟨u, hu, _⟩ := s.some_ e
      rw [z, hn] at hu; cases hu
    · exact s0.apart n a e z
  · rcases List.mem_cons.mp z with z | z
    · subst z; exact s'.some_ hc
    · exact s0.there a z
  · by_cases hn : n ∈ ns
    · obtain ⟨k, hk⟩ := List.getElem?_of_mem hn
      obtain ⟨o', g1, g2, g3⟩ := h2 k n hk
      cases g3 o e
      rcases s'.obj k _ g1 with ⟨z, _⟩ | ⟨b, z, u⟩
      · subst z; cases g2
      · have hl : n < w.l.length := by rw [s.len, ← h1]; exact lt_of_get e
        obtain ⟨d, hd⟩ := get_of_lt hl
        have hsub : (w.sub ns).l[k]? = some d := by
          show (ns.map fun n => (w.l[n]?).join)[k]? = some d
          rw [List.getElem?_map, hk]
          show some ((w.l[n]?).join) = _
          rw [hd]
          rfl
        obtain ⟨q, hq1, hq2⟩ := p.ref k d hsub
        rw [z] at hq1
        cases hq1
        have : d = some b := hq2 b rfl
        subst this
        exact .inr ⟨b, hd, u.other op g2⟩
    · rw [h3 n hn] at e
      rcases s.obj n o e with z | ⟨a, z, u⟩
      · exact .inl z
      · exact .inr ⟨a, z, u.mono ex (p.still a (List.mem_append_right _ (mem_offs.mpr ⟨n, hn, z⟩)))⟩
/-- a new object comes into the caller's store -/
theorem ref_back {ns : List Nat} {w' : Wl} {H' : Hp} {q' S' : Store} {n : Nat} {o : O} {v : V} (s : SRel K Z w H S) (nd : noDup ns = true) (p : Post K (w.sub ns) H w' H') (s' : SRel K Z w' H' q') (hp : putO S ns q' = some S')
    (hl : ns.length ≤ n) (ho : q'[n]? = some o) (hr : o.rf = true) (hv : Rep K Z w' H' (.ref n) v) (h : ∀ w3 H3, Post K w H w3 H3 → SRel K Z w3 H3 (S' ++ [o]) → ∀ v, Rep K Z w3 H3 (.ref S'.length) v → Q v H3) : Q v H' := by
  obtain ⟨a, rfl, e1, e2⟩ := s'.at_ hv ho (fun z => by subst z; cases hr)
  have hn : H a = none := p.fresh n a (by show (ns.map _).length ≤ n; rw [List.length_map]; exact hl) e1
  have hq : ∀ (k n : Nat), ns[k]? = some n → ∃ o, q'[k]? = some o ∧ o.rf = true := fun k n e => let ⟨o, a, b, _⟩ := (put_ok nd hp).2.1 k n e; ⟨o, a, b⟩
  have op : ∀ x, Out w' x → Out (w.hide a) x := fun x h => out_hide (back_out p s' hq h) fun z => h.1 n (by rw [z]; exact e1)
  have hs : SRel K Z (w.hide a) H' S' := srel_back2 s nd p s' hp e1 hn
  have np : a ∉ w.hid := (s.out_new hn).2
  exact h (w.push a) H' ((post_back s p).push hn) (SRel.push hs np (ORep.other op hr e2)) _ (rep_pushed hs.len)
theorem callR_ok {cf : List D → M D} {ds : List D} {vs : List V} (s : SRel K Z w H S) (hr : Reps K Z w H ds vs) (h : Aft K Z Wx w S H (callR cf ds) (End K Z Q)) : spF K Z cf vs H Q Wx := by
  unfold Aft at h
  unfold callR at h
  by_cases nd : noDup (refsOf ds) = true
  · rw [if_pos nd] at h
    cases e1 : takeO S (refsOf ds) with
    | none => simp only [e1] at h
    | some q =>
      cases e2 : lent 0 ds with
      | none => simp only [e1, e2] at h
      | some es =>
        simp only [e1, e2] at h
        refine ⟨w.sub (refsOf ds), q, es, srel_sub s nd e1, lent_ok s (pre := []) (by simp) e2 hr, ?_⟩
        unfold Aft
        cases e3 : cf es q with
        | bad => simp only [e3] at h
        | ok r q' =>
          simp only [e3] at h
          cases e4 : putO S (refsOf ds) q' with
          | none => simp only [e4] at h
          | some S' =>
            simp only [e4] at h
            have plain : (∀ n, r ≠ .ref n) → ∀ w' H', Post K (w.sub (refsOf ds)) H w' H' → SRel K Z w' H' q' → End K Z Q r w' q' H' := fun hr w' H' p s' v hv => by
              have h : Aft K Z Wx w S H (fun _ => if r.rf = true then Res.ok r S' else Res.bad) (End K Z Q) := by
                cases r with
                | ref n => exact absurd rfl (hr n)
                | _ => exact h
              unfold Aft at h
              by_cases hrf : r.rf = true
              · rw [if_pos hrf] at h
                refine h w H' (post_back s p) (srel_back s nd p s' e4) v (Rep.other (fun _ => back_out p s' ?_) hrf hv)
                exact fun k n e => let ⟨o, a, b, _⟩ := (put_ok nd e4).2.1 k n e; ⟨o, a, b⟩
              · simp only [if_neg hrf] at h
            cases r with
            | ref n =>
              simp only at h
              by_cases hl : (refsOf ds).length ≤ n
              case neg => simp only [if_neg hl] at h
              rw [if_pos hl] at h
              cases e5 : q'[n]? with
              | none => simp only [e5] at h
              | some o =>
                simp only [e5] at h
                by_cases hrf : o.rf = true
                case neg => simp only [if_neg hrf] at h
                rw [if_pos hrf] at h
                exact fun w' H' p s' v hv => ref_back s nd p s' e4 hl e5 hrf hv h
            | _ => exact plain fun n z => by cases z
        | exc c ns xs q' =>
          simp only [e3] at h
          by_cases hrf : D.rfs xs = true
          · rw [if_pos hrf] at h
            cases e4 : putO S (refsOf ds) q' with
            | none => simp only [e4] at h
            | some S' =>
              simp only [e4] at h
              intro w' H' d p s' hx
              have ho : ∀ a, Out w' a → Out w a := fun _ => back_out p s' fun k n e => let ⟨o, a, b, _⟩ := (put_ok nd e4).2.1 k n e; ⟨o, a, b⟩
              refine h w H' d (post_back s p) (srel_back s nd p s' e4) ?_
              rcases hx with hx | ⟨dd, fs, z1, z2, z3, z4⟩
              · exact .inl hx
              · exact .inr ⟨dd, fs, z1, z2, z3, Reps.other ho hrf z4⟩
          · simp only [if_neg hrf] at h
  · simp only [if_neg nd] at h
end EV
end
section
set_option Elab.async false
set_option linter.all false
set_option maxRecDepth 100000
set_option maxHeartbeats 4000000
/-! EV, part j: rules for calls. -/
namespace EV
open L2 (V HO Hp upd upd_same upd_ne SqT SqL Rd Key Cx Ends TE TT TA TS TG TI PE PT PA PS PSs PG PI VK XK WX PC OpR R2 CallR FnOk Room Gl Binds PassesAt CXT)
open PySem PySem.Spec

variable {K : PySem.W.Frag} {Z : Zt} {w w1 : Wl} {H H1 : Hp} {S S1 : Store} {r : Env} {σ : L2.St} {α β : Type} {Wx : Value → Option Addr → Hp → Prop}
variable {call : Nat → List D → M D} {gl : List D} {X : Cx} {W : WX} {Q : VK} {CX : CXT}
variable {e a b c o : Expr} {es : List Expr} {pe pa pb pc po : E} {pes : Es} {pos p p2 p3 apos : Pos} {k f : Nat} {fa C : Addr} {fd : FuncData} {ps : List Str} {x m : Str}

theorem s_call (F : FnOk X.prog X.w X.K X.mg X.base CX k fa fd ps (spF X.K Z (call f))) (hr : Room k X.A) (hg : Gl X x) (hm : X.mg x = some (.ref fa)) (hk : PySem.W.keepIn X.K (.ref fa) = true) (hb : Binds X.K fd ps []) (hx : ∀ σ, PassesAt CX X σ (L2.WE W σ))
    (hd : (x == ("__debug__" : Str)) = false) (hs : (e :: es).all noStar = true) (ha : PA X (e :: es) (tEs Z call gl X W pes)) : PE X (.Call (.Name x p) (e :: es) [] pos) (tE Z call gl X W (.call f pes)) := by
  rw [List.all_cons, Bool.and_eq_true] at hs
  refine imp_pe (L2.pe_callS F hr hg hm hk hb hx ha hd (star_cons hs.1) (back_any hs.2)) fun σ H Q ⟨w, S, r, rel, h⟩ => ?_
  rw [evalE] at h
  exact tEs_mono (tEs_step rel h) fun vs H1 ⟨ds, w1, S1, r1, hx, p1, q⟩ => callR_ok r1.s hx q
theorem s_call0 (F : FnOk X.prog X.w X.K X.mg X.base CX k fa fd ps (spF X.K Z (call f))) (hr : Room k X.A) (hg : Gl X x) (hm : X.mg x = some (.ref fa)) (hk : PySem.W.keepIn X.K (.ref fa) = true) (hb : Binds X.K fd ps []) (hx : ∀ σ, PassesAt CX X σ (L2.WE W σ))
    (hd : (x == ("__debug__" : Str)) = false) : PE X (.Call (.Name x p) [] [] pos) (tE Z call gl X W (.call f .nil)) := by
  refine ⟨fun pins s σ H Q I h => ?_⟩
  refine wpAny_Call_Name_kw (L2.ld_glob I hg hm ?_ hd)
  obtain ⟨w, S, r, rel, h⟩ := h
  rw [evalE, evalEs] at h
  exact PySem.W.callWith_K0 I.kIn hk (L2.run_fnS (us := []) F hr hb (hx σ) I .nil (callR_ok rel.s Reps.nil h))
/-! ### keywords alone -/
theorem pick_vals {vs : List V} {us : List Value} (h : L2.Vals vs us) : ∀ ks : List Nat, L2.Vals (pick ks vs) (pick ks us)
  | [] => .nil
  | k :: ks => by
    unfold pick
    rw [List.filterMap_cons, List.filterMap_cons]
    cases e : vs[k]? with
    | none =>
      have : us[k]? = none := by rw [List.getElem?_eq_none_iff] at e ⊢; rw [← h.length]; exact e
      rw [this]
      exact pick_vals h ks
    | some v =>
      obtain ⟨u, hu, hr⟩ := h.get e
      rw [hu]
      exact .cons hr (pick_vals h ks)
theorem pick_reps {ds : List D} {vs : List V} (h : Reps K Z w H ds vs) : ∀ ks : List Nat, Reps K Z w H (pick ks ds) (pick ks vs)
  | [] => Reps.nil
  | k :: ks => by
    unfold pick
    rw [List.filterMap_cons, List.filterMap_cons]
    cases e : ds[k]? with
    | none =>
      have : vs[k]? = none := by rw [List.getElem?_eq_none_iff] at e ⊢; rw [← Reps.len h]; exact e
      rw [this]
      exact pick_reps h ks
    | some d =>
      obtain ⟨u, hu, hr⟩ := Reps.get h e
      rw [hu]
      exact Reps.cons hr (pick_reps h ks)
def kwE : List Keyword → List Expr
  | [] => []
  | ⟨_, e, _⟩ :: r => e :: kwE r
theorem ks_nil : L2.PK X [] (tEs Z call gl X W .nil) :=
  ⟨fun pos pins s σ H Q I ⟨w, S, r, rel, h⟩ => L2.pk_nil.run pos pins s σ H Q I (by rw [evalEs] at h; exact h.ret rel.s [] Reps.nil)⟩
theorem ks_cons {nm : Option Str} {kws : List Keyword} (ha : PE X e (tE Z call gl X W pe)) (hr : L2.PK X kws (tEs Z call gl X W pes)) : L2.PK X (⟨nm, e, p⟩ :: kws) (tEs Z call gl X W (.cons pe pes)) :=
  ⟨fun pos pins s σ H Q I ⟨w, S, r, rel, h⟩ => (L2.pk_cons ha hr).run pos pins s σ H Q I (by
    rw [evalEs] at h
    refine tE_mono (tE_step rel h) fun v H1 ⟨x, w1, S1, r1, hx, p1, h1⟩ => ?_
    refine tEs_mono (tEs_step r1 h1) fun vs H2 ⟨xs, w2, S2, r2, hxs, p2, h2⟩ => ?_
    exact h2.ret r2.s (v :: vs) (Reps.cons (Rep.mono p2 hx) hxs))⟩
/-- the keywords' names -/
def kwN (kws : List Keyword) : Option (List Str) := kws.mapM fun k => k.arg
theorem kw_names {env : PySem.Env} : ∀ {kws : List Keyword} {ks : List Str}, kwN kws = some ks → (backToKw pos (keywordEach kws env)).all (·.1.isSome) = true ∧ (backToKw pos (keywordEach kws env)).filterMap (·.1) = ks ∧ (backToKw pos (keywordEach kws env)).any (·.1.isNone) = false
  | [], ks, h => by
    have : ks = [] := by unfold kwN at h; simpa using h.symm
    subst this
    exact ⟨rfl, rfl, rfl⟩
  | ⟨nm, e, p⟩ :: r, ks, h => by
    unfold kwN at h
    rw [List.mapM_cons] at h
    cases nm with
    | none => cases h
    | some x =>
      cases e2 : kwN r with
      | none => unfold kwN at e2; rw [e2] at h; cases h
      | some l =>
        obtain ⟨h1, h2, h3⟩ := kw_names (env := env) e2
        unfold kwN at e2
        rw [e2] at h
        have h : some (x :: l) = some ks := h
        cases h
        refine ⟨?_, ?_, ?_⟩
        · show (true && (backToKw pos (keywordEach r env)).all (·.1.isSome)) = true
          rw [h1]
          rfl
        · show x :: (backToKw pos (keywordEach r env)).filterMap (·.1) = x :: l
          rw [h2]
        · show (false || (backToKw pos (keywordEach r env)).any (·.1.isNone)) = false
          rw [h3]
          rfl
theorem s_callK {ks : List Str} {perm : List Nat} {kws : List Keyword} (F : FnOk X.prog X.w X.K X.mg X.base CX k fa fd ps (spF X.K Z (call f))) (hr : Room k X.A) (hg : Gl X x) (hm : X.mg x = some (.ref fa)) (hk : PySem.W.keepIn X.K (.ref fa) = true)
    (hb : ∀ (s : Shared) (ws : List Value), ws.length = perm.length → BindsTo s fd ⟨[], ks.zip ws⟩ (ps.zip (pick perm ws))) (hx : ∀ σ, PassesAt CX X σ (L2.WE W σ))
    (hd : (x == ("__debug__" : Str)) = false) (hks : kwN kws = some ks) (ha : L2.PK X kws (tEs Z call gl X W pes)) : PE X (.Call (.Name x p) [] kws pos) (tE Z call gl X W (.callK f pes perm)) := by
  refine ⟨fun pins s σ H Q I ⟨w, S, r, rel, h⟩ => ?_⟩
  obtain ⟨k1, k2, k3⟩ := kw_names (pos := pos) (env := X.env) hks
  refine wpAny_Call_Name_kw (L2.ld_glob I hg hm ?_ hd)
  rw [evalE] at h
  have h2 : tEs Z call gl X W pes σ H fun vs H1 => vs.length = perm.length ∧ spF X.K Z (call f) (pick perm vs) H1 Q (L2.WE W σ) := by
    refine tEs_mono (tEs_step rel h) fun vs H1 ⟨ds, w1, S1, r1, hx, p1, q⟩ => ?_
    split at q
    · rename_i hl
      exact ⟨by rw [← Reps.len hx, hl], callR_ok r1.s (pick_reps hx perm) q⟩
    · exact q.no.elim
  refine PySem.W.callWith_KW0 (h₀ := X.base) I.ok.mod.kin hk k1 (L2.thn (ha.run pos pins s σ H _ I h2) fun ws s1 ⟨zs, H1, I1, rz, l1, q⟩ => ⟨I1.kIn, ?_⟩) k3
  rw [k2]
  have hl := F.len _ _ _ _ q
  refine wpAny_call (codeAny_mono (F.run X.A X.stack s1 H1 ⟨[], ks.zip ws⟩ (pick perm ws) (pick perm zs) Q (L2.WE W σ) hr I1.env0 (hb s1 ws (by rw [← rz.length]; exact l1)) (pick_vals rz perm) q) fun r s' hq => ?_)
  cases r with
  | error e => exact hx σ pins H1 s1 e s' I1 hq
  | ok fl =>
    cases fl with
    | ret u => exact I1.after hq
    | next => exact False.elim hq
    | brk => exact False.elim hq
    | cont => exact False.elim hq
/-! ### methods -/
theorem meth_eval {env : PySem.Env} (hb : notCall0 o = true) (hl : (apos.endLine == pos.line) = true) (hs : es.all noStar = true) (hn : es.length < 30) : eval (.Call (.Attribute o x apos) es [] pos) env = (do
      let ov ← eval o env
      standAt apos.atName
      let (f, first) ← holding [ov] (getMethod ov x (do return (← importBound o env).getD true))
      callWith pos f first (backTo pos (starEach es env)) (backToKw pos (keywordEach [] env))) := by
  rw [arm_eval_Call, base_ok hb]
  have hform : methodCallForm (es.length + ([] : List Keyword).length) (backTo pos (starEach es env)) (backToKw pos (keywordEach [] env)) = true := by
    unfold methodCallForm
    have h1 : (backTo pos (starEach es env)).all (fun y => !y.1) = true := by
      have := back_any (pos := pos) (env := env) hs
      rw [List.any_eq_false] at this
      rw [List.all_eq_true]
      intro y hy
      have := this y hy
      simpa using this
    rw [h1]
    simp [keywordEach, backToKw, hn]
  have hpos : methodCallPos true o env apos pos = pure pos := by unfold methodCallPos; simp [hl]
  unfold methodCall
  rw [hform, hpos]
  rfl
theorem lookup_none {f : Nat} (hF : ∀ m n, Z.fN m = Z.fN n → m = n) : ∀ {ns : List Nat} {fs : List (Str × V)}, fs.map (·.1) = ns.map Z.fN → f ∉ ns → fs.lookup (Z.fN f) = none
  | [], fs, h, _ => by
    cases fs with
    | nil => rfl
    | cons y fs => cases h
  | n :: ns, fs, h, hf => by
    cases fs with
    | nil => rfl
    | cons y fs =>
      simp only [List.map_cons, List.cons.injEq] at h
      obtain ⟨y1, y2⟩ := y
      have h0 : y1 = Z.fN n := h.1
      subst h0
      rw [List.mem_cons, not_or] at hf
      have : (Z.fN f == Z.fN n) = false := beq_eq_false_iff_ne.mpr fun z => hf.1 (hF _ _ z)
      simp only [List.lookup, this]
      exact lookup_none hF h.2 hf.2
theorem meth_at {c m : Nat} {d : D} {v : V} {R : Unit → Wl → Store → Hp → Prop} (hF : ∀ m n, Z.fN m = Z.fN n → m = n) (s : SRel K Z w H S) (hd : Rep K Z w H d v) (h : Aft K Z Wx w S H (methOf d c m) R) :
    ∃ a dx fs, v = .ref a ∧ H a = some (.ins (Z.cA c) dx fs) ∧ fs.lookup (Z.fN m) = none ∧ R () w S H := by
  cases d with
  | obj b ns vs =>
    rw [Rep] at hd
    obtain ⟨a, dx, fs, e, _, z1, z2, z3⟩ := hd
    by_cases hc : b = c ∧ m ∉ ns
    · have q := h.ok (a := ()) (by show (if b = c ∧ m ∉ ns then _ else _) = _; rw [if_pos hc]) w H Post.rfl s
      exact ⟨a, dx, fs, e, by rw [← hc.1]; exact z1, lookup_none hF z2 hc.2, q⟩
    · exact (h.bad (by show (if b = c ∧ m ∉ ns then _ else _) = _; rw [if_neg hc])).elim
  | ref n =>
    cases e : S[n]? with
    | none => exact (h.bad (by unfold methOf; simp only [e])).elim
    | some o =>
      cases o with
      | ins b ns vs =>
        obtain ⟨a, e1, _, dx, fs, z1, z2, z3⟩ := s.at_ hd e (fun z => by cases z)
        by_cases hc : b = c ∧ m ∉ ns
        · have q := h.ok (a := ()) (by unfold methOf; simp only [e]; rw [if_pos hc]) w H Post.rfl s
          exact ⟨a, dx, fs, e1, by rw [← hc.1]; exact z1, lookup_none hF z2 hc.2, q⟩
        · exact (h.bad (by unfold methOf; simp only [e]; rw [if_neg hc])).elim
      | _ => exact (h.bad (by unfold methOf; simp only [e])).elim
  | _ => exact (h.bad rfl).elim
theorem s_meth {cl m : Nat} (hF : ∀ m n, Z.fN m = Z.fN n → m = n) (hC : L2.Cls X.K (Z.cA cl)) (hM : L2.Meth X.K (Z.cA cl) (Z.fN m) fa) (F : FnOk X.prog X.w X.K X.mg X.base CX k fa fd ps (spF X.K Z (call f))) (hr : Room k X.A) (hb : Binds X.K fd ps []) (hx : ∀ σ, PassesAt CX X σ (L2.WE W σ))
    (hbo : notCall0 o = true) (hl : (apos.endLine == pos.line) = true) (hs : (e :: es).all noStar = true) (hn : (e :: es).length < 30) (ho : PE X o (tE Z call gl X W po)) (ha : PA X (e :: es) (tEs Z call gl X W pes)) :
    PE X (.Call (.Attribute o (Z.fN m) apos) (e :: es) [] pos) (tE Z call gl X W (.meth cl m f po pes)) := by
  refine ⟨fun pins s σ H Q I ⟨w, S, r, rel, h⟩ => ?_⟩
  rw [evalE] at h
  have h2 : tE Z call gl X W po σ H fun v H1 => ∃ a dx fs, v = .ref a ∧ H1 a = some (.ins (Z.cA cl) dx fs) ∧ fs.lookup (Z.fN m) = none ∧ tEs Z call gl X W pes σ H1 fun vs H2 => spF X.K Z (call f) (.ref a :: vs) H2 Q (L2.WE W σ) := by
    refine tE_mono (tE_step rel h) fun v H1 ⟨x, w1, S1, r1, hx, p1, h1⟩ => ?_
    obtain ⟨a, dx, fs, rfl, e1, e2, h3⟩ := meth_at hF r1.s hx h1.seq
    refine ⟨a, dx, fs, rfl, e1, e2, ?_⟩
    exact tEs_mono (tEs_step r1 h3) fun vs H2 ⟨ds, w2, S2, r2, hds, p2, q⟩ => callR_ok r2.s (Reps.cons (Rep.mono p2 hx) hds) q
  rw [List.all_cons, Bool.and_eq_true] at hs
  refine PySem.W.methodCall_KW (L2.thn (ho.run pins s σ H _ I h2) fun u s1 ⟨x, H1, I1, rx, a, dx, fs, ex, ea, l, q⟩ => ?_) (meth_eval hbo hl (by rw [List.all_cons, hs.1, hs.2]; rfl) hn)
  subst ex
  obtain rfl : u = Value.ref a := rx
  refine L2.getmeth_ok I1 ea hC hM l ?_
  refine PySem.W.callWith_K (first := [.ref a]) (h₀ := X.base) I.ok.mod.kin hM.kp (L2.thn (ha.run pos pins s1 σ H1 _ I1 q) fun us s2 ⟨vs, H2, I2, r, q2⟩ => ⟨I2.kIn, ?_⟩) (star_cons hs.1) (back_any hs.2)
  exact L2.run_fnS (us := .ref a :: us) (vs := .ref a :: vs) F hr hb (hx σ) I2 (.cons rfl r) q2
theorem s_meth0 {cl m : Nat} (hF : ∀ m n, Z.fN m = Z.fN n → m = n) (hC : L2.Cls X.K (Z.cA cl)) (hM : L2.Meth X.K (Z.cA cl) (Z.fN m) fa) (F : FnOk X.prog X.w X.K X.mg X.base CX k fa fd ps (spF X.K Z (call f))) (hr : Room k X.A) (hb : Binds X.K fd ps []) (hx : ∀ σ, PassesAt CX X σ (L2.WE W σ))
    (hbo : notCall0 o = true) (hl : (apos.endLine == pos.line) = true) (ho : PE X o (tE Z call gl X W po)) :
    PE X (.Call (.Attribute o (Z.fN m) apos) [] [] pos) (tE Z call gl X W (.meth cl m f po .nil)) := by
  refine ⟨fun pins s σ H Q I ⟨w, S, r, rel, h⟩ => ?_⟩
  rw [evalE] at h
  have h2 : tE Z call gl X W po σ H fun v H1 => ∃ a dx fs, v = .ref a ∧ H1 a = some (.ins (Z.cA cl) dx fs) ∧ fs.lookup (Z.fN m) = none ∧ spF X.K Z (call f) [.ref a] H1 Q (L2.WE W σ) := by
    refine tE_mono (tE_step rel h) fun v H1 ⟨x, w1, S1, r1, hx, p1, h1⟩ => ?_
    obtain ⟨a, dx, fs, rfl, e1, e2, h3⟩ := meth_at hF r1.s hx h1.seq
    refine ⟨a, dx, fs, rfl, e1, e2, ?_⟩
    rw [evalEs] at h3
    exact callR_ok r1.s (Reps.one hx) h3
  refine PySem.W.methodCall_KW (L2.thn (ho.run pins s σ H _ I h2) fun u s1 ⟨x, H1, I1, rx, a, dx, fs, ex, ea, l, q⟩ => ?_) (meth_eval hbo hl rfl (by decide))
  subst ex
  obtain rfl : u = Value.ref a := rx
  refine L2.getmeth_ok I1 ea hC hM l ?_
  exact PySem.W.callWith_K0 (first := [.ref a]) I1.kIn hM.kp (L2.run_fnS (us := [.ref a]) (vs := [.ref a]) F hr hb (hx σ) I1 (.cons rfl .nil) q)
end EV
end
section
set_option Elab.async false
set_option linter.all false
set_option maxRecDepth 100000
set_option maxHeartbeats 4000000
/-! EV, part k: new instances. -/
namespace EV
open L2 (V HO Hp upd upd_same upd_ne SqT SqL Rd Key Cx Ends TE TT TA TS TG TI PE PT PA PS PSs PG PI VK XK WX PC OpR R2 CallR FnOk Room Gl Binds PassesAt CXT)
open PySem PySem.Spec

variable {K : PySem.W.Frag} {Z : Zt} {w w1 : Wl} {H H1 : Hp} {S S1 : Store} {r : Env} {σ : L2.St} {α β : Type} {Wx : Value → Option Addr → Hp → Prop}
variable {call : Nat → List D → M D} {gl : List D} {X : Cx} {W : WX} {Q : VK} {CX : CXT}
variable {e a b c o : Expr} {es : List Expr} {pe pa pb pc po : E} {pes : Es} {pos p p2 p3 apos : Pos} {k f : Nat} {fa C : Addr} {fd : FuncData} {ps : List Str} {x m : Str}

/-- nothing of the store is seen -/
def Wl.close (w : Wl) : Wl := ⟨[], w.hid ++ offs w.l []⟩
theorem out_close {a : Addr} (h : Out w a) : Out w.close a := by
  refine ⟨fun k e => by simp [Wl.close] at e, fun m => ?_⟩
  rcases List.mem_append.mp m with m | m
  · exact h.2 m
  · obtain ⟨n, _, h2⟩ := mem_offs.mp m
    exact h.1 n h2
theorem close_out {a : Addr} {hd : List Addr} {l : List (Option Addr)} (h : Out ⟨l, w.hid ++ offs w.l []⟩ a) : Out w a :=
  ⟨fun n e => h.2 (List.mem_append_right _ (mem_offs.mpr ⟨n, by simp, e⟩)), fun m => h.2 (List.mem_append_left _ m)⟩
theorem srel_close (s : SRel K Z w H S) : SRel K Z w.close H [] := by
  refine ⟨rfl, fun n m a e => by simp [Wl.close] at e, fun n a e => by simp [Wl.close] at e, fun a m => ?_, fun n o e => by simp at e⟩
  rcases List.mem_append.mp m with m | m
  · exact s.there a m
  · obtain ⟨k, k1, k2⟩ := mem_offs.mp m
    exact s.some_ k2
theorem makeR_ok {cf : List D → M D} {c : Nat} {ds : List D} {vs : List V} (s : SRel K Z w H S) (hr : Reps K Z w H ds vs) (h : Aft K Z Wx w S H (makeR cf c ds) (End K Z Q)) {x dx : Addr} (hx : H x = none) (hdx : H dx = none) (hne : dx ≠ x) :
    spF K Z cf (.ref x :: vs) (upd (upd H dx (.own x)) x (.ins (Z.cA c) dx [])) (fun v H2 => v = .non ∧ Q (.ref x) H2) Wx := by
  unfold Aft makeR at h
  by_cases hrf : D.rfs ds = true
  · rw [if_pos hrf] at h
    have s0 := srel_close s
    have x1 : upd H dx (.own x) x = none := by rw [upd_ne (Ne.symm hne)]; exact hx
    have s1 : SRel K Z w.close (upd H dx (.own x)) [] := s0.new hdx
    have p1 : Post K w.close H w.close (upd H dx (.own x)) := Post.new s0 hdx
    obtain ⟨p2, s2⟩ := new_obj (o := .ins (Z.cA c) dx []) (ob := .ins c [] []) s1 x1 (fun _ z => by cases z) (fun _ _ z => by cases z) ⟨dx, [], upd_same, rfl, Reps.nil⟩
    have p12 := p1.trans p2
    refine ⟨w.close.push x, [.ins c [] []], .ref 0 :: ds, s2, Reps.cons (rep_pushed (S := []) rfl) (Reps.mono p12.toExt (Reps.other (fun _ => out_close) hrf hr)), ?_⟩
    have back : ∀ {w' : Wl} {H' : Hp}, Post K (w.close.push x) (upd (upd H dx (.own x)) x (.ins (Z.cA c) dx [])) w' H' → Post K w H w H' ∧ SRel K Z w H' S ∧ ∀ a, Out w' a → Out w a := fun {w' H'} p3 => by
      have p := p12.trans p3
      have hid : w'.hid = w.hid ++ offs w.l [] := p.hid
      have pw : Post K w H w H' := ⟨⟨p.tup, fun a o h k => ⟨(p.keep a o h (out_close k)).1, k⟩, fun _ o h => ⟨o, h, fun _ e => e⟩, p.dom⟩, rfl, fun a m => p.still a (List.mem_append_left _ m), fun n a hn e => absurd (lt_of_get e) (Nat.not_lt.mpr hn)⟩
      exact ⟨pw, s.mono pw fun n a e => p.still a (List.mem_append_right _ (mem_offs.mpr ⟨n, by simp, e⟩)), fun a ho =>
        ⟨fun n e => ho.2 (by rw [hid]; exact List.mem_append_right _ (mem_offs.mpr ⟨n, by simp, e⟩)), fun m => ho.2 (by rw [hid]; exact List.mem_append_left _ m)⟩⟩
    unfold Aft
    cases e : cf (.ref 0 :: ds) [.ins c [] []] with
    | bad => simp only [e] at h
    | exc d ns xs q' =>
      simp only [e] at h
      by_cases hrx : D.rfs xs = true
      · rw [if_pos hrx] at h
        intro w' H' dd p3 s3 hxd
        obtain ⟨b1, b2, b3⟩ := back p3
        refine h w H' dd b1 b2 ?_
        rcases hxd with hxd | ⟨q, fs, z1, z2, z3, z4⟩
        · exact .inl hxd
        · exact .inr ⟨q, fs, z1, z2, z3, Reps.other b3 hrx z4⟩
      · simp only [if_neg hrx] at h
    | ok rr q' =>
      simp only [e] at h
      cases rr with
      | non =>
        cases q' with
        | nil => simp only at h
        | cons ob q' =>
          cases ob with
          | ins b ns us =>
            simp only at h
            by_cases hb : (D.rfs us && decide (b = c)) = true
            · rw [if_pos hb] at h
              rw [Bool.and_eq_true, decide_eq_true_eq] at hb
              obtain ⟨hb1, rfl⟩ := hb
              intro w' H' p3 s3 v hv
              rw [rep_non] at hv
              obtain ⟨b1, b2, b3⟩ := back p3
              refine ⟨hv, h w H' b1 b2 (.ref x) ?_⟩
              rcases s3.obj 0 _ rfl with ⟨z, _⟩ | ⟨a, z, dx', fs, z1, z2, z3⟩
              · cases z
              · obtain ⟨q, hq1, hq2⟩ := p3.ref 0 (some x) rfl
                rw [z] at hq1
                cases hq1
                cases hq2 a rfl
                rw [Rep]
                exact ⟨x, dx', fs, rfl, s.out_new hx, z1, z2, Reps.other b3 hb1 z3⟩
            · simp only [if_neg hb] at h
          | _ => simp only at h
      | _ => simp only at h
  · simp only [if_neg hrf] at h
theorem s_make {cl : Nat} (M : L2.Mk X.K (Z.cA cl) fa) (F : FnOk X.prog X.w X.K X.mg X.base CX k fa fd ps (spF X.K Z (call f))) (hr : Room (k + 1) X.A) (hg : Gl X x) (hm : X.mg x = some (.ref (Z.cA cl))) (hb : Binds X.K fd ps []) (hx : ∀ σ, PassesAt CX X σ (L2.WE W σ))
    (hd : (x == ("__debug__" : Str)) = false) (hs : (e :: es).all noStar = true) (ha : PA X (e :: es) (tEs Z call gl X W pes)) : PE X (.Call (.Name x p) (e :: es) [] pos) (tE Z call gl X W (.make cl f pes)) := by
  refine ⟨fun pins s σ H Q I ⟨w, S, r, rel, h⟩ => ?_⟩
  rw [List.all_cons, Bool.and_eq_true] at hs
  rw [evalE] at h
  have h2 : tEs Z call gl X W pes σ H fun vs H1 => ∀ y dy, H1 y = none → H1 dy = none → dy ≠ y → spF X.K Z (call f) (.ref y :: vs) (upd (upd H1 dy (.own y)) y (.ins (Z.cA cl) dy [])) (fun v H2 => v = .non ∧ Q (.ref y) H2) (L2.WE W σ) :=
    tEs_mono (tEs_step rel h) fun vs H1 ⟨ds, w1, S1, r1, hx, p1, q⟩ y dy h1 h2 h3 => makeR_ok r1.s hx q h1 h2 h3
  refine wpAny_Call_Name_kw (L2.ld_glob I hg hm ?_ hd)
  refine PySem.W.callWith_K (h₀ := X.base) I.ok.mod.kin M.kp (L2.thn (ha.run pos pins s σ H _ I h2) fun us s1 ⟨vs, H1, I1, r, q⟩ => ⟨I1.kIn, ?_⟩) (star_cons hs.1) (back_any hs.2)
  have hq := q (s1.heap.objs.size + 1) s1.heap.objs.size (I1.hok.fresh (Nat.le_succ _)) (I1.hok.fresh (Nat.le_refl _)) (Nat.ne_of_lt (Nat.lt_succ_self _))
  have I2 := L2.Inv.made (C := Z.cA cl) I1
  have r2 : L2.Vals (V.ref (s1.heap.objs.size + 1) :: vs) (Value.ref (s1.heap.objs.size + 1) :: us) := .cons rfl r
  have hl : (Value.ref (s1.heap.objs.size + 1) :: us).length = ps.length := by
    have e := r2.length
    rw [F.len _ _ _ _ hq] at e
    exact e.symm
  have hbb := hb _ (Value.ref (s1.heap.objs.size + 1) :: us) I2.kIn (by rw [List.append_nil]; exact hl)
  rw [List.append_nil] at hbb
  refine wpAny_call (L2.make_map (f := fa) I1.kIn M.makes M.init (beq_iff_eq.mp M.fn) (codeAny_mono (F.run _ X.stack _ _ ⟨Value.ref (s1.heap.objs.size + 1) :: us, []⟩ (Value.ref (s1.heap.objs.size + 1) :: us) _ _ (L2.WE W σ) (hr.make (Z.cA cl) us [])
    (I2.env0.make (Z.cA cl) us []) hbb r2 hq) fun r s' hq' => ?_))
  cases r with
  | error e => exact hx σ pins _ _ e s' I2 hq'
  | ok fl =>
    cases fl with
    | ret u =>
      obtain ⟨v, H', I3, rv, ev, q3⟩ := I2.after hq'
      subst ev
      exact ⟨rv, ⟨V.ref (s1.heap.objs.size + 1), H', I3, rfl, q3⟩⟩
    | next => exact False.elim hq'
    | brk => exact False.elim hq'
    | cont => exact False.elim hq'
end EV
end
section
set_option Elab.async false
set_option linter.all false
set_option maxRecDepth 100000
set_option maxHeartbeats 4000000
/-! EV, part l: enumerate and zip over lists and tuples. -/
namespace EV
open PySem PySem.Spec PyProof.Rows L2

theorem meets_enumerate_one {v : Value} {o : Obj} {H : Heap → Prop} (B : PySem.Begins v o H) :
    Meets (Builtin.«enumerate.__new__» ⟨[.type "enumerate", v], []⟩) (fun _ R s => H s.heap ∧
      R (.ok (.ret (.ref (s.heap.push o).objs.size))) { s with heap := (s.heap.push o).push { cls := .type "enumerate", data := .fields #[.none, .bool false, .ref s.heap.objs.size, rawInt 0, .none, .none] } }) :=
  .of_wp fun prog w A R s h => by
    obtain ⟨hp, g, d, tk, os⟩ := s; obtain ⟨h1, h⟩ := h
    have hsub := sub_enumerate
    have q1 : ∀ {A' : Around} {E : Value → Shared → Prop} {Q : Value → Shared → Prop}, Q (.ref hp.objs.size) ⟨hp.push o, g, d, tk, os⟩ → wpAny (model prog w) A' (pyIter v) Q E ⟨hp, g, d, tk, os⟩ :=
      fun q => B.iter prog w _ _ ⟨hp, g, d, tk, os⟩ _ h1 q
    wp_walk using q1
    refine wpAny_stack_any fun st => wpAny_pure ?_
    split
    · rename_i c _ _ _ _ _
      cases (c == Value.type "enumerate")
      · wp_walk using q1
        exact ⟨_, rfl, h⟩
      · wp_walk using q1
        exact ⟨_, rfl, h⟩
    · wp_walk using q1
      exact ⟨_, rfl, h⟩
theorem call_enum_one {prog : Program} {w : World} {A : Around} {E : Value → Shared → Prop} {s : Shared} {v : Value} {o : Obj} {H : Heap → Prop} {Q : Value → Shared → Prop} (B : PySem.Begins v o H) (h1 : H s.heap)
    (h : ∀ h', IsEnum h' (s.heap.objs.size + 1) s.heap.objs.size 0 .none → h'.get? s.heap.objs.size = some o → h'.objs.size = s.heap.objs.size + 2 →
      (∀ b o, s.heap.get? b = some o → h'.get? b = some o) → Q (.ref (s.heap.objs.size + 1)) { s with heap := h' }) :
    wpAny (model prog w) A (call (.type "enumerate") [v]) Q E s := by
  refine callType_new F.called_enumerate (by decide) (F.typeCall_enumerate_1 _) (F.newCall_enumerate_1 _) (fun obj => F.args_object_init_2 obj _) F.entry_enumerate_new
    (meets_enumerate_one B) ⟨h1, ?_⟩
  have hz : (s.heap.push o).objs.size = s.heap.objs.size + 1 := Heap.size_push ..
  show _ ∧ _
  rw [hz]
  have he : IsEnum ((s.heap.push o).push { cls := .type "enumerate", data := .fields #[.none, .bool false, .ref s.heap.objs.size, rawInt 0, .none, .none] }) (s.heap.objs.size + 1) s.heap.objs.size 0 .none := by
    have := Heap.get?_push_size (s.heap.push o) (o := { cls := .type "enumerate", data := .fields #[.none, .bool false, .ref s.heap.objs.size, rawInt 0, .none, .none] }) rfl
    rw [hz] at this; exact this
  refine ⟨⟨_, he, rfl⟩, h _ he (Heap.get?_push_of_some _ (Heap.get?_push_size _ B.free)) (by rw [Heap.size_push, hz]) fun b o x => Heap.get?_push_of_some _ (Heap.get?_push_of_some _ x)⟩

/-! ### lists and tuples alike -/
def Sq (K : PySem.W.Frag) (t : Bool) (H : Hp) (a : Addr) (xs : List V) : Prop := match t with | true => SqT K H a xs | false => SqL K H a xs
def SeqH (t : Bool) (h : Heap) (a : Addr) (items : Array Value) : Prop := match t with | true => h.IsTuple a items | false => h.IsList a items
def IterH (t : Bool) (h : Heap) (it a : Addr) (i : Nat) : Prop := match t with | true => h.IsTupleIter it a i | false => h.IsListIter it a i
def iterO (t : Bool) (a : Addr) : Obj := match t with | true => { cls := .type "tuple_iterator", data := .fields #[.ref a, .int 0 0] } | false => { cls := .type "list_iterator", data := .fields #[.ref a, .int 0 0] }
theorem begins (t : Bool) (a : Addr) (items : Array Value) : PySem.Begins (.ref a) (iterO t a) fun h => SeqH t h a items := by
  cases t
  · exact PySem.begins_list a items
  · exact PySem.begins_tuple a items
theorem draws {prog : Program} {w : World} {A : Around} (t : Bool) (hh : A.handled = none) (it a : Addr) (hne : a ≠ it) (items : Array Value) :
    Draws prog w A it [it, a] items.size (fun i v => items[i]? = some v) (fun i h => IterH t h it a i ∧ SeqH t h a items) := by
  cases t
  · exact Draws.list hh it a hne items
  · exact PySem.Draws.tuple hh it a hne items
theorem iter_at {t : Bool} {h h' : Heap} {it a : Addr} {i : Nat} (x : IterH t h it a i) (k : ∀ o, h.get? it = some o → h'.get? it = some o) : IterH t h' it a i := by
  cases t
  · exact Heap.IsListIter.at x k
  · exact Heap.IsTupleIter.at x k
theorem iter_new {t : Bool} {h : Heap} {it a : Addr} (e : h.get? it = some (iterO t a)) : IterH t h it a 0 := by
  cases t
  · exact ⟨_, e, rfl, rfl⟩
  · exact ⟨_, e, rfl, rfl⟩
theorem iter_obj {t : Bool} {h : Heap} {it a : Addr} {i : Nat} (x : IterH t h it a i) : ∃ o, h.get? it = some o ∧ ∀ v, o.data ≠ .cell v := by
  cases t
  · obtain ⟨o, e, _, d⟩ := x; exact ⟨o, e, fun v q => by rw [d] at q; cases q⟩
  · obtain ⟨o, e, _, d⟩ := x; exact ⟨o, e, fun v q => by rw [d] at q; cases q⟩
section
variable {X : Cx} {pins : List (Addr × Obj)} {σ : L2.St} {H : Hp} {s : Shared} {t : Bool} {a : Addr} {xs ys : List V}
theorem sq_in (I : Inv X pins σ H s) (h : Sq X.K t H a xs) : ∃ its : List Value, Vals xs its ∧ SeqH t s.heap a its.toArray ∧ xs.length ≤ sizeLine := by
  cases t
  · obtain ⟨its, r, p, z⟩ := I.list h
    exact ⟨its, r, p.isList, z⟩
  · obtain ⟨its, r, p, z⟩ := I.tuple h
    exact ⟨its, r, p, z⟩
theorem sq_inj (I : Inv X pins σ H s) (h : Sq X.K t H a xs) (k : Sq X.K t H a ys) : xs = ys := by
  cases t
  · exact I.list_inj h k
  · exact I.tuple_inj h k
theorem seq_lt {h : Heap} {items : Array Value} (x : SeqH t h a items) : a < h.objs.size := by
  cases t
  · obtain ⟨o, e, _⟩ := x; exact Heap.lt_size e
  · obtain ⟨o, e, _⟩ := x; exact Heap.lt_size e
end
/-! ### enumerate -/
def ItE (K : PySem.W.Frag) (t : Bool) (a : Addr) : It :=
  ⟨fun i H => ∃ (xs : List V) (x : V), Sq K t H a xs ∧ xs[i]? = some x, fun i H v H' => ∃ T x, v = .ref T ∧ H T = none ∧ H' = upd H T (.tup [.int (i : Nat), x]) ∧ ∀ xs, Sq K t H a xs → xs[i]? = some x, fun i H => ∃ xs : List V, Sq K t H a xs ∧ xs.length ≤ i⟩
theorem turn_enumS {P : Program} {w : World} {K : PySem.W.Frag} {elts : List Expr} {kk : Nat} {tpos : Pos} (t : Bool) (a e it : Addr) :
    Turn P w K (.Tuple elts kk tpos) (ItE K t a) [e, it] e (fun i h => (∃ old, IsEnum h e it ((i : Nat) : Int) old) ∧ IterH t h it a i ∧ e ≠ it ∧ e ≠ a ∧ a ≠ it) where
  mem := by simp
  obj := fun i h st b hb => by
    obtain ⟨⟨old, he⟩, hi, _⟩ := st
    have e' : b = e ∨ b = it := by simpa using hb
    rcases e' with z | z
    · rw [z]; exact ⟨_, he, fun v q => nomatch q⟩
    · rw [z]; exact iter_obj hi
  keep := fun i h h' st k => let ⟨⟨old, he⟩, hi, hne⟩ := st; ⟨⟨old, k e (by simp) _ he⟩, iter_at hi fun o q => k it (by simp) o q, hne⟩
  item := by
    intro X hP hw hK hc i pins s σ H E I hf st hg
    subst hP hw hK
    obtain ⟨⟨old, he⟩, hit, hne, hea, hai⟩ := st
    obtain ⟨xs, x, hq, hx⟩ := hg
    obtain ⟨its, rv, p, hz⟩ := sq_in I hq
    obtain ⟨u, hu, ru⟩ := rv.get hx
    have hel : e < s.heap.objs.size := Heap.lt_size he
    have hil : it < s.heap.objs.size := by obtain ⟨_, q, _⟩ := iter_obj hit; exact Heap.lt_size q
    have hlt : i < its.toArray.size := by
      have := lt_of_get hu
      simpa using this
    refine wpAny_pyNext_enum_itemD (draws (A := X.A.in1) t (by first | exact I.ok.hd hc | (rw [show X.A.in1.handled = X.A.handled from rfl]; exact I.ok.hd hc)) it a hai its.toArray) he ⟨hit, p⟩ hlt hne (by simp [hne, hea]) fun u' h' tk hu' ho st' hT hsz hk => ?_
    have hit' := st'.1
    have : u' = u := by
      have h1 : its[i]? = some u' := by simpa using hu'
      rw [hu] at h1
      exact (Option.some.inj h1).symm
    subst this
    refine ⟨_, rfl, wpAny_letOwnedTupleGo_enum (s := { s with heap := h', toks := tk + 1 }) ho fun h'' he' sb => ?_⟩
    have hT2 : h''.get? s.heap.objs.size = some { cls := .type "tuple", data := .seq #[.int i tk, u'] } := (sb.2 _ (Nat.ne_of_gt hel)).trans hT
    have new : ObjOk X.prog X.w (upd H s.heap.objs.size (.tup [.int (i : Nat), x])) h'' s.heap.objs.size (.tup [.int (i : Nat), x]) :=
      ⟨by show 2 ≤ sizeLine; decide, [.int i tk, u'], .cons ⟨_, rfl⟩ (.cons ru .nil), ⟨_, hT2, rfl, _, rfl⟩⟩
    have I1 : Inv X pins σ (upd H s.heap.objs.size (.tup [.int (i : Nat), x])) { s with heap := h'', toks := tk + 1 } :=
      I.turnedNew (ch := [e, it]) (fun b ob hb q => (sb.2 b (fun z => hb (by simp [z]))).trans (hk b ob (fun z => hb (by simp [z])) (fun z => hb (by simp [z])) q)) hf (Nat.le_refl _) new
    refine ⟨.ref s.heap.objs.size, _, I1, rfl, ⟨_, x, rfl, I.hok.fresh (Nat.le_refl _), rfl, fun ys hy => by rw [sq_inj I hy hq]; exact hx⟩, ⟨⟨u', ?_⟩, iter_at hit' fun o q => (sb.2 it (Ne.symm hne)).trans q, hne, hea, hai⟩, fun b hb => ?_⟩
    · have e1 : ((i + 1 : Nat) : Int) = (i : Int) + 1 := by omega
      rw [e1]; exact he'
    · have hb' : b < s.heap.objs.size := by
        have e' : b = e ∨ b = it := by simpa using hb
        rcases e' with z | z
        · rw [z]; exact hel
        · rw [z]; exact hil
      rw [upd_ne (Nat.ne_of_lt hb')]
      exact (hf b hb).1
  done := by
    intro X hP hw hK hc i pins s σ H E I hf st hg
    subst hP hw hK
    obtain ⟨⟨old, he⟩, hit, hne, hea, hai⟩ := st
    obtain ⟨xs, hq, hx⟩ := hg
    obtain ⟨its, rv, p, hz⟩ := sq_in I hq
    obtain ⟨f0, f1, f2, f3, f4, f5⟩ := hf it (by simp)
    have hl := rv.length
    cases t with
    | false => exact wpAny_pyNext_enum_end (I.ok.hd hc) he hit p (by simp; omega) fun h' eb => ⟨rfl, I.turned (t' := s.toks) (fun b o hb q => eb b o hb q) f0 f1 f3 f4 f5⟩
    | true =>
      have hT : s.TypeIs (.ref e) "enumerate" := ⟨_, he, rfl⟩
      unfold pyNext
      refine wpAny_bind (wpAny_attempt (wpAny_callSpecial?_slot (name := Str.ofString "__next__") hT F.slot_enumerate_next
        (wpAny_call_entry F.slot_enumerate_next hT F.entry_enumerate_next ?_ (F.args_enumerate_next_1 _))))
      show wpAny _ _ (field (.ref e) 2 >>= _) _ _ _
      refine wpAny_bind (wpAny_field he rfl (x := .ref it) rfl ?_)
      refine wpAny_bind (wpAny_nextOf_tuple_end (by first | exact I.ok.hd hc | (rw [show X.A.in1.handled = X.A.handled from rfl]; exact I.ok.hd hc)) hit p (by simp; omega) fun h' x he' hx' => ?_)
      obtain ⟨o, ho, hc'⟩ := hx'
      refine wpAny_bind (wpAny_isInstance (T := "StopIteration") (b := true) ⟨o, ho, hc'⟩ isSubtype_stop ?_)
      exact wpAny_pure ⟨rfl, I.turned (t' := s.toks) (fun b o hb q => he' b o hb q) f0 f1 f3 f4 f5⟩
  self := fun A i s Q E st h => let ⟨⟨_, he⟩, _⟩ := st; wpAny_pyIter_enum he h
def iEnumS (K : PySem.W.Frag) (ta : TA) : TI := fun σ H R => ta σ H fun vs H1 => ∃ t a xs, vs = [.ref a] ∧ Sq K t H1 a xs ∧ R (ItE K t a) H1
theorem pi_enumS {X : Cx} {e : Expr} {ta : TA} {p pos tpos : Pos} {elts : List Expr} {kk : Nat} (hg : Gl X "enumerate") (hm : X.mg "enumerate" = none) (ha : PA X [e] ta) (hs : starEach [e] X.env = [(false, eval e X.env)]) :
    PI X (.Tuple elts kk tpos) (.Call (.Name "enumerate" p) [e] [] pos) (iEnumS X.K ta) := by
  refine ⟨fun pins s σ H R I h => ?_⟩
  refine Call_ (ld_blt I hg hm boot_enumerate (PyProof.Rows.callWith_type1 (thn (ha.run pos pins s σ H _ I h) fun us s1 ⟨vs, H1, I1, r1, q1⟩ => ?_) hs rfl))
  obtain ⟨t, a, xs, ex, hq, q⟩ := q1
  subst ex
  cases r1 with
  | cons r rr =>
    cases rr
    cases r
    obtain ⟨its, rv, p', hz⟩ := sq_in I1 hq
    have hal := seq_lt p'
    refine call_enum_one (begins t a its.toArray) p' fun h' he hit hsz hk => wpAny_pyIter_enum he ?_
    have I2 : Inv X pins σ H1 { s1 with heap := h' } := I1.kept (t' := s1.toks) hk
    refine ⟨s1.heap.objs.size + 1, [s1.heap.objs.size + 1, s1.heap.objs.size], _, _, H1, rfl, I2, turn_enumS t a (s1.heap.objs.size + 1) s1.heap.objs.size, ⟨⟨.none, he⟩, iter_new hit, Nat.succ_ne_self _, ?_, ?_⟩, fun b hb => ?_, q⟩
    · exact Nat.ne_of_gt (Nat.lt_succ_of_lt hal)
    · exact Nat.ne_of_lt hal
    · have e' : b = s1.heap.objs.size + 1 ∨ b = s1.heap.objs.size := by simpa using hb
      have hle : s1.heap.objs.size ≤ b := by
        rcases e' with z | z
        · rw [z]; exact Nat.le_add_right _ _
        · rw [z]; exact Nat.le_refl _
      exact I1.fpOk hle (I1.hok.fresh hle)
end EV
end
section
set_option Elab.async false
set_option linter.all false
set_option maxRecDepth 100000
set_option maxHeartbeats 4000000
/-! EV, part m: zip over lists and tuples. -/
namespace EV
open PySem PySem.Spec PyProof.Rows L2

def ItZ (K : PySem.W.Frag) (t t2 : Bool) (a b : Addr) : It :=
  ⟨fun i H => ∃ (xs ys : List V) (x y : V), Sq K t H a xs ∧ Sq K t2 H b ys ∧ xs[i]? = some x ∧ ys[i]? = some y,
    fun i H v H' => ∃ T x y, v = .ref T ∧ H T = none ∧ H' = upd H T (.tup [x, y]) ∧ (∀ xs, Sq K t H a xs → xs[i]? = some x) ∧ ∀ ys, Sq K t2 H b ys → ys[i]? = some y,
    fun i H => ∃ xs ys : List V, Sq K t H a xs ∧ Sq K t2 H b ys ∧ i ≤ xs.length ∧ i ≤ ys.length ∧ (xs.length = i ∨ ys.length = i)⟩
theorem turn_zipS {P : Program} {w : World} {K : PySem.W.Frag} {elts : List Expr} {kk : Nat} {tpos : Pos} {t t2 : Bool} {a b z TI TO i1 i2 : Addr} (D : ZipSep2 z TI TO i1 i2 [i1, a] [i2, b]) (ha : a ≠ i1) (hb : b ≠ i2) :
    Turn P w K (.Tuple elts kk tpos) (ItZ K t t2 a b) [z, TI, TO, i1, i2] z (fun i h => IsZip h z TI TO .none ∧ IsTupOf2 h TI (.ref i1) (.ref i2) ∧ (∃ x y, IsTupOf2 h TO x y) ∧ IterH t h i1 a i ∧ IterH t2 h i2 b i) where
  mem := by simp
  obj := fun i h st c hc => by
    obtain ⟨hz, hTI, ⟨x, y, hTO⟩, h1, h2⟩ := st
    have e' : c = z ∨ c = TI ∨ c = TO ∨ c = i1 ∨ c = i2 := by simpa using hc
    rcases e' with q | q | q | q | q
    · rw [q]; exact ⟨_, hz, fun v q => nomatch q⟩
    · rw [q]; exact ⟨_, hTI, fun v q => nomatch q⟩
    · rw [q]; exact ⟨_, hTO, fun v q => nomatch q⟩
    · rw [q]; exact iter_obj h1
    · rw [q]; exact iter_obj h2
  keep := fun i h h' st k => by
    obtain ⟨hz, hTI, ⟨x, y, hTO⟩, h1, h2⟩ := st
    exact ⟨k z (by simp) _ hz, k TI (by simp) _ hTI, ⟨x, y, k TO (by simp) _ hTO⟩, iter_at h1 fun o q => k i1 (by simp) o q, iter_at h2 fun o q => k i2 (by simp) o q⟩
  item := by
    intro X hP hw hK hc i pins s σ H E I hf st hg
    subst hP hw hK
    obtain ⟨hz, hTI, ⟨x0, y0, hTO⟩, h1, h2⟩ := st
    obtain ⟨xs, ys, x, y, hqx, hqy, hx, hy⟩ := hg
    obtain ⟨its, rv, p, _⟩ := sq_in I hqx
    obtain ⟨its2, rv2, p2, _⟩ := sq_in I hqy
    obtain ⟨u, hu, ru⟩ := rv.get hx
    obtain ⟨u2, hu2, ru2⟩ := rv2.get hy
    have hzl : z < s.heap.objs.size := Heap.lt_size hz
    have hl1 : i < its.toArray.size := by have := lt_of_get hu; simpa using this
    have hl2 : i < its2.toArray.size := by have := lt_of_get hu2; simpa using this
    have hh : X.A.in1.handled = none := by first | exact I.ok.hd hc | (rw [show X.A.in1.handled = X.A.handled from rfl]; exact I.ok.hd hc)
    refine wpAny_pyNext_zipD2_item D (draws (A := X.A.in1) t hh i1 a ha its.toArray) (draws (A := X.A.in1) t2 hh i2 b hb its2.toArray) hz hTI hTO ⟨h1, p⟩ ⟨h2, p2⟩ hl1 hl2 fun x1 x2 h' tk q1 q2 z' TO' st1 st2 hT hsz hk => ?_
    have h1' := st1.1
    have h2' := st2.1
    have e1 : x1 = u := by
      have h1 : its[i]? = some x1 := by simpa using q1
      rw [hu] at h1
      exact (Option.some.inj h1).symm
    have e2 : x2 = u2 := by
      have h1 : its2[i]? = some x2 := by simpa using q2
      rw [hu2] at h1
      exact (Option.some.inj h1).symm
    subst e1 e2
    refine ⟨_, rfl, wpAny_letOwnedTupleGo_zip (s := { s with heap := h', toks := tk }) z' fun h'' z'' sb => ?_⟩
    have hT2 : h''.get? s.heap.objs.size = some { cls := .type "tuple", data := .seq #[x1, x2] } := (sb.2 _ (Nat.ne_of_gt hzl)).trans hT
    have new : ObjOk X.prog X.w (upd H s.heap.objs.size (.tup [x, y])) h'' s.heap.objs.size (.tup [x, y]) :=
      ⟨by show 2 ≤ sizeLine; decide, [x1, x2], .cons ru (.cons ru2 .nil), ⟨_, hT2, rfl, _, rfl⟩⟩
    have I1 : Inv X pins σ (upd H s.heap.objs.size (.tup [x, y])) { s with heap := h'', toks := tk } :=
      I.turnedNew (t' := tk) (ch := [z, TI, TO, i1, i2]) (fun c o hb q => (sb.2 c (fun q' => hb (by simp [q']))).trans (hk c o (fun q' => hb (by simp [q'])) (fun q' => hb (by simp [q'])) (fun q' => hb (by simp [q'])) (fun q' => hb (by simp [q'])) q)) hf (Nat.le_refl _) new
    have i1z : i1 ≠ z := fun q => D.zf1 (by rw [q]; simp)
    have i2z : i2 ≠ z := fun q => D.zf2 (by rw [q]; simp)
    refine ⟨.ref s.heap.objs.size, _, I1, rfl, ⟨_, x, y, rfl, I.hok.fresh (Nat.le_refl _), rfl, fun l hl => by rw [sq_inj I hl hqx]; exact hx, fun l hl => by rw [sq_inj I hl hqy]; exact hy⟩, ⟨z'', ?_, ⟨x1, x2, ?_⟩, ?_, ?_⟩, fun c hcm => ?_⟩
    · exact (sb.2 _ D.TIz).trans (hk _ _ D.TIz D.TITO D.TIi1 D.TIi2 hTI)
    · exact (sb.2 _ D.TOz).trans TO'
    · exact iter_at h1' fun o q => (sb.2 _ i1z).trans q
    · exact iter_at h2' fun o q => (sb.2 _ i2z).trans q
    · have hlt : c < s.heap.objs.size := by
        have e' : c = z ∨ c = TI ∨ c = TO ∨ c = i1 ∨ c = i2 := by simpa using hcm
        rcases e' with q | q | q | q | q
        · rw [q]; exact hzl
        · rw [q]; exact Heap.lt_size hTI
        · rw [q]; exact Heap.lt_size hTO
        · rw [q]; obtain ⟨_, e1, _⟩ := iter_obj h1; exact Heap.lt_size e1
        · rw [q]; obtain ⟨_, e2, _⟩ := iter_obj h2; exact Heap.lt_size e2
      rw [upd_ne (Nat.ne_of_lt hlt)]
      exact (hf c hcm).1
  done := by
    intro X hP hw hK hc i pins s σ H E I hf st hg
    subst hP hw hK
    obtain ⟨hz, hTI, ⟨x0, y0, hTO⟩, h1, h2⟩ := st
    obtain ⟨xs, ys, hqx, hqy, hle1, hle2, hend⟩ := hg
    obtain ⟨its, rv, p, _⟩ := sq_in I hqx
    obtain ⟨its2, rv2, p2, _⟩ := sq_in I hqy
    have l1 := rv.length
    have l2 := rv2.length
    have hh : X.A.in1.handled = none := by first | exact I.ok.hd hc | (rw [show X.A.in1.handled = X.A.handled from rfl]; exact I.ok.hd hc)
    exact wpAny_pyNext_zipD2_end D (draws (A := X.A.in1) t hh i1 a ha its.toArray) (draws (A := X.A.in1) t2 hh i2 b hb its2.toArray) hz hTI hTO ⟨h1, p⟩ ⟨h2, p2⟩ (by simp; omega) (by simp; omega) (by simp; omega) fun h' tk hk => ⟨rfl, I.turnedL (t' := tk) (ch := [z, TI, TO, i1, i2]) (fun c o hb q =>
      hk c o (fun q' => hb (by simp [q'])) (fun q' => hb (by simp [q'])) (fun q' => hb (by simp [q'])) (fun q' => hb (by simp [q'])) q) hf⟩
  self := fun A i s Q E st h => wpAny_pyIter_zip st.1 h
def iZipS (K : PySem.W.Frag) (ta : TA) : TI := fun σ H R => ta σ H fun vs H1 => ∃ t t2 a b xs ys, vs = [.ref a, .ref b] ∧ Sq K t H1 a xs ∧ Sq K t2 H1 b ys ∧ R (ItZ K t t2 a b) H1
theorem pi_zipS {X : Cx} {e e2 : Expr} {ta : TA} {p pos tpos : Pos} {elts : List Expr} {kk : Nat} (hg : Gl X "zip") (hm : X.mg "zip" = none) (ha : PA X [e, e2] ta)
    (hs : starEach [e, e2] X.env = (false, eval e X.env) :: starEach [e2] X.env) (hpl : (backTo pos (starEach [e2] X.env)).any (·.1) = false) :
    PI X (.Tuple elts kk tpos) (.Call (.Name "zip" p) [e, e2] [] pos) (iZipS X.K ta) := by
  refine ⟨fun pins s σ H R I h => ?_⟩
  refine Call_ (ld_blt I hg hm PyProof.Rows.boot_zip (PyProof.Rows.callWith_type1 (thn (ha.run pos pins s σ H _ I h) fun us s1 ⟨vs, H1, I1, r1, q1⟩ => ?_) hs hpl))
  obtain ⟨t, t2, a, b, xs, ys, ex, hqx, hqy, q⟩ := q1
  subst ex
  cases r1 with
  | cons r rr =>
    cases rr with
    | cons r' rr =>
      cases rr
      cases r
      cases r'
      obtain ⟨its, rv, p1, _⟩ := sq_in I1 hqx
      obtain ⟨its2, rv2, p2, _⟩ := sq_in I1 hqy
      have al := seq_lt p1
      have bl := seq_lt p2
      have fresh5 : ∀ c, c ∈ [s1.heap.objs.size + 4, s1.heap.objs.size + 2, s1.heap.objs.size + 3, s1.heap.objs.size, s1.heap.objs.size + 1] → FpOk X pins H1 c := fun c hcm => by
        have e' : c = s1.heap.objs.size + 4 ∨ c = s1.heap.objs.size + 2 ∨ c = s1.heap.objs.size + 3 ∨ c = s1.heap.objs.size ∨ c = s1.heap.objs.size + 1 := by simpa using hcm
        have hle : s1.heap.objs.size ≤ c := by
          rcases e' with z | z | z | z | z
          · rw [z]; exact Nat.le_add_right _ _
          · rw [z]; exact Nat.le_add_right _ _
          · rw [z]; exact Nat.le_add_right _ _
          · rw [z]; exact Nat.le_refl _
          · rw [z]; exact Nat.le_add_right _ _
        exact I1.fpOk hle (I1.hok.fresh hle)
      refine zip_begins2 (begins t a its.toArray) (begins t2 b its2.toArray) p1 p2 fun h' hz hTI hTO g1 g2 hsz hk => wpAny_pyIter_zip hz ?_
      have I2 : Inv X pins σ H1 { s1 with heap := h' } := I1.kept (t' := s1.toks) hk
      have D : ZipSep2 (s1.heap.objs.size + 4) (s1.heap.objs.size + 2) (s1.heap.objs.size + 3) s1.heap.objs.size (s1.heap.objs.size + 1) [s1.heap.objs.size, a] [s1.heap.objs.size + 1, b] :=
        zip_sep2 (fp1 := [a]) (fp2 := [b]) (fun c hc => by simp at hc; subst hc; exact al) (fun c hc => by simp at hc; subst hc; exact bl)
      exact ⟨s1.heap.objs.size + 4, [s1.heap.objs.size + 4, s1.heap.objs.size + 2, s1.heap.objs.size + 3, s1.heap.objs.size, s1.heap.objs.size + 1], _, _, H1, rfl, I2, turn_zipS D (Nat.ne_of_lt al) (Nat.ne_of_lt (Nat.lt_succ_of_lt bl)), ⟨hz, hTI, ⟨_, _, hTO⟩, iter_new g1, iter_new g2⟩, fresh5, q⟩
end EV
end
section
set_option Elab.async false
set_option linter.all false
set_option maxRecDepth 100000
set_option maxHeartbeats 4000000
/-! EV, part n: what loops walk over; targets. -/
namespace EV
open L2 (V HO Hp upd upd_same upd_ne SqT SqL Rd Key Cx Ends TE TT TA TS TG TI PE PT PA PS PSs PG PI VK XK WX PC OpR R2 CallR FnOk Room Gl Binds PassesAt CXT It Walk Itl Itt Itr)
open PySem PySem.Spec

variable {K : PySem.W.Frag} {Z : Zt} {w w1 : Wl} {H H1 : Hp} {S S1 : Store} {r : Env} {σ : L2.St} {α β : Type} {Wx : Value → Option Addr → Hp → Prop}
variable {call : Nat → List D → M D} {gl : List D} {X : Cx} {W : WX} {Q : VK} {CX : CXT}
variable {e a b c o : Expr} {es : List Expr} {pe pa pb pc po : E} {pes : Es} {pos p p2 p3 apos : Pos}

/-- the iterator J gives the trees xs, in every later world -/
def Gives (K : PySem.W.Frag) (Z : Zt) (xs : List D) (w1 : Wl) (H1 : Hp) (J : It) : Prop :=
  ∃ (Gd : Hp → Prop) (Y : Nat → Hp → V → Hp → Prop), Walk J xs.length Gd Y ∧ (∀ w2 H2, Ext K w1 H1 w2 H2 → Gd H2) ∧
    ∀ w2 H2 S2 i x v H', Ext K w1 H1 w2 H2 → SRel K Z w2 H2 S2 → xs[i]? = some x → Y i H2 v H' → Post K w2 H2 w2 H' ∧ SRel K Z w2 H' S2 ∧ Rep K Z w2 H' x v
section
variable (Z) (call : Nat → List D → M D) (gl : List D)
def tI (X : Cx) (W : WX) (i : I) : TI := fun σ H R => ∃ w S r, Rel X.K Z w H S r σ ∧ Aft X.K Z (fun c d H => W c d σ H) w S H (evalI call gl i r) fun xs w' _ H' => ∀ J, Gives X.K Z xs w' H' J → R J H'
end
theorem imp_pi {tg i : Expr} {t t' : TI} (h : PI X tg i t) (f : ∀ σ H Q, t' σ H Q → t σ H Q) : PI X tg i t' := ⟨fun pins s σ H Q I z => h.run pins s σ H Q I (f σ H Q z)⟩
/-- a list or a tuple -/
def iSeq (K : PySem.W.Frag) (tl : TE) : TI := fun σ H R => tl σ H fun x H1 => ∃ a xs, x = .ref a ∧ ((SqL K H1 a xs ∧ R (Itl K a) H1) ∨ (SqT K H1 a xs ∧ R (Itt K a) H1))
theorem pi_seq {tg l : Expr} {tl : TE} (hl : PE X l tl) : PI X tg l (iSeq X.K tl) := by
  refine ⟨fun pins s σ H R I h => ?_⟩
  refine L2.thn (hl.run pins s σ H _ I h) fun v s1 ⟨x, H1, I1, r1, q1⟩ => ?_
  obtain ⟨a, xs, e, q⟩ := q1
  subst e
  cases r1
  have hf : ∀ b ∈ [s1.heap.objs.size], L2.FpOk X pins H1 b := fun b hb => by
    have e : b = s1.heap.objs.size := by simpa using hb
    subst e
    exact I1.fpOk (Nat.le_refl _) (I1.hok.fresh (Nat.le_refl _))
  rcases q with ⟨hq, q⟩ | ⟨hq, q⟩
  · obtain ⟨its, rv, p, hz⟩ := I1.list hq
    refine wpAny_pyIter_list p.isList ?_
    exact ⟨s1.heap.objs.size, [s1.heap.objs.size], _, _, H1, rfl, I1.kept (t' := s1.toks) fun b o e => Heap.get?_push_of_some _ e, L2.turn_list a _, ⟨_, Heap.get?_push_size _ rfl, rfl, rfl⟩, hf, q⟩
  · obtain ⟨its, rv, p, hz⟩ := I1.tuple hq
    refine wpAny_pyIter_tuple (show s1.heap.IsTuple a its.toArray from p) ?_
    exact ⟨s1.heap.objs.size, [s1.heap.objs.size], _, _, H1, rfl, I1.kept (t' := s1.toks) fun b o e => Heap.get?_push_of_some _ e, L2.turn_tuple a _, ⟨_, Heap.get?_push_size _ rfl, rfl, rfl⟩, hf, q⟩
/-- a sequence that nobody will write again: what it is stays -/
theorem seq_stays {d : D} {v : V} {xs : List D} (hd : Rep K Z w H d v) (e : ∀ S, seqOf d S = .ok xs S) :
    ∃ (a : Addr) (us : List V) (t : Bool), v = .ref a ∧ Reps K Z w H xs us ∧ ∀ w2 H2, Ext K w H w2 H2 → Sq K t H2 a us := by
  cases d with
  | tup ys =>
    have := e []
    cases this
    rw [Rep] at hd
    obtain ⟨a, us, e1, q, r⟩ := hd
    exact ⟨a, us, true, e1, r, fun w2 H2 x => x.tup a us q⟩
  | fl ys =>
    have := e []
    cases this
    rw [Rep] at hd
    obtain ⟨a, us, e1, o, q, r⟩ := hd
    exact ⟨a, us, false, e1, r, fun w2 H2 x => L2.SqL.of (x.keep a _ q o).1⟩
  | sl ys =>
    have := e []
    cases this
    rw [Rep] at hd
    obtain ⟨a, us, e1, q, r⟩ := hd
    refine ⟨a, us, false, e1, r, fun w2 H2 x => ?_⟩
    rcases q with ⟨o, q | ⟨b, q⟩⟩ | q
    · exact .inl (.inl (x.keep a _ q o).1)
    · exact .inl (.inr ⟨b, (x.keep a _ q o).1⟩)
    · exact q H2
  | _ => cases e []
theorem gives_seq {xs : List D} {us : List V} {a : Addr} {t : Bool} (hr : Reps K Z w H xs us) (hs : ∀ w2 H2, Ext K w H w2 H2 → Sq K t H2 a us) : Gives K Z xs w H (match t with | true => Itt K a | false => Itl K a) := by
  have hl := Reps.len hr
  have hy : ∀ w2 H2 S2 i x v H', Ext K w H w2 H2 → SRel K Z w2 H2 S2 → xs[i]? = some x → L2.YAt us i H2 v H' → Post K w2 H2 w2 H' ∧ SRel K Z w2 H' S2 ∧ Rep K Z w2 H' x v := by
    rintro w2 H2 S2 i x v H' ex s hx ⟨rfl, hv⟩
    obtain ⟨u, hu, hr2⟩ := Reps.get hr hx
    rw [hv] at hu
    cases hu
    exact ⟨Post.rfl, s, Rep.mono ex hr2⟩
  cases t with
  | true => exact ⟨_, _, by rw [hl]; exact L2.walk_tup (xs := us), fun w2 H2 x => hs w2 H2 x, hy⟩
  | false => exact ⟨_, _, by rw [hl]; exact L2.walk_list (xs := us), fun w2 H2 x => hs w2 H2 x, hy⟩
theorem sq_or {t : Bool} {us : List V} {a : Addr} (h : Sq K t H a us) : SqL K H a us ∨ SqT K H a us := by
  cases t
  · exact .inl h
  · exact .inr h
/-- the items behind a value that is walked -/
theorem seq_ret {d : D} {R : List D → Wl → Store → Hp → Prop} (s : SRel K Z w H S) (h : Aft K Z Wx w S H (seqOf d) R) : ∃ xs, (∀ S, seqOf d S = .ok xs S) ∧ R xs w S H := by
  cases d with
  | tup xs => exact ⟨xs, fun _ => rfl, h.ret s⟩
  | fl xs => exact ⟨xs, fun _ => rfl, h.ret s⟩
  | sl xs => exact ⟨xs, fun _ => rfl, h.ret s⟩
  | _ => exact h.no.elim
theorem i_e {tg : Expr} (ha : PE X a (tE Z call gl X W pa)) : PI X tg a (tI Z call gl X W (.e pa)) :=
  imp_pi (pi_seq ha) fun σ H R ⟨w, S, r, rel, h⟩ => by
    rw [evalI] at h
    refine tE_mono (tE_step rel h) fun v H1 ⟨x, w1, S1, r1, hx, p1, h1⟩ => ?_
    obtain ⟨xs, e, q⟩ := seq_ret r1.s h1
    obtain ⟨a, us, t, rfl, hr, hs⟩ := seq_stays hx e
    refine ⟨a, us, rfl, ?_⟩
    have hg := q _ (gives_seq hr hs)
    have h0 := hs w1 H1 Ext.rfl
    cases t with
    | true => exact .inr ⟨h0, hg⟩
    | false => exact .inl ⟨h0, hg⟩
theorem count_get (lo : Int) : ∀ (n i : Nat), (count lo 1 n).length = n ∧ ∀ x, (count lo 1 n)[i]? = some x → x = .int (lo + i) := by
  intro n
  induction n generalizing lo with
  | zero => exact fun i => ⟨rfl, fun x h => by simp [count] at h⟩
  | succ n ih =>
    intro i
    obtain ⟨h1, _⟩ := ih (lo + 1) 0
    refine ⟨by rw [count, List.length_cons, h1], fun x h => ?_⟩
    rw [count] at h
    cases i with
    | zero => simp at h; rw [← h]; simp
    | succ i =>
      have := (ih (lo + 1) i).2 x (by simpa using h)
      rw [this]
      congr 1
      omega
theorem gives_range {lo : Int} {n : Nat} : Gives K Z (count lo 1 n) w H (Itr lo n) := by
  refine ⟨_, _, by rw [(count_get lo n 0).1]; exact L2.walk_range, fun _ _ _ => trivial, ?_⟩
  rintro w2 H2 S2 i x v H' ex s hx ⟨rfl, rfl⟩
  exact ⟨Post.rfl, s, by rw [(count_get lo n i).2 x hx, Rep]⟩
theorem i_rng {tg : Expr} (hg : Gl X "range") (hm : X.mg "range" = none) (hs : noStar a = true) (ha : PE X a (tE Z call gl X W pa)) : PI X tg (.Call (.Name "range" p) [a] [] pos) (tI Z call gl X W (.rng pa)) :=
  imp_pi (L2.pi_range1 hg hm (L2.pa_cons ha L2.pa_nil (star_cons hs)) (star_cons hs)) fun σ H R ⟨w, S, r, rel, h⟩ => by
    rw [evalI] at h
    refine tE_mono (tE_step rel h) fun v H1 ⟨x, w1, S1, r1, hx, p1, h1⟩ => ?_
    obtain ⟨i, _, rfl, q⟩ := intOf_ok r1.s hx h1.seq
    split at q
    · rename_i hz
      unfold line at hz
      exact ⟨i, rfl, by omega, by omega, q.ret r1.s _ gives_range⟩
    · exact q.no.elim
theorem i_rng2 {tg : Expr} (hg : Gl X "range") (hm : X.mg "range" = none) (hs : noStar a = true) (hs2 : noStar b = true) (ha : PE X a (tE Z call gl X W pa)) (hb : PE X b (tE Z call gl X W pb)) : PI X tg (.Call (.Name "range" p) [a, b] [] pos) (tI Z call gl X W (.rng2 pa pb)) :=
  imp_pi (L2.pi_range2 hg hm (L2.pa_cons ha (L2.pa_cons hb L2.pa_nil (star_cons hs2)) (star_cons hs)) (by rw [star_cons hs, star_cons hs2]; rfl) (star_cons hs2)) fun σ H R ⟨w, S, r, rel, h⟩ => by
    rw [evalI] at h
    refine tE_mono (tE_step rel h) fun v H1 ⟨x, w1, S1, r1, hx, p1, h1⟩ => ?_
    refine tE_mono (tE_step r1 h1) fun u H2 ⟨y, w2, S2, r2, hy, p2, h2⟩ => ?_
    obtain ⟨i, _, rfl, q⟩ := intOf_ok r2.s (Rep.mono p2 hx) h2.seq
    obtain ⟨j, _, rfl, q⟩ := intOf_ok r2.s hy q.seq
    split at q
    · rename_i hz
      unfold line at hz
      exact ⟨i, j, rfl, by omega, q.ret r2.s _ gives_range⟩
    · exact q.no.elim
theorem numbered_get : ∀ (xs : List D) (k : Int) (i : Nat), (numbered k xs).length = xs.length ∧ ∀ z, (numbered k xs)[i]? = some z → ∃ x, xs[i]? = some x ∧ z = .tup [.int (k + i), x]
  | [], k, i => ⟨rfl, fun z h => by simp [numbered] at h⟩
  | x :: xs, k, i => by
    obtain ⟨h1, _⟩ := numbered_get xs (k + 1) 0
    refine ⟨by rw [numbered, List.length_cons, h1, List.length_cons], fun z h => ?_⟩
    rw [numbered] at h
    cases i with
    | zero => simp at h; exact ⟨x, rfl, by rw [← h]; simp⟩
    | succ i =>
      obtain ⟨y, h2, h3⟩ := (numbered_get xs (k + 1) i).2 z (by simpa using h)
      refine ⟨y, by simpa using h2, ?_⟩
      rw [h3]
      congr 3
      omega
/-- a new pair -/
theorem pair_new {x y : D} {u v : V} {T : Addr} (s : SRel K Z w H S) (hT : H T = none) (h1 : Rep K Z w H x u) (h2 : Rep K Z w H y v) :
    Post K w H w (upd H T (.tup [u, v])) ∧ SRel K Z w (upd H T (.tup [u, v])) S ∧ Rep K Z w (upd H T (.tup [u, v])) (.tup [x, y]) (.ref T) := by
  have ps : Post K w H w (upd H T (.tup [u, v])) := Post.new s hT
  refine ⟨ps, s.new hT, ?_⟩
  rw [Rep]
  exact ⟨T, [u, v], rfl, .inl (.inl upd_same), Reps.mono ps.toExt (Reps.cons h1 (Reps.one h2))⟩
theorem gives_enum {xs : List D} {us : List V} {a : Addr} {t : Bool} (hr : Reps K Z w H xs us) (hs : ∀ w2 H2, Ext K w H w2 H2 → Sq K t H2 a us) : Gives K Z (numbered 0 xs) w H (ItE K t a) := by
  have hl := Reps.len hr
  refine ⟨fun H2 => Sq K t H2 a us, fun i H2 v H' => ∃ T x, v = .ref T ∧ H2 T = none ∧ H' = upd H2 T (.tup [.int (i : Nat), x]) ∧ us[i]? = some x, ?_, fun w2 H2 x => hs w2 H2 x, ?_⟩
  · rw [(numbered_get xs 0 0).1, hl]
    refine ⟨fun i H2 hi q => ⟨us, us[i], q, List.getElem?_eq_getElem hi⟩, fun H2 q => ⟨us, q, Nat.le_refl _⟩, fun i H2 v H' hi q y => ?_⟩
    obtain ⟨T, x, h1, h2, h3, h4⟩ := y
    exact ⟨T, x, h1, h2, h3, h4 us q⟩
  · rintro w2 H2 S2 i z v H' ex s hz ⟨T, u, rfl, hT, rfl, hu⟩
    obtain ⟨x, h1, rfl⟩ := (numbered_get xs 0 i).2 z hz
    obtain ⟨u', h2, h3⟩ := Reps.get hr h1
    rw [hu] at h2
    cases h2
    exact pair_new s hT (by rw [Rep]; simp) (Rep.mono ex h3)
theorem i_enum {elts : List Expr} {kk : Nat} {tpos : Pos} (hg : Gl X "enumerate") (hm : X.mg "enumerate" = none) (hs : noStar a = true) (ha : PE X a (tE Z call gl X W pa)) : PI X (.Tuple elts kk tpos) (.Call (.Name "enumerate" p) [a] [] pos) (tI Z call gl X W (.enum pa)) :=
  imp_pi (pi_enumS hg hm (L2.pa_cons ha L2.pa_nil (star_cons hs)) (star_cons hs)) fun σ H R ⟨w, S, r, rel, h⟩ => by
    rw [evalI] at h
    refine tE_mono (tE_step rel h) fun v H1 ⟨x, w1, S1, r1, hx, p1, h1⟩ => ?_
    obtain ⟨xs, e, q⟩ := seq_ret r1.s h1.seq
    obtain ⟨a, us, t, rfl, hr, hs⟩ := seq_stays hx e
    exact ⟨t, a, us, rfl, hs w1 H1 Ext.rfl, q.ret r1.s _ (gives_enum hr hs)⟩
theorem pairs_get : ∀ (xs ys : List D) (i : Nat), (pairs xs ys).length = min xs.length ys.length ∧ ∀ z, (pairs xs ys)[i]? = some z → ∃ x y, xs[i]? = some x ∧ ys[i]? = some y ∧ z = .tup [x, y]
  | [], ys, i => ⟨by simp [pairs], fun z h => by simp [pairs] at h⟩
  | _ :: _, [], i => ⟨by simp [pairs], fun z h => by simp [pairs] at h⟩
  | x :: xs, y :: ys, i => by
    obtain ⟨h1, _⟩ := pairs_get xs ys 0
    refine ⟨by rw [pairs, List.length_cons, h1, List.length_cons, List.length_cons]; omega, fun z h => ?_⟩
    rw [pairs] at h
    cases i with
    | zero => simp at h; exact ⟨x, y, rfl, rfl, h.symm⟩
    | succ i =>
      obtain ⟨a, b, h2, h3, h4⟩ := (pairs_get xs ys i).2 z (by simpa using h)
      exact ⟨a, b, by simpa using h2, by simpa using h3, h4⟩
theorem gives_zip {xs ys : List D} {us ws : List V} {a b : Addr} {t t2 : Bool} (hr : Reps K Z w H xs us) (hs : ∀ w2 H2, Ext K w H w2 H2 → Sq K t H2 a us) (hr2 : Reps K Z w H ys ws) (hs2 : ∀ w2 H2, Ext K w H w2 H2 → Sq K t2 H2 b ws) :
    Gives K Z (pairs xs ys) w H (ItZ K t t2 a b) := by
  have hl := Reps.len hr
  have hl2 := Reps.len hr2
  refine ⟨fun H2 => Sq K t H2 a us ∧ Sq K t2 H2 b ws, fun i H2 v H' => ∃ T x y, v = .ref T ∧ H2 T = none ∧ H' = upd H2 T (.tup [x, y]) ∧ us[i]? = some x ∧ ws[i]? = some y, ?_, fun w2 H2 x => ⟨hs w2 H2 x, hs2 w2 H2 x⟩, ?_⟩
  · rw [(pairs_get xs ys 0).1, hl, hl2]
    refine ⟨fun i H2 hi q => ?_, fun H2 q => ⟨us, ws, q.1, q.2, by omega, by omega, by omega⟩, fun i H2 v H' hi q y => ?_⟩
    · have h1 : i < us.length := by omega
      have h2 : i < ws.length := by omega
      exact ⟨us, ws, us[i], ws[i], q.1, q.2, List.getElem?_eq_getElem h1, List.getElem?_eq_getElem h2⟩
    · obtain ⟨T, x, y, h1, h2, h3, h4, h5⟩ := y
      exact ⟨T, x, y, h1, h2, h3, h4 us q.1, h5 ws q.2⟩
  · rintro w2 H2 S2 i z v H' ex s hz ⟨T, u, u2, rfl, hT, rfl, hu, hu2⟩
    obtain ⟨x, y, h1, h2, rfl⟩ := (pairs_get xs ys i).2 z hz
    obtain ⟨u', g1, g2⟩ := Reps.get hr h1
    rw [hu] at g1
    cases g1
    obtain ⟨u', g3, g4⟩ := Reps.get hr2 h2
    rw [hu2] at g3
    cases g3
    exact pair_new s hT (Rep.mono ex g2) (Rep.mono ex g4)
theorem i_zip {elts : List Expr} {kk : Nat} {tpos : Pos} (hg : Gl X "zip") (hm : X.mg "zip" = none) (hs : noStar a = true) (hs2 : noStar b = true) (ha : PE X a (tE Z call gl X W pa)) (hb : PE X b (tE Z call gl X W pb)) :
    PI X (.Tuple elts kk tpos) (.Call (.Name "zip" p) [a, b] [] pos) (tI Z call gl X W (.zip pa pb)) :=
  imp_pi (pi_zipS hg hm (L2.pa_cons ha (L2.pa_cons hb L2.pa_nil (star_cons hs2)) (star_cons hs)) (star_cons hs) (by rw [star_cons hs2]; rfl)) fun σ H R ⟨w, S, r, rel, h⟩ => by
    rw [evalI] at h
    refine tE_mono (tE_step rel h) fun v H1 ⟨x, w1, S1, r1, hx, p1, h1⟩ => ?_
    refine tE_mono (tE_step r1 h1) fun u H2 ⟨y, w2, S2, r2, hy, p2, h2⟩ => ?_
    obtain ⟨xs, e, q⟩ := seq_ret r2.s h2.seq
    obtain ⟨a, us, t, rfl, hr, hs⟩ := seq_stays (Rep.mono p2 hx) e
    obtain ⟨ys, e2, q⟩ := seq_ret r2.s q.seq
    obtain ⟨b, ws, t2, rfl, hr2, hs2⟩ := seq_stays hy e2
    exact ⟨t, t2, a, b, us, ws, rfl, hs w2 H2 Ext.rfl, hs2 w2 H2 Ext.rfl, q.ret r2.s _ (gives_zip hr hs hr2 hs2)⟩
end EV
end
section
set_option Elab.async false
set_option linter.all false
set_option maxRecDepth 100000
set_option maxHeartbeats 4000000
/-! EV, part o: targets, comprehensions. -/
namespace EV
open L2 (V HO Hp upd upd_same upd_ne SqT SqL Rd Key Cx Ends TE TT TA TS TG TGs TI PE PT PA PS PSs PG PGs PI VK XK WX PC OpR R2 CallR FnOk Room Gl Binds PassesAt CXT It Walk Itl Itt Itr Loc PTs)
open PySem PySem.Spec

variable {K : PySem.W.Frag} {Z : Zt} {w w1 : Wl} {H H1 : Hp} {S S1 : Store} {r : Env} {σ : L2.St} {α β : Type} {Wx : Value → Option Addr → Hp → Prop}
variable {call : Nat → List D → M D} {gl : List D} {X : Cx} {W : WX} {Q : VK} {CX : CXT}
variable {e a b c o : Expr} {es : List Expr} {pe pa pb pc po : E} {pes : Es} {pos p p2 p3 apos : Pos}

/-! ### targets -/
def T.slots : T → List Nat
  | .name i => [i]
  | .pair a b => a.slots ++ b.slots
  | .tri a b c => a.slots ++ b.slots ++ c.slots
  | .four a b c d => a.slots ++ b.slots ++ c.slots ++ d.slots
/-- alike but for these slots -/
def But (is : List Nat) (σ σ' : L2.St) : Prop := σ'.length = σ.length ∧ ∀ i, i ∉ is → σ'[i]? = σ[i]?
theorem But.rfl {is : List Nat} : But is σ σ := ⟨Eq.refl _, fun _ _ => Eq.refl _⟩
theorem But.trans {is js : List Nat} {σ1 σ2 : L2.St} (h : But is σ σ1) (k : But js σ1 σ2) : But (is ++ js) σ σ2 :=
  ⟨k.1.trans h.1, fun i hi => by rw [List.mem_append, not_or] at hi; exact (k.2 i hi.2).trans (h.2 i hi.1)⟩
def tG (K : PySem.W.Frag) (Z : Zt) (t : T) : TG := fun v σ H Q => ∃ w r d r', ERel K Z w H r σ ∧ Rep K Z w H d v ∧ t.bind d r = some r' ∧ ∀ σ', ERel K Z w H r' σ' → But t.slots σ σ' → Q σ' H
theorem imp_pg {tg : Expr} {t t' : TG} (h : PG X tg t) (f : ∀ v σ H Q, t' v σ H Q → t v σ H Q) : PG X tg t' := ⟨fun pins s σ H v u Q I rv z => h.run pins s σ H v u Q I rv (f v σ H Q z)⟩
theorem or_pg {tg : Expr} {t t' : TG} (h : PG X tg t) (k : PG X tg t') : PG X tg (fun v σ H Q => t v σ H Q ∨ t' v σ H Q) := ⟨fun pins s σ H v u Q I rv z => z.elim (h.run pins s σ H v u Q I rv) (k.run pins s σ H v u Q I rv)⟩
theorem erel_set {i : Nat} {d : D} {v : V} (h : ERel K Z w H r σ) (hd : Rep K Z w H d v) : ERel K Z w H (r.set i (some d)) (σ.set i (some v)) := by
  refine ⟨by rw [List.length_set, List.length_set]; exact h.len, fun j x e => ?_⟩
  by_cases hj : i = j
  · subst hj
    by_cases hi : i < r.length
    · rw [List.getElem?_set_self hi] at e
      cases e
      exact ⟨v, List.getElem?_set_self (by rw [← h.len]; exact hi), hd⟩
    · rw [List.getElem?_eq_none (by simpa using hi)] at e; cases e
  · rw [List.getElem?_set_ne hj] at e ⊢
    exact h.at_ j x e
theorem g_name {i : Nat} {x : Str} (hN : X.N.Nodup) (hi : X.N[i]? = some x) (hx : Loc X.env.scope x) (hf : X.fn x = true ∨ X.env.scope.names.lookup x = some .local) : PG X (.Name x pos) (tG X.K Z (.name i)) :=
  imp_pg (L2.pg_name hN hi hx hf) fun v σ H Q ⟨w, r, d, r', h1, h2, h3, h4⟩ => by
    rw [T.bind] at h3
    split at h3
    · cases h3
      exact h4 _ (erel_set h1 h2) ⟨List.length_set .., fun j hj => List.getElem?_set_ne (by simp [T.slots] at hj; exact Ne.symm hj)⟩
    · cases h3
theorem asg_cons {e : Expr} {es : List Expr} {env : PySem.Env} (h : noStar e = true) : (assignEach (e :: es) env).map (·.2) = assign e env :: (assignEach es env).map (·.2) := by
  cases e <;> first | rfl | cases h
theorem asg_len {env : PySem.Env} : ∀ {es : List Expr}, es.all noStar = true → (assignEach es env).length = es.length ∧ (assignEach es env).findIdx? (·.1) = none
  | [], _ => ⟨rfl, rfl⟩
  | e :: es, h => by
    rw [List.all_cons, Bool.and_eq_true] at h
    obtain ⟨h1, h2⟩ := asg_len (env := env) h.2
    have : assignEach (e :: es) env = (false, assign e env) :: assignEach es env := by
      cases e <;> first | rfl | exact absurd h.1 Bool.false_ne_true
    rw [this]
    refine ⟨by rw [List.length_cons, h1, List.length_cons], ?_⟩
    rw [List.findIdx?_cons]
    simp [h2]
theorem g_pair {e1 e2 : Expr} {k : Nat} {a b : T} (hc : X.calm = true) (n1 : noStar e1 = true) (n2 : noStar e2 = true) (ha : PG X e1 (tG X.K Z a)) (hb : PG X e2 (tG X.K Z b)) : PG X (.Tuple [e1, e2] k pos) (tG X.K Z (.pair a b)) := by
  have hs : [e1, e2].all noStar = true := by rw [List.all_cons, List.all_cons, n1, n2]; rfl
  have ps := L2.pgs_cons ha (L2.pgs_cons hb L2.pgs_nil (asg_cons n2)) (asg_cons n1)
  obtain ⟨l1, l2⟩ := asg_len (env := X.env) hs
  refine imp_pg (or_pg (L2.pg_tup hc ps l1 l2) (L2.pg_unl hc ps l1 l2)) fun v σ H Q ⟨w, r, d, r', h1, h2, h3, h4⟩ => ?_
  have key : ∀ {x y : D} {us : List V}, Reps X.K Z w H [x, y] us → ((a.bind x r).bind fun r => b.bind y r) = some r' → us.length = [e1, e2].length ∧ L2.gCons (tG X.K Z a) (L2.gCons (tG X.K Z b) L2.gNil) us σ H Q := by
    intro x y us hr hb
    obtain ⟨v1, v2, rfl, q1, q2⟩ := reps2 hr
    refine ⟨rfl, ?_⟩
    obtain ⟨r1, b1, b2⟩ := Option.bind_eq_some_iff.mp hb
    exact ⟨v1, [v2], rfl, w, r, x, r1, h1, q1, b1, fun σ1 k1 k2 => ⟨v2, [], rfl, w, r1, y, r', k1, q2, b2, fun σ2 k3 k4 => ⟨rfl, h4 σ2 k3 (k2.trans k4)⟩⟩⟩
  cases d with
  | tup xs =>
    match xs, h2, h3 with
    | [x, y], h2, h3 =>
      rw [Rep] at h2
      obtain ⟨ad, us, rfl, q1, q2⟩ := h2
      obtain ⟨k1, k2⟩ := key q2 h3
      exact .inl ⟨ad, us, rfl, q1, k1, k2⟩
    | [], _, h3 => cases h3
    | [_], _, h3 => cases h3
    | _ :: _ :: _ :: _, _, h3 => cases h3
  | fl xs =>
    match xs, h2, h3 with
    | [x, y], h2, h3 =>
      rw [Rep] at h2
      obtain ⟨ad, us, rfl, _, q1, q2⟩ := h2
      obtain ⟨k1, k2⟩ := key q2 h3
      exact .inr ⟨ad, us, rfl, L2.SqL.of q1, k1, k2⟩
    | [], _, h3 => cases h3
    | [_], _, h3 => cases h3
    | _ :: _ :: _ :: _, _, h3 => cases h3
  | _ => cases h3
theorem reps3 {d e f : D} {vs : List V} (h : Reps K Z w H [d, e, f] vs) : ∃ v u z, vs = [v, u, z] ∧ Rep K Z w H d v ∧ Rep K Z w H e u ∧ Rep K Z w H f z := by
  rw [Reps] at h
  obtain ⟨v, r, rfl, h1, h2⟩ := h
  obtain ⟨u, z, rfl, h3, h4⟩ := reps2 h2
  exact ⟨v, u, z, rfl, h1, h3, h4⟩
theorem g_tri {e1 e2 e3 : Expr} {k : Nat} {a b c : T} (hc : X.calm = true) (n1 : noStar e1 = true) (n2 : noStar e2 = true) (n3 : noStar e3 = true) (ha : PG X e1 (tG X.K Z a)) (hb : PG X e2 (tG X.K Z b)) (hcc : PG X e3 (tG X.K Z c)) :
    PG X (.Tuple [e1, e2, e3] k pos) (tG X.K Z (.tri a b c)) := by
  have hs : [e1, e2, e3].all noStar = true := by rw [List.all_cons, List.all_cons, List.all_cons, n1, n2, n3]; rfl
  have ps := L2.pgs_cons ha (L2.pgs_cons hb (L2.pgs_cons hcc L2.pgs_nil (asg_cons n3)) (asg_cons n2)) (asg_cons n1)
  obtain ⟨l1, l2⟩ := asg_len (env := X.env) hs
  refine imp_pg (or_pg (L2.pg_tup hc ps l1 l2) (L2.pg_unl hc ps l1 l2)) fun v σ H Q ⟨w, r, d, r', h1, h2, h3, h4⟩ => ?_
  have key : ∀ {x y z : D} {us : List V}, Reps X.K Z w H [x, y, z] us → (((a.bind x r).bind fun r => b.bind y r).bind fun r => c.bind z r) = some r' → us.length = [e1, e2, e3].length ∧ L2.gCons (tG X.K Z a) (L2.gCons (tG X.K Z b) (L2.gCons (tG X.K Z c) L2.gNil)) us σ H Q := by
    intro x y z us hr hb
    obtain ⟨v1, v2, v3, rfl, q1, q2, q3⟩ := reps3 hr
    refine ⟨rfl, ?_⟩
    obtain ⟨r2, b1, b3⟩ := Option.bind_eq_some_iff.mp hb
    obtain ⟨r1, b1, b2⟩ := Option.bind_eq_some_iff.mp b1
    exact ⟨v1, [v2, v3], rfl, w, r, x, r1, h1, q1, b1, fun σ1 k1 k2 => ⟨v2, [v3], rfl, w, r1, y, r2, k1, q2, b2, fun σ2 k3 k4 => ⟨v3, [], rfl, w, r2, z, r', k3, q3, b3, fun σ3 k5 k6 => ⟨rfl, h4 σ3 k5 ((k2.trans k4).trans k6)⟩⟩⟩⟩
  cases d with
  | tup xs =>
    match xs, h2, h3 with
    | [x, y, z], h2, h3 =>
      rw [Rep] at h2
      obtain ⟨ad, us, rfl, q1, q2⟩ := h2
      obtain ⟨k1, k2⟩ := key q2 h3
      exact .inl ⟨ad, us, rfl, q1, k1, k2⟩
    | [], _, h3 => cases h3
    | [_], _, h3 => cases h3
    | [_, _], _, h3 => cases h3
    | _ :: _ :: _ :: _ :: _, _, h3 => cases h3
  | fl xs =>
    match xs, h2, h3 with
    | [x, y, z], h2, h3 =>
      rw [Rep] at h2
      obtain ⟨ad, us, rfl, _, q1, q2⟩ := h2
      obtain ⟨k1, k2⟩ := key q2 h3
      exact .inr ⟨ad, us, rfl, L2.SqL.of q1, k1, k2⟩
    | [], _, h3 => cases h3
    | [_], _, h3 => cases h3
    | [_, _], _, h3 => cases h3
    | _ :: _ :: _ :: _ :: _, _, h3 => cases h3
  | _ => cases h3

/-! ### comprehensions -/
theorem aft_of {m : M α} {x : α} {S' : Store} {R : α → Wl → Store → Hp → Prop} (e : m S = .ok x S') (f : ∀ w' H', Post K w H w' H' → SRel K Z w' H' S' → R x w' S' H') : Aft K Z Wx w S H m R := by
  unfold Aft
  rw [e]
  exact f
theorem Aft.calm {m : M α} {R : α → Wl → Store → Hp → Prop} (h : Aft K Z Wx w S H (M.calm m) R) : ∃ x S', m S = .ok x S' ∧ ∀ w' H', Post K w H w' H' → SRel K Z w' H' S' → R x w' S' H' := by
  unfold Aft M.calm at h
  cases e : m S with
  | ok x S' => rw [e] at h; exact ⟨x, S', rfl, h⟩
  | exc c ns vs S' => rw [e] at h; exact h.elim
  | bad => rw [e] at h; exact h.elim
theorem seq_okay {m : M α} {k : α → M β} {y : β} {S' : Store} (h : M.seq m k S = .ok y S') : ∃ x S1, m S = .ok x S1 ∧ k x S1 = .ok y S' := by
  unfold M.seq at h
  cases e : m S with
  | ok x S1 => rw [e] at h; exact ⟨x, S1, rfl, h⟩
  | exc c ns vs S1 => rw [e] at h; cases h
  | bad => rw [e] at h; cases h
theorem opt_okay {q : Option α} {y : α} {S' : Store} (h : M.opt q S = .ok y S') : q = some y ∧ S' = S := by
  cases q with
  | none => cases h
  | some x => cases h; exact ⟨rfl, rfl⟩
theorem erel_wipe (h : ERel K Z w H r σ) : ∀ vs : List Nat, ERel K Z w H (wipe r vs) (L2.wipe σ vs)
  | [] => h
  | v :: vs => by
    have ih := erel_wipe h vs
    unfold wipe L2.wipe
    refine ⟨by rw [List.length_set, List.length_set]; exact ih.len, fun j x e => ?_⟩
    by_cases hj : v = j
    · subst hj
      by_cases hv : v < (wipe r vs).length
      · rw [List.getElem?_set_self hv] at e; cases e
      · rw [List.getElem?_eq_none (by simpa using hv)] at e; cases e
    · rw [List.getElem?_set_ne hj] at e ⊢
      exact ih.at_ j x e
theorem wipe_get {σ : L2.St} {i : Nat} : ∀ {vs : List Nat}, (i ∈ vs → (L2.wipe σ vs)[i]? = if i < σ.length then some none else none) ∧ (i ∉ vs → (L2.wipe σ vs)[i]? = σ[i]?)
  | [] => ⟨fun h => absurd h List.not_mem_nil, fun _ => rfl⟩
  | v :: vs => by
    obtain ⟨h1, h2⟩ := wipe_get (σ := σ) (i := i) (vs := vs)
    have hl := L2.wipe_length σ vs
    refine ⟨fun h => ?_, fun h => ?_⟩
    · unfold L2.wipe
      by_cases hv : v = i
      · subst hv
        by_cases hi : v < σ.length
        · rw [if_pos hi, List.getElem?_set_self (by rw [hl]; exact hi)]
        · rw [if_neg hi, List.getElem?_eq_none (by rw [List.length_set, hl]; omega)]
      · rw [List.getElem?_set_ne hv]
        exact h1 ((List.mem_cons.mp h).resolve_left (Ne.symm hv))
    · rw [List.mem_cons, not_or] at h
      unfold L2.wipe
      rw [List.getElem?_set_ne (Ne.symm h.1)]
      exact h2 h.2
theorem wipe_but {σ σ' : L2.St} {vs is : List Nat} (h : But is (L2.wipe σ vs) σ') (hs : ∀ i ∈ is, i ∈ vs) : L2.wipe σ' vs = L2.wipe σ vs := by
  refine List.ext_getElem? fun i => ?_
  have hl : σ'.length = σ.length := by rw [h.1, L2.wipe_length]
  by_cases hi : i ∈ vs
  · rw [wipe_get.1 hi, wipe_get.1 hi, hl]
  · rw [wipe_get.2 hi, h.2 i fun z => hi (hs i z)]
section
variable (Z) (call : Nat → List D → M D) (gl : List D)
def tC (K : PySem.W.Frag) (c : Es) : TT := fun σ H Q => ∃ w S r, Rel K Z w H S r σ ∧ Aft K Z NoX w S H (evalC call gl c r) fun b _ _ H' => Q b H'
end
abbrev NoW : WX := fun _ _ _ _ => False
theorem c_nil : PTs X [] (tC Z call gl X.K .nil) := by
  refine ⟨fun pins s σ H Q I ⟨w, S, r, rel, h⟩ => L2.pts_nil.run pins s σ H Q I ?_⟩
  rw [evalC] at h
  exact h.ret rel.s
theorem c_one (h : PT X c (tB Z call gl X NoW pc)) : PTs X [c] (tC Z call gl X.K (.cons pc .nil)) := by
  refine ⟨fun pins s σ H Q I ⟨w, S, r, rel, z⟩ => (L2.pts_one h).run pins s σ H Q I ?_⟩
  rw [evalC] at z
  exact ⟨w, S, r, rel, z⟩
theorem unhide_eq {p : Addr} {w w' : Wl} (h : w'.hid = (w.hide p).hid) : w' = (⟨w'.l, w.hid⟩ : Wl).hide p := by
  cases w'
  simp only at h
  subst h
  rfl
/-- the invariant of a comprehension: the new list at D, hidden -/
structure Inn (K : PySem.W.Frag) (Z : Zt) (w1 : Wl) (H1 : Hp) (D : Addr) (S2 : Store) (acc : List EV.D) (n : Nat) (Hh : Hp) (w2 : Wl) : Prop where
  post : Post K w1 H1 w2 Hh
  rel : SRel K Z (w2.hide D) Hh S2
  new : D ∉ w2.hid
  at_ : ∃ us, Hh D = some (.lst us) ∧ Reps K Z (w2.hide D) Hh acc us
  few : acc.length ≤ n
theorem Inn.start {D : Addr} (s : SRel K Z w H S) (hD : H D = none) : Inn K Z w H D S [] 0 (upd H D (.lst [])) w where
  post := Post.new s hD
  rel := s.hide hD (fun _ z => by cases z) (fun _ _ z => by cases z)
  new := (s.out_new hD).2
  at_ := ⟨[], upd_same, Reps.nil⟩
  few := Nat.le_refl _
theorem Inn.ext {D : Addr} {acc : List EV.D} {n : Nat} {Hh : Hp} {w2 : Wl} (I : Inn K Z w1 H1 D S acc n Hh w2) (hD : H1 D = none) : Ext K w1 H1 (w2.hide D) Hh := by
  refine ⟨I.post.tup, fun a o h k => ⟨(I.post.keep a o h k).1, out_hide (I.post.keep a o h k).2 fun z => ?_⟩, I.post.ref, I.post.dom⟩
  rw [z, hD] at h; cases h
/-- the world turned, the list as it was -/
theorem Inn.turn {D : Addr} {acc : List EV.D} {n m : Nat} {Hh H' : Hp} {w2 w3 : Wl} {S3 : Store} (I : Inn K Z w1 H1 D S acc n Hh w2) (hD : H1 D = none) (p : Post K (w2.hide D) Hh w3 H') (s : SRel K Z w3 H' S3) (hm : n ≤ m) :
    w3 = (⟨w3.l, w2.hid⟩ : Wl).hide D ∧ Inn K Z w1 H1 D S3 acc m H' ⟨w3.l, w2.hid⟩ := by
  have e := unhide_eq p.hid
  refine ⟨e, ?_, by rw [← e]; exact s, I.new, ?_, Nat.le_trans I.few hm⟩
  · have x := (I.ext hD).trans p.toExt
    refine ⟨⟨x.tup, fun a o h k => ⟨(x.keep a o h k).1, ?_⟩, x.ref, x.dom⟩, I.post.hid, fun a m => ?_, fresh_trans (w1 := w2.hide D) p.ref I.post.dom I.post.fresh p.fresh⟩
    · have := (x.keep a o h k).2
      rw [e] at this
      exact out_of_hide this
    · exact (p.still a (List.mem_cons_of_mem _ (by rw [I.post.hid]; exact m))).trans (I.post.still a m)
  · obtain ⟨us, h1, h2⟩ := I.at_
    refine ⟨us, (p.still D List.mem_cons_self).trans h1, ?_⟩
    rw [← e]
    exact Reps.mono p.toExt h2
/-- the list grows -/
theorem Inn.grow {D : Addr} {acc : List EV.D} {n : Nat} {Hh : Hp} {w2 : Wl} {y : EV.D} {v : V} {us : List V} (I : Inn K Z w1 H1 D S acc n Hh w2) (s1 : SRel K Z w1 H1 S1) (hD : H1 D = none) (hu : Hh D = some (.lst us)) (hy : Rep K Z (w2.hide D) Hh y v) :
    Inn K Z w1 H1 D S (acc ++ [y]) (n + 1) (upd Hh D (.lst (us ++ [v]))) w2 := by
  obtain ⟨g1, g2⟩ := SRel.grow (u := .lst (us ++ [v])) I.rel hu (fun _ z => by cases z) (fun _ _ z => by cases z)
  obtain ⟨us', h1, h2⟩ := I.at_
  rw [hu] at h1
  cases h1
  refine ⟨?_, g1, I.new, ⟨us ++ [v], upd_same, Reps.mono g2 (Reps.app h2 (Reps.one hy))⟩, by rw [List.length_append]; exact Nat.succ_le_succ I.few⟩
  have x := (I.ext hD).trans g2
  refine ⟨⟨x.tup, fun a o h k => ⟨(x.keep a o h k).1, out_of_hide (x.keep a o h k).2⟩, x.ref, x.dom⟩, I.post.hid, fun a m => ?_, I.post.fresh⟩
  rw [upd_ne fun z => I.new (by rw [I.post.hid, ← z]; exact m)]
  exact I.post.still a m
def step (call : Nat → List D → M D) (gl : List D) (e : E) (own : List Nat) (t : T) (c : Es) (r : Env) (x : D) : M (Option D) :=
  M.seq (.opt (t.bind x (wipe r own))) fun q => M.seq (evalC call gl c q) fun b => if b then M.seq (evalE call gl e q) fun y => .ret (some y) else .ret none
theorem collect_cons {f : D → M (Option D)} {x : D} {xs ys : List D} {S S' : Store} (h : collect f (x :: xs) S = .ok ys S') : ∃ o S1 zs, f x S = .ok o S1 ∧ collect f xs S1 = .ok zs S' ∧ ys = o.toList ++ zs := by
  rw [collect] at h
  obtain ⟨o, S1, h1, h2⟩ := seq_okay h
  obtain ⟨zs, S2, h3, h4⟩ := seq_okay h2
  cases h4
  refine ⟨o, S1, zs, h1, h3, ?_⟩
  cases o <;> rfl
theorem drop_some {α : Type} {xs : List α} {i : Nat} (h : i < xs.length) : xs.drop i = xs[i] :: xs.drop (i + 1) := List.drop_eq_getElem_cons h
theorem lt_size {n : Nat} (h : n < line) : n < sizeLine := by rw [PySem.sizeLine_eq]; unfold line at h; omega
section
variable {elt tg iter : Expr} {ifs : List Expr} {scope : Scope} {own : List (Str × Nat)} {t : T} {i : I} {cs : Es}
/-- one turn of a clause: the target, the tests, the item -/
theorem turn_ok {D : Addr} {acc : List EV.D} {n : Nat} {Hh H' : Hp} {w2 : Wl} {x : EV.D} {v : V} {ob : Option EV.D} {S2 S3 : Store} {vs : List Nat} {NxP : Hp → Prop}
    (sI : SRel K Z w1 H1 S1) (hD : H1 D = none) (I : Inn K Z w1 H1 D S2 acc n Hh w2) (rel : ERel K Z (w2.hide D) Hh r σ)
    (p1 : Post K (w2.hide D) Hh (w2.hide D) H') (s1 : SRel K Z (w2.hide D) H' S2) (hv : Rep K Z (w2.hide D) H' x v) (hs : ∀ i ∈ t.slots, i ∈ vs) (hl : acc.length < line)
    (ht : step call gl pe vs t cs r x S2 = .ok ob S3) (hX : X.K = K)
    (hN : ∀ w3 H3, Inn K Z w1 H1 D S3 (acc ++ ob.toList) (n + 1) H3 w3 → NxP H3) :
    tG K Z t v (L2.wipe σ vs) H' fun σ2 H2 => L2.wipe σ2 vs = L2.wipe σ vs ∧ tC Z call gl K cs σ2 H2 fun b H3 =>
      if b = true then tE Z call gl X NoW pe σ2 H3 fun y H4 => ∃ acc, H4 D = some (.lst acc) ∧ acc.length < sizeLine ∧ NxP (upd H4 D (.lst (acc ++ [y]))) else NxP H3 := by
  subst hX
  obtain ⟨e1, I1⟩ := I.turn hD p1 s1 (Nat.le_refl _)
  have x1 := I1.ext hD
  unfold step at ht
  obtain ⟨r', S4, h0, ht0⟩ := seq_okay ht
  obtain ⟨h1, hS⟩ := opt_okay h0
  subst hS
  obtain ⟨b, S5, h2, ht⟩ := seq_okay ht0
  refine ⟨w2.hide D, wipe r vs, x, r', erel_wipe (rel.mono p1.toExt) vs, hv, h1, fun σ2 er bt => ⟨wipe_but bt hs, ?_⟩⟩
  refine ⟨w2.hide D, _, r', ⟨s1, er⟩, aft_of h2 fun w3 H3 p3 s3 => ?_⟩
  have p13 := p1.trans p3
  obtain ⟨e3, I3⟩ := I.turn hD p13 s3 (Nat.le_refl _)
  cases b with
  | false =>
    rw [if_neg Bool.false_ne_true] at ht
    cases ht
    simp only [if_neg Bool.false_ne_true]
    exact hN _ _ (by rw [show acc ++ (none : Option EV.D).toList = acc from List.append_nil _]; exact ⟨I3.post, I3.rel, I3.new, I3.at_, Nat.le_succ_of_le I3.few⟩)
  | true =>
    rw [if_pos rfl] at ht
    simp only [if_true]
    obtain ⟨y, S6, h4, ht⟩ := seq_okay ht
    cases ht
    refine ⟨w3, S5, r', ⟨s3, er.mono p3.toExt⟩, aft_of h4 fun w4 H4 p4 s4 u hu => ?_⟩
    obtain ⟨e4, I4⟩ := I.turn hD (p13.trans p4) s4 (Nat.le_refl _)
    obtain ⟨us, g1, g2⟩ := I4.at_
    exact ⟨us, g1, by rw [← Reps.len g2]; exact lt_size hl, hN _ _ (I4.grow sI hD g1 (by rw [← e4]; exact hu))⟩
theorem l_comp (hc : X.calm = true) (hN : X.N.Nodup) (hi : PI X tg iter (tI Z call gl X W i)) (ok : L2.BlkOk X.N X.env.scope scope own)
    (hg : ∀ (s : Shared) (H : Hp) (C : Addr) (cl : List (Str × Addr)) (fp : List Addr), PG (X.blk s H scope (compEnvC scope cl C X.env) fp) tg (tG X.K Z t)) (ht : ∀ (s : Shared) (H : Hp) (C : Addr) (cl : List (Str × Addr)) (fp : List Addr), PTs (X.blk s H scope (compEnvC scope cl C X.env) fp) ifs (tC Z call gl X.K cs))
    (he : ∀ (s : Shared) (H : Hp) (C : Addr) (cl : List (Str × Addr)) (fp : List Addr), PE (X.blk s H scope (compEnvC scope cl C X.env) fp) elt (tE Z call gl X NoW pe)) (hs : ∀ x, foldedSetIterable iter X.env x = pure x) (hsl : ∀ j ∈ t.slots, j ∈ own.map (·.2)) :
    (∀ σ H Q, tL Z call gl X W (.comp pe (own.map (·.2)) t i cs) σ H Q → L2.tLc (tI Z call gl X W i) (tG X.K Z t) (tC Z call gl X.K cs) (tE Z call gl X NoW pe) (own.map (·.2)) σ H Q) ∧
    PE X (.ListComp elt [⟨tg, iter, ifs, 0⟩] scope pos) (tL Z call gl X W (.comp pe (own.map (·.2)) t i cs)) := by
  have key : ∀ σ H Q, tL Z call gl X W (.comp pe (own.map (·.2)) t i cs) σ H Q → L2.tLc (tI Z call gl X W i) (tG X.K Z t) (tC Z call gl X.K cs) (tE Z call gl X NoW pe) (own.map (·.2)) σ H Q := by
    rintro σ H Q ⟨w, S, r, rel, h⟩
    rw [evalL] at h
    refine ⟨w, S, r, rel, h.seq.imp fun xs w1 S1 H1 p1 s1 q J ⟨Gd, Y, wk, hG, hY⟩ D hD => ?_⟩
    split at q
    case isFalse => exact q.no.elim
    rename_i hz
    obtain ⟨ys, S', hcol, q⟩ := q.calm
    have er := rel.e.mono p1.toExt
    have hH : H D = none := p1.dom D hD
    refine L2.lc_it wk (fun i Hh => ∃ w2 S2 acc zs, Inn X.K Z w1 H1 D S2 acc i Hh w2 ∧ collect (step call gl pe (own.map (·.2)) t cs r) (xs.drop i) S2 = .ok zs S' ∧ ys = acc ++ zs)
      ⟨w1, S1, [], ys, Inn.start s1 hD, hcol, rfl⟩ (fun i Hh hi ⟨w2, S2, acc, zs, I, _, _⟩ => hG _ _ (I.ext hD)) (fun i v Hh H' hi ⟨w2, S2, acc, zs, I, h1, h2⟩ y => ?_) (fun Hh ⟨w2, S2, acc, zs, I, h1, h2⟩ => ?_)
    · rw [drop_some hi] at h1
      obtain ⟨o, S3, zs', g1, g2, rfl⟩ := collect_cons h1
      obtain ⟨p2, s2, hv⟩ := hY _ _ _ _ _ _ _ (I.ext hD) I.rel (List.getElem?_eq_getElem hi) y
      exact turn_ok (X := X) s1 hD I (er.mono (I.ext hD)) p2 s2 hv hsl (by have := I.few; omega) g1 rfl fun w3 H3 I3 => ⟨w3, S3, _, zs', I3, g2, by rw [h2, List.append_assoc]⟩
    · rw [List.drop_length] at h1
      cases h1
      rw [List.append_nil] at h2
      subst h2
      obtain ⟨us, g1, g2⟩ := I.at_
      exact q w2 Hh I.post (SRel.unhide I.rel) D us hH I.new g1 I.rel g2
  exact ⟨key, imp_pe (L2.pe_lc hc hN hi ok hg ht he hs) key⟩
theorem l_compR {a : E} (hc : X.calm = true) (hN : X.N.Nodup) (hi : PE X iter (tE Z call gl X W a)) (ok : L2.BlkOk X.N X.env.scope scope own)
    (hg : ∀ (s : Shared) (H : Hp) (C : Addr) (cl : List (Str × Addr)) (fp : List Addr), PG (X.blk s H scope (compEnvC scope cl C X.env) fp) tg (tG X.K Z t)) (ht : ∀ (s : Shared) (H : Hp) (C : Addr) (cl : List (Str × Addr)) (fp : List Addr), PTs (X.blk s H scope (compEnvC scope cl C X.env) fp) ifs (tC Z call gl X.K cs))
    (he : ∀ (s : Shared) (H : Hp) (C : Addr) (cl : List (Str × Addr)) (fp : List Addr), PE (X.blk s H scope (compEnvC scope cl C X.env) fp) elt (tE Z call gl X NoW pe)) (hs : ∀ x, foldedSetIterable iter X.env x = pure x) (hsl : ∀ j ∈ t.slots, j ∈ own.map (·.2)) :
    (∀ σ H Q, tL Z call gl X W (.compR pe (own.map (·.2)) t a cs) σ H Q → L2.tLc (iSeq X.K (tE Z call gl X W a)) (tG X.K Z t) (tC Z call gl X.K cs) (tE Z call gl X NoW pe) (own.map (·.2)) σ H Q) ∧
    PE X (.ListComp elt [⟨tg, iter, ifs, 0⟩] scope pos) (tL Z call gl X W (.compR pe (own.map (·.2)) t a cs)) := by
  have key : ∀ σ H Q, tL Z call gl X W (.compR pe (own.map (·.2)) t a cs) σ H Q → L2.tLc (iSeq X.K (tE Z call gl X W a)) (tG X.K Z t) (tC Z call gl X.K cs) (tE Z call gl X NoW pe) (own.map (·.2)) σ H Q := by
    rintro σ H Q ⟨w, S, r, rel, h⟩
    rw [evalL] at h
    refine tE_mono (tE_step rel h) fun v H1 ⟨x, w1, S1, r1, hx, p1, q⟩ => ?_
    obtain ⟨ys, S', hcol, q⟩ := q.calm
    have rd : ∀ {w2 H2 S2 m i zs}, SRel X.K Z w2 H2 S2 → Rep X.K Z w2 H2 x v → walkR (step call gl pe (own.map (·.2)) t cs r) x (m + 1) i S2 = .ok zs S' → ∃ ad us xs, v = .ref ad ∧ H2 ad = some (.lst us) ∧ Reps X.K Z w2 H2 xs us ∧
        ((xs[i]? = none ∧ zs = [] ∧ S2 = S') ∨ ∃ y o S3 zs', xs[i]? = some y ∧ step call gl pe (own.map (·.2)) t cs r y S2 = .ok o S3 ∧ walkR (step call gl pe (own.map (·.2)) t cs r) x m (i + 1) S3 = .ok zs' S' ∧ zs = o.toList ++ zs') := by
      intro w2 H2 S2 m i zs s2 hx2 hw
      rw [walkR] at hw
      obtain ⟨xs, S3, g1, g2⟩ := seq_okay hw
      have ha : Aft X.K Z NoX w2 S2 H2 (lstOf x) fun xs' _ S4 _ => xs' = xs ∧ S4 = S2 ∧ S4 = S3 := by
        have hS : S3 = S2 := by
          unfold lstOf at g1
          split at g1
          · cases g1; rfl
          · split at g1
            · cases g1; rfl
            · cases g1
          · cases g1
        exact aft_of g1 fun _ _ _ _ => ⟨rfl, hS, rfl⟩
      obtain ⟨ad, us, xs', e1, e2, e3, e4, _, e5⟩ := lst_ok s2 hx2 ha
      subst e4 e5
      refine ⟨ad, us, xs', e1, e2, e3, ?_⟩
      cases e6 : xs'[i]? with
      | none =>
        rw [e6] at g2
        cases g2
        exact .inl ⟨rfl, rfl, rfl⟩
      | some y =>
        rw [e6] at g2
        obtain ⟨o, S4, g3, g4⟩ := seq_okay g2
        obtain ⟨zs', S5, g5, g6⟩ := seq_okay g4
        cases g6
        exact .inr ⟨y, o, S4, zs', rfl, g3, g5, by cases o <;> rfl⟩
    obtain ⟨ad, us, xs, rfl, e2, _, _⟩ := rd r1.s hx hcol
    refine ⟨ad, us, rfl, .inl ⟨L2.SqL.of e2, fun D hD => ?_⟩⟩
    have hH : H D = none := p1.dom D hD
    refine ⟨fun i m Hh => ∃ w2 S2 acc zs, Inn X.K Z w1 H1 D S2 acc i Hh w2 ∧ i + m = 2000 ∧ walkR (step call gl pe (own.map (·.2)) t cs r) x m i S2 = .ok zs S' ∧ ys = acc ++ zs,
      ⟨2000, w1, S1, [], ys, Inn.start r1.s hD, rfl, hcol, rfl⟩, ?_⟩
    rintro i m Hh ⟨w2, S2, acc, zs, I, him, h1, h2⟩
    have hx2 : Rep X.K Z (w2.hide D) Hh x (.ref ad) := Rep.mono (I.ext hD) hx
    cases m with
    | zero => cases h1
    | succ m =>
      obtain ⟨ad', us2, xs2, ea, e3, e4, e5⟩ := rd I.rel hx2 h1
      cases ea
      rcases e5 with ⟨e5, rfl, rfl⟩ | ⟨y, o, S3, zs', e5, e6, e7, rfl⟩
      · refine .inl ⟨⟨us2, L2.SqL.of e3, ?_⟩, ?_⟩
        · rw [← Reps.len e4]
          exact List.getElem?_eq_none_iff.mp e5
        · rw [List.append_nil] at h2
          subst h2
          obtain ⟨vs, g1, g2⟩ := I.at_
          exact q w2 Hh I.post (SRel.unhide I.rel) D vs hH I.new g1 I.rel g2
      · obtain ⟨u, g1, g2⟩ := Reps.get e4 e5
        refine .inr ⟨⟨us2, u, L2.SqL.of e3, g1⟩, fun H' => ∃ w2 S2 acc zs, Inn X.K Z w1 H1 D S2 acc (i + 1) H' w2 ∧ (i + 1) + m = 2000 ∧ walkR (step call gl pe (own.map (·.2)) t cs r) x m (i + 1) S2 = .ok zs S' ∧ ys = acc ++ zs, fun H' hN => ⟨m, Nat.lt_succ_self _, hN⟩, ?_⟩
        rintro v' H' ⟨rfl, hv'⟩
        have := hv' us2 (L2.SqL.of e3)
        rw [g1] at this
        cases this
        have hlim : acc.length < line := by
          have f := I.few
          unfold line
          omega
        exact turn_ok (X := X) r1.s hD I (r1.e.mono (I.ext hD)) Post.rfl I.rel g2 hsl hlim e6 rfl fun w3 H3 I3 => ⟨w3, S3, _, zs', I3, by omega, e7, by rw [h2, List.append_assoc]⟩
  exact ⟨key, imp_pe (L2.pe_lc hc hN (imp_pi (pi_seq hi) fun _ _ _ z => z) ok hg ht he hs) key⟩
end
end EV
end
section
set_option Elab.async false
set_option linter.all false
set_option maxRecDepth 100000
set_option maxHeartbeats 4000000
/-! EV, part p: comprehensions with two clauses. -/
namespace EV
open L2 (V HO Hp upd upd_same upd_ne SqT SqL Rd Key Cx Ends TE TT TA TS TG TGs TI PE PT PA PS PSs PG PGs PI VK XK WX PC OpR R2 CallR FnOk Room Gl Binds PassesAt CXT It Walk Itl Itt Itr Loc PTs)
open PySem PySem.Spec

variable {K : PySem.W.Frag} {Z : Zt} {w w1 : Wl} {H H1 : Hp} {S S1 : Store} {r : Env} {σ : L2.St} {α β : Type} {Wx : Value → Option Addr → Hp → Prop}
variable {call : Nat → List D → M D} {gl : List D} {X : Cx} {W : WX} {Q : VK} {CX : CXT}
variable {pe : E}

/-- a walk, whatever a turn is -/
theorem walk_any {J : It} {n : Nat} {G : Hp → Prop} {Y : Nat → Hp → V → Hp → Prop} (wk : Walk J n G Y) {H0 : Hp} {Qd : Hp → Prop} (Body : V → Hp → (Hp → Prop) → Prop) (Pv : Nat → Hp → Prop) (h0 : Pv 0 H0) (hG : ∀ i H, i ≤ n → Pv i H → G H)
    (hs : ∀ i x H H', i < n → Pv i H → Y i H x H' → Body x H' (Pv (i + 1))) (hd : ∀ H, Pv n H → Qd H) :
    ∃ W : Nat → Nat → Hp → Prop, (∃ m, W 0 m H0) ∧ ∀ i m H, W i m H → (J.stop i H ∧ Qd H) ∨ (J.go i H ∧ ∃ Nx : Hp → Prop, (∀ H', Nx H' → ∃ m', m' < m ∧ W (i + 1) m' H') ∧ ∀ x H', J.yld i H x H' → Body x H' Nx) := by
  refine ⟨fun i m H => m = n - i ∧ i ≤ n ∧ Pv i H, ⟨n, by simp, Nat.zero_le _, h0⟩, ?_⟩
  rintro i m H ⟨rfl, hi, p⟩
  have q := hG i H hi p
  by_cases hlt : i < n
  · exact .inr ⟨wk.goes i H hlt q, Pv (i + 1), fun H' p' => ⟨n - (i + 1), by omega, rfl, hlt, p'⟩, fun x H' y => hs i x H H' hlt p (wk.yields i H x H' hlt q y)⟩
  · have e : i = n := by omega
    subst e
    exact .inl ⟨wk.stops H q, hd H p⟩
theorem collect2_cons {f : D → M (List D)} {x : D} {xs ys : List D} {S S' : Store} (h : collect2 f (x :: xs) S = .ok ys S') : ∃ o S1 zs, f x S = .ok o S1 ∧ collect2 f xs S1 = .ok zs S' ∧ ys = o ++ zs := by
  rw [collect2] at h
  obtain ⟨o, S1, h1, h2⟩ := seq_okay h
  obtain ⟨zs, S2, h3, h4⟩ := seq_okay h2
  cases h4
  exact ⟨o, S1, zs, h1, h3, rfl⟩
def step2 (call : Nat → List D → M D) (gl : List D) (e : E) (own own2 : List Nat) (t : T) (c : Es) (t2 : T) (i2 : I) (c2 : Es) (r : Env) (x : D) : M (List D) :=
  M.seq (.opt (t.bind x (wipe r own))) fun q => M.seq (evalC call gl c q) fun b => if b then
        M.seq (evalI call gl i2 q) fun zs => if zs.length ≤ 1000 then collect (step call gl e own2 t2 c2 q) zs else .no else .ret []
section
variable {elt tg iter tg1 iter1 : Expr} {ifs ifs1 : List Expr} {scope : Scope} {own : List (Str × Nat)} {vs1 : List Nat} {t t1 : T} {i i1 : I} {cs cs1 : Es} {pos : Pos}
theorem l_comp2 (hc : X.calm = true) (hN : X.N.Nodup) (hi : PI X tg iter (tI Z call gl X W i)) (ok : L2.BlkOk X.N X.env.scope scope own) (hv : ∀ i ∈ vs1, i ∈ own.map (·.2))
    (hg : ∀ (s : Shared) (H : Hp) (C : Addr) (cl : List (Str × Addr)) (fp : List Addr), PG (X.blk s H scope (compEnvC scope cl C X.env) fp) tg (tG X.K Z t)) (ht : ∀ (s : Shared) (H : Hp) (C : Addr) (cl : List (Str × Addr)) (fp : List Addr), PTs (X.blk s H scope (compEnvC scope cl C X.env) fp) ifs (tC Z call gl X.K cs))
    (hi1 : ∀ (s : Shared) (H : Hp) (C : Addr) (cl : List (Str × Addr)) (fp : List Addr), PI (X.blk s H scope (compEnvC scope cl C X.env) fp) tg1 iter1 (tI Z call gl X NoW i1))
    (hg1 : ∀ (s : Shared) (H : Hp) (C : Addr) (cl : List (Str × Addr)) (fp : List Addr), PG (X.blk s H scope (compEnvC scope cl C X.env) fp) tg1 (tG X.K Z t1)) (ht1 : ∀ (s : Shared) (H : Hp) (C : Addr) (cl : List (Str × Addr)) (fp : List Addr), PTs (X.blk s H scope (compEnvC scope cl C X.env) fp) ifs1 (tC Z call gl X.K cs1))
    (he : ∀ (s : Shared) (H : Hp) (C : Addr) (cl : List (Str × Addr)) (fp : List Addr), PE (X.blk s H scope (compEnvC scope cl C X.env) fp) elt (tE Z call gl X NoW pe)) (hs : ∀ x, foldedSetIterable iter X.env x = pure x) (hs1 : ∀ env x, foldedSetIterable iter1 env x = pure x)
    (hsl : ∀ j ∈ t.slots, j ∈ own.map (·.2)) (hsl1 : ∀ j ∈ t1.slots, j ∈ vs1) :
    (∀ σ H Q, tL Z call gl X W (.comp2 pe (own.map (·.2)) vs1 t i cs t1 i1 cs1) σ H Q → L2.tLc2 (tI Z call gl X W i) (tG X.K Z t) (tC Z call gl X.K cs) (tI Z call gl X NoW i1) (tG X.K Z t1) (tC Z call gl X.K cs1) (tE Z call gl X NoW pe) (own.map (·.2)) vs1 σ H Q) ∧
    PE X (.ListComp elt [⟨tg, iter, ifs, 0⟩, ⟨tg1, iter1, ifs1, 0⟩] scope pos) (tL Z call gl X W (.comp2 pe (own.map (·.2)) vs1 t i cs t1 i1 cs1)) := by
  have key : ∀ σ H Q, tL Z call gl X W (.comp2 pe (own.map (·.2)) vs1 t i cs t1 i1 cs1) σ H Q → L2.tLc2 (tI Z call gl X W i) (tG X.K Z t) (tC Z call gl X.K cs) (tI Z call gl X NoW i1) (tG X.K Z t1) (tC Z call gl X.K cs1) (tE Z call gl X NoW pe) (own.map (·.2)) vs1 σ H Q := by
    rintro σ H Q ⟨w, S, r, rel, h⟩
    rw [evalL] at h
    refine ⟨w, S, r, rel, h.seq.imp fun xs w1 S1 H1 p1 s1 q J ⟨Gd, Y, wk, hG, hY⟩ D hD => ?_⟩
    obtain ⟨ys0, S', hcol, q⟩ := q.calm
    obtain ⟨ys, S'', hcol, hif⟩ := seq_okay hcol
    by_cases hz : xs.length ≤ 1000
    case neg => rw [if_neg hz] at hif; cases hif
    rw [if_pos hz] at hif
    cases hif
    have er := rel.e.mono p1.toExt
    have hH : H D = none := p1.dom D hD
    refine walk_any wk _ (fun i Hh => ∃ w2 S2 acc zs, Inn X.K Z w1 H1 D S2 acc (i * 1000) Hh w2 ∧ collect2 (step2 call gl pe (own.map (·.2)) vs1 t cs t1 i1 cs1 r) (xs.drop i) S2 = .ok zs S' ∧ ys0 = acc ++ zs)
      ⟨w1, S1, [], ys0, Inn.start s1 hD, hcol, rfl⟩ (fun i Hh hi ⟨w2, S2, acc, zs, I, _, _⟩ => hG _ _ (I.ext hD)) (fun i v Hh H' hi ⟨w2, S2, acc, zs, I, h1, h2⟩ y => ?_) (fun Hh ⟨w2, S2, acc, zs, I, h1, h2⟩ => ?_)
    · rw [drop_some hi] at h1
      obtain ⟨o, S3, zs', g1, g2, rfl⟩ := collect2_cons h1
      obtain ⟨p2, s2, hvx⟩ := hY _ _ _ _ _ _ _ (I.ext hD) I.rel (List.getElem?_eq_getElem hi) y
      unfold step2 at g1
      obtain ⟨r', S4, k0, g0⟩ := seq_okay g1
      obtain ⟨k1, hS⟩ := opt_okay k0
      subst hS
      clear g1
      obtain ⟨b, S5, k2, g1⟩ := seq_okay g0
      refine ⟨w2.hide D, wipe r _, _, r', erel_wipe (er.mono ((I.ext hD).trans p2.toExt)) _, hvx, k1, fun σ2 er2 bt => ⟨wipe_but bt hsl, ?_⟩⟩
      refine ⟨w2.hide D, _, r', ⟨s2, er2⟩, aft_of k2 fun w3 H3 p3 s3 => ?_⟩
      have p23 := p2.trans p3
      obtain ⟨e3, I3⟩ := I.turn hD p23 s3 (Nat.le_refl _)
      cases b with
      | false =>
        rw [if_neg Bool.false_ne_true] at g1
        cases g1
        simp only [if_neg Bool.false_ne_true]
        exact ⟨_, _, acc, zs', ⟨I3.post, I3.rel, I3.new, I3.at_, Nat.le_trans I3.few (by omega)⟩, g2, h2⟩
      | true =>
        rw [if_pos rfl] at g1
        simp only [if_true]
        obtain ⟨zz, S6, k3, g1⟩ := seq_okay g1
        by_cases hzz : zz.length ≤ 1000
        case neg => rw [if_neg hzz] at g1; cases g1
        rw [if_pos hzz] at g1
        refine ⟨w3, S5, r', ⟨s3, er2.mono p3.toExt⟩, aft_of k3 fun w4 H4 p4 s4 J1 ⟨Gd1, Y1, wk1, hG1, hY1⟩ => ?_⟩
        have p24 := p23.trans p4
        obtain ⟨e4, I4⟩ := I.turn hD p24 s4 (Nat.le_refl _)
        have er4 := (er2.mono p3.toExt).mono p4.toExt
        refine walk_any wk1 _ (fun j Hh => ∃ w5 S7 acc5 zs5, Inn X.K Z w1 H1 D S7 acc5 (i * 1000 + j) Hh w5 ∧ Ext X.K w4 H4 (w5.hide D) Hh ∧ collect (step call gl pe vs1 t1 cs1 r') (zz.drop j) S7 = .ok zs5 S3 ∧ acc5 ++ zs5 = acc ++ o)
          ⟨_, S6, acc, o, I4, by rw [← e4]; exact Ext.rfl, g1, rfl⟩ (fun j Hh hj ⟨w5, S7, acc5, zs5, I5, x5, _, _⟩ => hG1 _ _ x5) (fun j v5 Hh5 H5' hj ⟨w5, S7, acc5, zs5, I5, x5, q1, q2⟩ y5 => ?_) (fun Hh ⟨w5, S7, acc5, zs5, I5, x5, q1, q2⟩ => ?_)
        · rw [drop_some hj] at q1
          obtain ⟨o5, S8, zs6, f1, f2, rfl⟩ := collect_cons q1
          obtain ⟨p6, s6, hv6⟩ := hY1 _ _ _ _ _ _ _ x5 I5.rel (List.getElem?_eq_getElem hj) y5
          have hlim : acc5.length < line := by
            have f5 := I5.few
            unfold line
            omega
          -- the turn, with the bound on how far the world has come
          obtain ⟨e6, I6⟩ := I5.turn hD p6 s6 (Nat.le_refl _)
          unfold step at f1
          obtain ⟨r6, S9, m0, f0⟩ := seq_okay f1
          obtain ⟨m1, hS9⟩ := opt_okay m0
          subst hS9
          clear f1
          obtain ⟨b6, S10, m2, f1⟩ := seq_okay f0
          refine ⟨w5.hide D, wipe r' vs1, _, r6, erel_wipe (er4.mono (x5.trans p6.toExt)) vs1, hv6, m1, fun σ6 er6 bt6 => ⟨wipe_but bt6 hsl1, ?_⟩⟩
          refine ⟨w5.hide D, _, r6, ⟨s6, er6⟩, aft_of m2 fun w7 H7 p7 s7 => ?_⟩
          have p67 := p6.trans p7
          obtain ⟨e7, I7⟩ := I5.turn hD p67 s7 (Nat.le_refl _)
          cases b6 with
          | false =>
            rw [if_neg Bool.false_ne_true] at f1
            cases f1
            simp only [if_neg Bool.false_ne_true]
            exact ⟨_, _, acc5, zs6, ⟨I7.post, I7.rel, I7.new, I7.at_, Nat.le_trans I7.few (by omega)⟩, by rw [← e7]; exact x5.trans p67.toExt, f2, q2⟩
          | true =>
            rw [if_pos rfl] at f1
            simp only [if_true]
            obtain ⟨yy, S11, m4, f1⟩ := seq_okay f1
            cases f1
            refine ⟨w7, S10, r6, ⟨s7, er6.mono p7.toExt⟩, aft_of m4 fun w8 H8 p8 s8 u8 hu8 => ?_⟩
            have p68 := p67.trans p8
            obtain ⟨e8, I8⟩ := I5.turn hD p68 s8 (Nat.le_refl _)
            obtain ⟨us, z1, z2⟩ := I8.at_
            have G8 := I8.grow s1 hD z1 (by rw [← e8]; exact hu8)
            refine ⟨us, z1, by rw [← Reps.len z2]; exact lt_size hlim, ⟨_, _, acc5 ++ [yy], zs6, G8, ?_, f2, by rw [List.append_assoc]; exact q2⟩⟩
            have gx := (SRel.grow (u := .lst (us ++ [u8])) I8.rel z1 (fun _ z => by cases z) (fun _ _ z => by cases z)).2
            exact (by rw [← e8]; exact x5.trans p68.toExt : Ext X.K w4 H4 _ H8).trans gx
        · rw [List.drop_length] at q1
          cases q1
          rw [List.append_nil] at q2
          subst q2
          refine ⟨w5, S3, _, zs', ⟨I5.post, I5.rel, I5.new, I5.at_, Nat.le_trans I5.few (by omega)⟩, g2, by rw [h2, List.append_assoc]⟩
    · rw [List.drop_length] at h1
      cases h1
      rw [List.append_nil] at h2
      subst h2
      obtain ⟨us, g1, g2⟩ := I.at_
      exact q w2 Hh I.post (SRel.unhide I.rel) D us hH I.new g1 I.rel g2
  exact ⟨key, imp_pe (L2.pe_lc2 hc hN hi ok hv hg ht hi1 hg1 ht1 he hs hs1) key⟩
end
end EV
end
section
set_option Elab.async false
set_option linter.all false
set_option maxRecDepth 100000
set_option maxHeartbeats 4000000
/-! EV, part q: stores into lists, dicts, instances. -/
namespace EV
open L2 (V HO Hp upd upd_same upd_ne SqT SqL Rd Key Cx Ends TE TT TA TS TG TGs TI PE PT PA PS PSs PG PGs PI VK XK WX PC OpR R2 CallR FnOk Room Gl Binds PassesAt CXT It Walk Itl Itt Itr Loc PTs PSet)
open PySem PySem.Spec

variable {K : PySem.W.Frag} {Z : Zt} {w w1 : Wl} {H H1 : Hp} {S S1 : Store} {r : Env} {σ : L2.St} {α β : Type} {Wx : Value → Option Addr → Hp → Prop}
variable {call : Nat → List D → M D} {gl : List D} {X : Cx} {W : WX} {Q : VK} {CX : CXT}

theorem any_key {κ : Type} [DecidableEq κ] {f : κ → D} (hf : ∀ a b, D.eq (f a) (f b) = decide (a = b)) {k : κ} {γ : Type} : ∀ kvs : List (κ × γ), ((kvs.map fun p => f p.1).any fun z => D.eq z (f k)) = kvs.any fun kv => decide (kv.1 = k)
  | [] => rfl
  | p :: r => by
    rw [List.map_cons, List.any_cons, List.any_cons, hf, any_key hf r]
theorem putK_rep {κ : Type} [DecidableEq κ] {f : κ → D} (hf : ∀ a b, D.eq (f a) (f b) = decide (a = b)) {k : κ} {y : D} {v : V} (hy : Rep K Z w H y v) : ∀ {kvs : List (κ × V)} {vs : List D}, Reps K Z w H vs (kvs.map (·.2)) →
    Reps K Z w H (List.zipWith (fun k' v' => if D.eq k' (f k) then y else v') (kvs.map fun p => f p.1) vs) ((kvs.map fun kv => if kv.1 = k then (kv.1, v) else kv).map (·.2))
  | [], vs, h => by
    simp only [List.map_nil, List.zipWith_nil_left]
    exact Reps.nil
  | p :: kvs, vs, h => by
    cases vs with
    | nil => rw [Reps] at h; cases h
    | cons d ds =>
      rw [List.map_cons, Reps] at h
      obtain ⟨u, us, e, h1, h2⟩ := h
      cases e
      rw [List.map_cons, List.zipWith_cons_cons, List.map_cons, List.map_cons]
      refine Reps.cons ?_ (putK_rep hf hy h2)
      rw [hf]
      by_cases z : p.1 = k
      · rw [decide_eq_true z, if_pos z]; exact hy
      · rw [decide_eq_false z, if_neg z]; exact h1
theorem map_keep {κ : Type} [DecidableEq κ] {f : κ → D} {k : κ} {v : V} (kvs : List (κ × V)) : (kvs.map fun kv => if kv.1 = k then (kv.1, v) else kv).map (fun p => f p.1) = kvs.map fun p => f p.1 := by
  rw [List.map_map]
  refine List.map_congr_left fun p _ => ?_
  show f (if p.1 = k then (p.1, v) else p).1 = f p.1
  split <;> rfl
theorem putX_vals {k : List Key} {v : V} {u : Value} (ru : L2.RelV v u) : ∀ {xs : List Entry} {us : List V}, L2.Vals us (xs.map (·.2.2)) → L2.Vals ((List.zip xs us).map fun p => if p.1.1 = k then v else p.2) ((xs.map (PySem.putAt k u)).map (·.2.2))
  | [], us, h => by cases h; exact .nil
  | x :: xs, us, h => by
    rw [List.map_cons] at h
    cases h with
    | cons r t =>
      rw [List.zip_cons_cons, List.map_cons, List.map_cons, List.map_cons]
      refine .cons ?_ (putX_vals ru t)
      unfold PySem.putAt
      by_cases z : x.1 = k
      · rw [if_pos z, if_pos z]; exact ru
      · rw [if_neg z, if_neg z]; exact r
theorem putX_reps {k : List Key} {y : D} {v : V} (hy : Rep K Z w H y v) : ∀ {xs : List Entry} {us : List V} {vs : List D}, us.length = xs.length → Reps K Z w H vs us →
    Reps K Z w H (List.zipWith (fun k' v' => if D.eq k' (keysD k) then y else v') (xs.map fun q => keysD q.1) vs) ((List.zip xs us).map fun p => if p.1.1 = k then v else p.2)
  | [], us, vs, _, h => by
    simp only [List.map_nil, List.zipWith_nil_left, List.zip_nil_left]
    exact Reps.nil
  | x :: xs, us, vs, hl, h => by
    cases vs with
    | nil =>
      rw [Reps] at h
      subst h
      cases hl
    | cons d ds =>
      rw [Reps] at h
      obtain ⟨u, us', rfl, h1, h2⟩ := h
      rw [List.map_cons, List.zipWith_cons_cons, List.zip_cons_cons, List.map_cons]
      refine Reps.cons ?_ (putX_reps hy (by simpa using hl) h2)
      have eq : D.eq (keysD x.1) (keysD k) = decide (x.1 = k) := by unfold keysD; rw [D.eq, keysD_eq]
      rw [eq]
      by_cases z : x.1 = k
      · rw [decide_eq_true z, if_pos z]; exact hy
      · rw [decide_eq_false z, if_neg z]; exact h1
theorem vals_snoc {us : List V} {ws : List Value} {v : V} {u : Value} (h : L2.Vals us ws) (r : L2.RelV v u) : L2.Vals (us ++ [v]) (ws ++ [u]) := h.append (.cons r .nil)
theorem keysD_eq' (a b : List Key) : D.eq (keysD a) (keysD b) = decide (a = b) := by unfold keysD; rw [D.eq, keysD_eq]

/-- what a store asks -/
def rPut (X : Cx) : L2.TSet := fun o i v H Q => L2.rSetL o i v H Q ∨ rSetX X.prog X.w X.K o i v H Q ∨ rSetK o i v H Q
theorem set_all {k : Nat} (hr : Room k X.A) : PSet X (rPut X) := set_or L2.set_list (set_or (set_dictX (by have := hr.un; omega)) (set_dictK (by have := hr.un; omega)))
theorem put_ok' {x y v : D} {ox iy vv : V} {R : Unit → Wl → Store → Hp → Prop} (hZ : Z.P = X.prog ∧ Z.w = X.w) (s : SRel X.K Z w H S) (hx : Rep X.K Z w H x ox) (hy : Rep X.K Z w H y iy) (hv : Rep X.K Z w H v vv) (h : Aft X.K Z Wx w S H (putAt x y v) R)
    {Q : Hp → Prop} (hQ : ∀ S' H', Post X.K w H w H' → SRel X.K Z w H' S' → R () w S' H' → Q H') : rPut X ox iy vv H Q := by
  cases x with
  | ref n =>
    cases e : S[n]? with
    | none => exact (h.bad (by unfold putAt; simp only [e])).elim
    | some ob =>
      cases ob with
      | lst xs =>
        obtain ⟨a, rfl, e1, us, e2, e3⟩ := s.at_ hx e (fun z => by cases z)
        cases y with
        | int k =>
          rw [rep_int] at hy
          cases e4 : ix xs.length k with
          | none => exact (h.bad (by unfold putAt; simp only [e, e4])).elim
          | some j =>
            have ps := s.post (u := .lst (us.set j vv)) e1
            have s' := s.write (u := .lst (us.set j vv)) (o := .lst (xs.set j v)) e1 ⟨us.set j vv, upd_same, Reps.mono ps.toExt (Reps.set hv j e3)⟩
            refine .inl ⟨a, us, k, j, rfl, hy, e2, by rw [ix_eq, ← Reps.len e3]; exact e4, hQ _ _ ps s' (h.ok (a := ()) (by unfold putAt; simp only [e, e4]) w _ ps s')⟩
        | _ => exact (h.bad (by unfold putAt; simp only [e])).elim
      | dict t ks vs =>
        obtain ⟨a, rfl, e1, e2⟩ := s.at_ hx e (fun z => by cases z)
        by_cases hc : (keyOk t y && decide (ks.length < line)) = true
        case neg => exact (h.bad (by unfold putAt; simp only [e]; rw [if_neg hc])).elim
        have hf : putAt (.ref n) y v S = .ok () (S.set n (.dict t (putK ks vs y v).1 (putK ks vs y v).2)) := by unfold putAt; simp only [e]; rw [if_pos hc]
        rw [Bool.and_eq_true, decide_eq_true_eq] at hc
        have fin : ∀ u, ORep X.K Z w (upd H a u) a (.dict t (putK ks vs y v).1 (putK ks vs y v).2) → Q (upd H a u) := fun u hu => by
          have ps := s.post (u := u) e1
          have s' := s.write e1 hu
          exact hQ _ _ ps s' (h.ok hf w _ ps s')
        rcases e2 with ⟨rfl, xs, us, h1, rfl, h3, h4, h5⟩ | ⟨rfl, kvs, h1, rfl, h3⟩
        · obtain ⟨k, b, rfl, rfl, hb⟩ := keys_of_tup hc.1 hy
          rw [List.length_map] at hc
          refine .inr (.inl ⟨a, xs, k, b, rfl, rfl, by rw [← hZ.1, ← hZ.2]; exact h1, h3, hb, lt_size hc.2, fun u ru => ?_⟩)
          rw [← hZ.1, ← hZ.2]
          refine fin _ (.inl ⟨rfl, putX xs k b u, ?_⟩)
          have ps := s.post (u := dTx Z.P Z.w a (putX xs k b u)) e1
          have hany := any_key (f := keysD) keysD_eq' (k := k) xs
          have hlen : us.length = xs.length := by rw [h4.length, List.length_map]
          unfold putK
          cases ha : xs.any fun kv => decide (kv.1 = k) with
          | true =>
            rw [ha] at hany
            rw [if_pos hany]
            have hat : (atKey xs k).isSome = true := by
              unfold atKey
              rw [Option.isSome_map, List.find?_isSome]
              rw [List.any_eq_true] at ha
              obtain ⟨q, q1, q2⟩ := ha
              exact ⟨q, q1, q2⟩
            have epx : putX xs k b u = xs.map (PySem.putAt k u) := by unfold putX storedH; rw [if_pos hat]
            refine ⟨_, upd_same, ?_, ?_, by rw [epx]; exact putX_vals ru h4, Reps.mono ps.toExt (putX_reps hv hlen h5)⟩
            · rw [epx, List.map_map]
              refine List.map_congr_left fun p _ => ?_
              show keysD p.1 = keysD (PySem.putAt k u p).1
              unfold PySem.putAt
              split <;> rfl
            · intro q hq
              rw [epx] at hq
              obtain ⟨p, hp, rfl⟩ := List.mem_map.mp hq
              have := h3 p hp
              unfold PySem.putAt
              split <;> exact ps.tup _ _ this
          | false =>
            rw [ha] at hany
            rw [if_neg (by rw [hany]; exact Bool.false_ne_true)]
            have hat : (atKey xs k).isSome = false := by
              unfold atKey
              rw [Option.isSome_map]
              cases hfind : xs.find? fun x => decide (x.1 = k) with
              | none => rfl
              | some q =>
                have h1 := List.find?_some hfind
                have h2 := List.mem_of_find?_eq_some hfind
                rw [List.any_eq_false] at ha
                exact absurd h1 (ha q h2)
            have epx : putX xs k b u = xs ++ [(k, b, u)] := by unfold putX storedH; rw [if_neg (by rw [hat]; exact Bool.false_ne_true)]
            refine ⟨us ++ [vv], upd_same, ?_, ?_, by rw [epx, List.map_append]; exact vals_snoc h4 ru, Reps.mono ps.toExt (Reps.app h5 (Reps.one hv))⟩
            · rw [epx, List.map_append]; rfl
            · intro q hq
              rw [epx] at hq
              rcases List.mem_append.mp hq with hq | hq
              · exact ps.tup _ _ (h3 q hq)
              · rw [List.mem_singleton] at hq
                subst hq
                exact ps.tup _ _ hb
        · obtain ⟨k, rfl, rfl⟩ := key_of_int hc.1 hy
          rw [List.length_map] at hc
          refine .inr (.inr ⟨a, _, rfl, L2.DPut.k h1 (lt_size hc.2), ?_⟩)
          have ps := s.post (u := .dK (L2.putK kvs k vv)) e1
          have key : (putK (kvs.map fun p => keyD p.1) vs (keyD k) v).1 = (L2.putK kvs k vv).map (fun p => keyD p.1) ∧ Reps X.K Z w H (putK (kvs.map fun p => keyD p.1) vs (keyD k) v).2 ((L2.putK kvs k vv).map (·.2)) := by
            have hany := any_key (f := keyD) keyD_eq (k := k) kvs
            unfold putK L2.putK
            cases ha : kvs.any fun kv => decide (kv.1 = k) with
            | true =>
              rw [ha] at hany
              rw [if_pos hany, if_pos rfl]
              exact ⟨(map_keep kvs).symm, putK_rep keyD_eq hv h3⟩
            | false =>
              rw [ha] at hany
              rw [if_neg (by rw [hany]; exact Bool.false_ne_true), if_neg Bool.false_ne_true]
              exact ⟨by rw [List.map_append]; rfl, by rw [List.map_append]; exact Reps.app h3 (Reps.one hv)⟩
          exact fin _ (.inr ⟨rfl, L2.putK kvs k vv, upd_same, key.1, Reps.mono ps.toExt key.2⟩)
      | _ => exact (h.bad (by unfold putAt; simp only [e])).elim
  | _ => exact (h.bad rfl).elim
/-- an instance's attributes behind a store -/
theorem setF_rep {f : Nat} {d : D} {v : V} (hF : ∀ m n, Z.fN m = Z.fN n → m = n) (hd : Rep K Z w H d v) : ∀ {ns : List Nat} {vs : List D} {fs : List (Str × V)}, fs.map (·.1) = ns.map Z.fN → Reps K Z w H vs (fs.map (·.2)) →
    (L2.putF (Z.fN f) v fs).map (·.1) = (setF f d ns vs).1.map Z.fN ∧ Reps K Z w H (setF f d ns vs).2 ((L2.putF (Z.fN f) v fs).map (·.2))
  | [], vs, fs, h, q => by
    cases fs with
    | nil =>
      cases vs with
      | nil => exact ⟨rfl, Reps.one hd⟩
      | cons d ds => rw [List.map_nil, Reps] at q; obtain ⟨_, _, e, _⟩ := q; cases e
    | cons y fs => cases h
  | n :: ns, vs, fs, h, q => by
    cases fs with
    | nil => cases h
    | cons y fs =>
      cases vs with
      | nil => rw [List.map_cons, Reps] at q; cases q
      | cons d' ds =>
        rw [List.map_cons, Reps] at q
        obtain ⟨u, us, e, h1, h2⟩ := q
        cases e
        simp only [List.map_cons, List.cons.injEq] at h
        obtain ⟨y1, y2⟩ := y
        have h0 : y1 = Z.fN n := h.1
        subst h0
        rw [setF]
        unfold L2.putF
        by_cases z : n = f
        · subst z
          rw [if_pos rfl, if_pos rfl]
          exact ⟨by simp [h.2], Reps.cons hd h2⟩
        · rw [if_neg z, if_neg fun e => z (hF _ _ e)]
          obtain ⟨g1, g2⟩ := setF_rep hF hd h.2 h2
          exact ⟨by rw [List.map_cons, g1]; rfl, Reps.cons h1 g2⟩
end EV
end
section
set_option Elab.async false
set_option linter.all false
set_option maxRecDepth 100000
set_option maxHeartbeats 4000000
/-! EV, part r: statements. -/
namespace EV
open L2 (V HO Hp upd upd_same upd_ne SqT SqL Rd Key Cx Ends TE TT TA TS TG TGs TI PE PT PA PS PSs PG PGs PI VK XK WX PC OpR R2 CallR FnOk Room Gl Binds PassesAt CXT It Walk Itl Itt Itr Loc PTs PSet)
open PySem PySem.Spec

variable {K : PySem.W.Frag} {Z : Zt} {w w1 : Wl} {H H1 : Hp} {S S1 : Store} {r : Env} {σ : L2.St} {α β : Type} {Wx : Value → Option Addr → Hp → Prop}
variable {call : Nat → List D → M D} {gl : List D} {X : Cx} {W : WX} {Q : VK} {CX : CXT}

/-- what a statement's end asks -/
def AftR (K : PySem.W.Frag) (Z : Zt) (W : WX) (w : Wl) (H : Hp) (rs : RS) (D : Ends) : Prop :=
  match rs with
  | .ok (.nx r') S' => ∀ w' H' σ', Post K w H w' H' → SRel K Z w' H' S' → ERel K Z w' H' r' σ' → D.nx σ' H'
  | .ok (.rt d) S' => ∀ w' H' v, Post K w H w' H' → SRel K Z w' H' S' → Rep K Z w' H' d v → D.rt v H'
  | .ok (.bk r') S' => ∀ w' H' σ', Post K w H w' H' → SRel K Z w' H' S' → ERel K Z w' H' r' σ' → D.bk σ' H'
  | .ok (.ct r') S' => ∀ w' H' σ', Post K w H w' H' → SRel K Z w' H' S' → ERel K Z w' H' r' σ' → D.ct σ' H'
  | .exc c ns vs r' S' => ∀ w' H' σ' d, Post K w H w' H' → SRel K Z w' H' S' → ERel K Z w' H' r' σ' → ExcD K Z w' H' ns vs d → W (.ref (Z.cA c)) d σ' H'
  | .bad => False
theorem AftR.mono {rs : RS} {D : Ends} (h : AftR K Z W w H rs D) (p : Post K w H w1 H1) : AftR K Z W w1 H1 rs D := by
  unfold AftR at h ⊢
  cases rs with
  | ok f S' => cases f with
    | nx r' => exact fun w' H' σ' q => h w' H' σ' (p.trans q)
    | rt d => exact fun w' H' v q => h w' H' v (p.trans q)
    | bk r' => exact fun w' H' σ' q => h w' H' σ' (p.trans q)
    | ct r' => exact fun w' H' σ' q => h w' H' σ' (p.trans q)
  | exc c ns vs r' S' => exact fun w' H' σ' d q => h w' H' σ' d (p.trans q)
  | bad => exact h
section
variable (Z) (call : Nat → List D → M D) (gl : List D)
def tS (X : Cx) (W : WX) (s : EV.S) : TS := fun D σ H => ∃ w S r, Rel X.K Z w H S r σ ∧ AftR X.K Z W w H (evalS call gl s r S) D
def tSs (X : Cx) (W : WX) (s : Ss) : TS := fun D σ H => ∃ w S r, Rel X.K Z w H S r σ ∧ AftR X.K Z W w H (evalSs call gl s r S) D
end
/-- an expression, then the rest -/
theorem lift_step {m : M α} {k : α → MS} {D : Ends} (rel : Rel K Z w H S r σ) (h : AftR K Z W w H (lift m r k S) D) :
    Aft K Z (fun c d H => W c d σ H) w S H m fun a w1 S1 H1 => AftR K Z W w1 H1 (k a S1) D := by
  unfold lift at h
  unfold Aft
  cases e : m S with
  | ok a S1 =>
    simp only [e] at h
    exact fun w1 H1 p q => h.mono p
  | exc c ns vs S1 =>
    simp only [e] at h
    exact fun w' H' d p q x => h w' H' σ d p q (rel.e.mono p.toExt) x
  | bad =>
    simp only [e] at h
    exact h
theorem imp_ps {st : Stmt} {t t' : TS} (h : PS X st t) (f : ∀ D σ H, t' D σ H → t D σ H) : PS X st t' := ⟨fun pins s σ H D I z => h.run pins s σ H D I (f D σ H z)⟩
theorem imp_pss {st : List Stmt} {t t' : TS} (h : PSs X st t) (f : ∀ D σ H, t' D σ H → t D σ H) : PSs X st t' := ⟨fun pins s σ H D I z => h.run pins s σ H D I (f D σ H z)⟩
theorem AftR.nx {D : Ends} {r' : Env} (h : AftR K Z W w H (.ok (.nx r') S) D) (s : SRel K Z w H S) {σ' : L2.St} (e : ERel K Z w H r' σ') : D.nx σ' H := h w H σ' Post.rfl s e
variable {st : Stmt} {sts : List Stmt} {ps : EV.S} {pss : Ss} {e a b c o tg : Expr} {pe pa pb pc po : E} {pes : Es} {pos p p2 p3 apos : Pos} {t : T}

theorem ss_nil : PSs X [] (tSs Z call gl X W .nil) := imp_pss L2.pss_nil fun D σ H ⟨w, S, r, rel, h⟩ => by
  rw [evalSs] at h
  exact AftR.nx h rel.s rel.e
theorem ss_cons (h1 : PS X st (tS Z call gl X W ps)) (h2 : PSs X sts (tSs Z call gl X W pss)) : PSs X (st :: sts) (tSs Z call gl X W (.cons ps pss)) :=
  imp_pss (L2.pss_cons h1 h2) fun D σ H ⟨w, S, r, rel, h⟩ => by
    rw [evalSs] at h
    refine ⟨w, S, r, rel, ?_⟩
    unfold MS.then at h
    cases e : evalS call gl ps r S with
    | ok f S1 =>
      simp only [e] at h
      cases f with
      | nx r' => exact fun w' H' σ' p q x => ⟨w', S1, r', ⟨q, x⟩, h.mono p⟩
      | rt d => exact h
      | bk r' => exact h
      | ct r' => exact h
    | exc c ns vs r' S1 => simp only [e] at h; exact h
    | bad => simp only [e] at h; exact h.elim
theorem st_pass : PS X (.Pass pos) (tS Z call gl X W .pass) := imp_ps L2.ps_pass fun D σ H ⟨w, S, r, rel, h⟩ => by
  rw [evalS] at h
  exact AftR.nx h rel.s rel.e
theorem st_brk : PS X (.Break pos) (tS Z call gl X W .brk) := imp_ps L2.ps_break fun D σ H ⟨w, S, r, rel, h⟩ => by
  rw [evalS] at h
  exact h w H σ Post.rfl rel.s rel.e
theorem st_cont : PS X (.Continue pos) (tS Z call gl X W .cont) := imp_ps L2.ps_continue fun D σ H ⟨w, S, r, rel, h⟩ => by
  rw [evalS] at h
  exact h w H σ Post.rfl rel.s rel.e
theorem st_never : PS X st (tS Z call gl X W .never) := ⟨fun _ _ _ _ _ _ ⟨_, _, _, _, h⟩ => by rw [evalS] at h; exact h.elim⟩
/-- no comprehension -/
def noComp : Expr → Bool
  | .ListComp .. => false | .SetComp .. => false | .DictComp .. => false | _ => true
theorem sw_none {env : PySem.Env} {l : Nat} {tt : Option Expr} (h : noComp e = true) : swapsWith e tt l env = pure false := by
  cases e <;> first | rfl | cases h
theorem st_expr (hn : noComp e = true) (he : PE X e (tE Z call gl X W pe)) : PS X (.Expr e pos) (tS Z call gl X W (.expr pe)) :=
  imp_ps (L2.ps_expr he (sw_none hn)) fun D σ H ⟨w, S, r, rel, h⟩ => by
    rw [evalS] at h
    exact ⟨w, S, r, rel, (lift_step rel h).imp fun d w1 S1 H1 p1 s1 q v hv => AftR.nx q s1 (rel.e.mono p1.toExt)⟩
theorem st_ret (he : PE X e (tE Z call gl X W pe)) : PS X (.Return (some e) pos) (tS Z call gl X W (.ret pe)) :=
  imp_ps (L2.ps_ret he) fun D σ H ⟨w, S, r, rel, h⟩ => by
    rw [evalS] at h
    exact ⟨w, S, r, rel, (lift_step rel h).imp fun d w1 S1 H1 p1 s1 q v hv => q w1 H1 v Post.rfl s1 hv⟩
theorem st_retN : PS X (.Return none pos) (tS Z call gl X W .retN) :=
  imp_ps L2.ps_retN fun D σ H ⟨w, S, r, rel, h⟩ => by
    rw [evalS] at h
    exact h w H .non Post.rfl rel.s (by rw [Rep])
theorem st_if {x y : List Stmt} {px py : Ss} (hc : PT X c (tB Z call gl X W pc)) (hx : PSs X x (tSs Z call gl X W px)) (hy : PSs X y (tSs Z call gl X W py)) : PS X (.If c x y pos) (tS Z call gl X W (.if_ pc px py)) :=
  imp_ps (L2.ps_if hc hx hy) fun D σ H ⟨w, S, r, rel, h⟩ => by
    rw [evalS] at h
    refine ⟨w, S, r, rel, (lift_step rel h).imp fun t w1 S1 H1 p1 s1 q => ?_⟩
    cases t with
    | true =>
      simp only [if_true]
      exact ⟨w1, S1, r, ⟨s1, rel.e.mono p1.toExt⟩, q⟩
    | false =>
      simp only [if_neg Bool.false_ne_true]
      exact ⟨w1, S1, r, ⟨s1, rel.e.mono p1.toExt⟩, q⟩
/-! ### assignments -/
/-- a value that is told, stored -/
theorem bind_step {d : D} {D : Ends} {v : V} (rel : Rel K Z w H S r σ) (h : AftR K Z W w H ((match t.bind d r with | some r' => MS.ok (.nx r') | none => MS.no) S) D) (hv : Rep K Z w H d v) : tG K Z t v σ H D.nx := by
  cases e : t.bind d r with
  | none => simp only [e] at h; exact h.elim
  | some r' =>
    simp only [e] at h
    exact ⟨w, r, d, r', rel.e, hv, e, fun σ' er _ => AftR.nx h rel.s er⟩
theorem st_asg (hg : PG X tg (tG X.K Z t)) (he : PE X e (tE Z call gl X W pe)) (hs : swapsWithSole [tg] e pos.line X.env = pure false) (hw : swappedStores [tg] e X.env = pure none) (hn : noStar tg = true) : PS X (.Assign [tg] e pos) (tS Z call gl X W (.asg t pe)) :=
  imp_ps (L2.ps_asg he hg hs hw (asg_cons hn)) fun D σ H ⟨w, S, r, rel, h⟩ => by
    rw [evalS] at h
    exact ⟨w, S, r, rel, (lift_step rel h).imp fun d w1 S1 H1 p1 s1 q v hv => bind_step ⟨s1, rel.e.mono p1.toExt⟩ q hv⟩
theorem name_step {i : Nat} {d : D} {D : Ends} {v : V} (rel : Rel K Z w H S r σ) (h : AftR K Z W w H ((match (T.name i).bind d r with | some r' => MS.ok (.nx r') | none => MS.no) S) D) (hv : Rep K Z w H d v) : D.nx (σ.set i (some v)) H := by
  cases e : (T.name i).bind d r with
  | none => simp only [e] at h; exact h.elim
  | some r' =>
    simp only [e] at h
    rw [T.bind] at e
    split at e
    · cases e
      exact AftR.nx h rel.s (erel_set rel.e hv)
    · cases e
theorem st_set {i : Nat} {x : Str} (hN : X.N.Nodup) (hi : X.N[i]? = some x) (hx : Loc X.env.scope x) (hf : X.fn x = true ∨ X.env.scope.names.lookup x = some .local) (he : PE X e (tE Z call gl X W pe)) (hs : swapsWith e (some (.Name x p)) pos.line X.env = pure false) :
    PS X (.Assign [.Name x p] e pos) (tS Z call gl X W (.asg (.name i) pe)) :=
  imp_ps (L2.ps_set hN hi hx he hs hf) fun D σ H ⟨w, S, r, rel, h⟩ => by
    rw [evalS] at h
    exact ⟨w, S, r, rel, (lift_step rel h).imp fun d w1 S1 H1 p1 s1 q v hv => name_step ⟨s1, rel.e.mono p1.toExt⟩ q hv⟩
/-- a list display's or a comprehension's value, named: as a tree, or as an object of the store -/
theorem fl_reads {l : L} {k : D → MS} {D : Ends} (rel : Rel X.K Z w H S r σ) {nw : Bool} (h : AftR X.K Z W w H (lift (evalE call gl (if nw then .nw l else .fl l) r) r k S) D) {R : VK}
    (f : ∀ d v w1 S1 H1, Post X.K w H w1 H1 → SRel X.K Z w1 H1 S1 → Rep X.K Z w1 H1 d v → AftR X.K Z W w1 H1 (k d S1) D → R v H1) : tL Z call gl X W l σ H R := by
  have h := lift_step rel h
  cases nw with
  | false =>
    rw [if_neg Bool.false_ne_true, evalE] at h
    refine ⟨w, S, r, rel, h.seq.imp fun ds w1 S1 H1 p1 s1 q p xs hn hp hx sr rr => ?_⟩
    exact f _ _ w1 S1 H1 p1 s1 (by rw [Rep]; exact ⟨p, xs, rfl, out_of_hidden sr hp, hx, Reps.mono Ext.unhide rr⟩) (q.ret s1)
  | true =>
    rw [if_pos rfl, evalE] at h
    refine ⟨w, S, r, rel, h.seqD.imp fun ds w1 S1 H1 p1 s1 q p xs hn hp hx sr rr => ?_⟩
    have sp := SRel.push (o := .lst ds) sr hp ⟨xs, hx, rr⟩
    have pp := p1.push hn
    exact f _ _ (w1.push p) _ H1 pp sp (rep_pushed s1.len) (q _ _ pp sp)
theorem st_par {i j : Nat} {x y : Str} {e1 e2 : Expr} {px py pt : Pos} {kt k2 : Nat} {pt2 : Pos} (hc : X.calm = true) (hN : X.N.Nodup) (hi : X.N[i]? = some x) (hj : X.N[j]? = some y) (hij : i ≠ j)
    (hx : X.env.scope.names.lookup x = some .local) (hy : X.env.scope.names.lookup y = some .local) (ha : PA X [e1, e2] (tEs Z call gl X W pes))
    (hw : swappedStores [.Tuple [.Name x px, .Name y py] kt pt] (.Tuple [e1, e2] k2 pt2) X.env = pure (some [x, y])) :
    PS X (.Assign [.Tuple [.Name x px, .Name y py] kt pt] (.Tuple [e1, e2] k2 pt2) pos) (tS Z call gl X W (.asg (.pair (.name i) (.name j)) (.tup pes))) :=
  imp_ps (L2.ps_par hc hN hi hj hij hx hy ha hw rfl) fun D σ H ⟨w, S, r, rel, h⟩ => by
    rw [evalS] at h
    have h := lift_step rel h
    rw [evalE] at h
    refine ⟨w, S, r, rel, h.seq.imp fun ds w1 S1 H1 p1 s1 q vs hvs => ?_⟩
    split at q
    case isFalse => exact q.no.elim
    have q := q.ret s1
    have er := rel.e.mono p1.toExt
    match ds, hvs, q with
    | [], _, q => exact q.elim
    | [_], _, q => exact q.elim
    | _ :: _ :: _ :: _, _, q => exact q.elim
    | [d1, d2], hvs, q =>
      obtain ⟨v, u, rfl, q1, q2⟩ := reps2 hvs
      refine ⟨v, u, rfl, ?_⟩
      cases e : (T.pair (.name i) (.name j)).bind (.tup [d1, d2]) r with
      | none => simp only [e] at q; exact q.elim
      | some r' =>
        simp only [e] at q
        have e' : ((T.name i).bind d1 r).bind (fun r => (T.name j).bind d2 r) = some r' := e
        obtain ⟨r1, b1, b2⟩ := Option.bind_eq_some_iff.mp e'
        rw [T.bind] at b1 b2
        split at b1
        · cases b1
          split at b2
          · cases b2
            exact AftR.nx q s1 (erel_set (erel_set er q1) q2)
          · cases b2
        · cases b1
theorem st_par3 {i j l : Nat} {x y z : Str} {e1 e2 e3 : Expr} {px py pz pt : Pos} {kt k2 : Nat} {pt2 : Pos} (hc : X.calm = true) (hN : X.N.Nodup) (hi : X.N[i]? = some x) (hj : X.N[j]? = some y) (hl : X.N[l]? = some z) (hij : i ≠ j) (hil : i ≠ l) (hjl : j ≠ l)
    (hx : X.env.scope.names.lookup x = some .local) (hy : X.env.scope.names.lookup y = some .local) (hz : X.env.scope.names.lookup z = some .local) (ha : PA X [e1, e2, e3] (tEs Z call gl X W pes))
    (hw : swappedStores [.Tuple [.Name x px, .Name y py, .Name z pz] kt pt] (.Tuple [e1, e2, e3] k2 pt2) X.env = pure (some [x, y, z])) :
    PS X (.Assign [.Tuple [.Name x px, .Name y py, .Name z pz] kt pt] (.Tuple [e1, e2, e3] k2 pt2) pos) (tS Z call gl X W (.asg (.tri (.name i) (.name j) (.name l)) (.tup pes))) :=
  imp_ps (L2.ps_par3 hc hN hi hj hl hij hil hjl hx hy hz ha hw rfl) fun D σ H ⟨w, S, r, rel, h⟩ => by
    rw [evalS] at h
    have h := lift_step rel h
    rw [evalE] at h
    refine ⟨w, S, r, rel, h.seq.imp fun ds w1 S1 H1 p1 s1 q vs hvs => ?_⟩
    split at q
    case isFalse => exact q.no.elim
    have q := q.ret s1
    have er := rel.e.mono p1.toExt
    match ds, hvs, q with
    | [], _, q => exact q.elim
    | [_], _, q => exact q.elim
    | [_, _], _, q => exact q.elim
    | _ :: _ :: _ :: _ :: _, _, q => exact q.elim
    | [d1, d2, d3], hvs, q =>
      obtain ⟨v, u, z, rfl, q1, q2, q3⟩ := reps3 hvs
      refine ⟨v, u, z, rfl, ?_⟩
      cases e : (T.tri (.name i) (.name j) (.name l)).bind (.tup [d1, d2, d3]) r with
      | none => simp only [e] at q; exact q.elim
      | some r' =>
        simp only [e] at q
        have e' : (((T.name i).bind d1 r).bind (fun r => (T.name j).bind d2 r)).bind (fun r => (T.name l).bind d3 r) = some r' := e
        obtain ⟨r2, b1, b3⟩ := Option.bind_eq_some_iff.mp e'
        obtain ⟨r1, b1, b2⟩ := Option.bind_eq_some_iff.mp b1
        rw [T.bind] at b1 b2 b3
        split at b1
        · cases b1
          split at b2
          · cases b2
            split at b3
            · cases b3
              exact AftR.nx q s1 (erel_set (erel_set (erel_set er q1) q2) q3)
            · cases b3
          · cases b2
        · cases b1
end EV
end
section
set_option Elab.async false
set_option linter.all false
set_option maxRecDepth 100000
set_option maxHeartbeats 4000000
/-! EV, part s: statements: comprehensions named, items and attributes stored, loops. -/
namespace EV
open L2 (V HO Hp upd upd_same upd_ne SqT SqL Rd Key Cx Ends TE TT TA TS TG TGs TI PE PT PA PS PSs PG PGs PI VK XK WX PC OpR R2 CallR FnOk Room Gl Binds PassesAt CXT It Walk Itl Itt Itr Loc PTs PSet)
open PySem PySem.Spec

variable {K : PySem.W.Frag} {Z : Zt} {w w1 : Wl} {H H1 : Hp} {S S1 : Store} {r : Env} {σ : L2.St} {α β : Type} {Wx : Value → Option Addr → Hp → Prop}
variable {call : Nat → List D → M D} {gl : List D} {X : Cx} {W : WX} {Q : VK} {CX : CXT}
variable {st : Stmt} {sts : List Stmt} {ps : EV.S} {pss : Ss} {e a b c o tg i o2 i2 e1 e2 : Expr} {pe pa pb pc po pi po2 pi2 : E} {pes : Es} {pos p p2 p3 apos : Pos} {t : T}

def fn? (nw : Bool) (l : L) : E := if nw then .nw l else .fl l
section
variable {elt tg iter tg1 iter1 : Expr} {ifs ifs1 : List Expr} {scope : Scope} {own : List (Str × Nat)} {vs1 : List Nat} {t t1 : T} {i i1 : I} {cs cs1 : Es} {y : Str} {py spos : Pos} {j : Nat} {nw : Bool}
theorem st_setLc (hc : X.calm = true) (hN : X.N.Nodup) (hy : X.N[j]? = some y) (hyl : X.env.scope.names.lookup y = some .local) (hk : X.env.scope.kind = .function) (hl : (py.line == pos.line) = true)
    (hb : (scope.names.any fun (n, k) => n == y && (k == .local || k == .cell)) = false) (hi : PI X tg iter (tI Z call gl X W i)) (ok : L2.BlkOk X.N X.env.scope scope own)
    (hg : ∀ (s : Shared) (H : Hp) (C : Addr) (cl : List (Str × Addr)) (fp : List Addr), PG (X.blk s H scope (compEnvC scope cl C X.env) fp) tg (tG X.K Z t)) (ht : ∀ (s : Shared) (H : Hp) (C : Addr) (cl : List (Str × Addr)) (fp : List Addr), PTs (X.blk s H scope (compEnvC scope cl C X.env) fp) ifs (tC Z call gl X.K cs))
    (he : ∀ (s : Shared) (H : Hp) (C : Addr) (cl : List (Str × Addr)) (fp : List Addr), PE (X.blk s H scope (compEnvC scope cl C X.env) fp) elt (tE Z call gl X NoW pe)) (hs : ∀ x, foldedSetIterable iter X.env x = pure x) (hsl : ∀ j ∈ t.slots, j ∈ own.map (·.2)) :
    PS X (.Assign [.Name y py] (.ListComp elt [⟨tg, iter, ifs, 0⟩] scope pos) spos) (tS Z call gl X W (.asg (.name j) (fn? nw (.comp pe (own.map (·.2)) t i cs)))) :=
  imp_ps (L2.ps_setLc hc hN hy hyl (L2.sw_true hk hyl hl hb) hi ok hg ht he hs) fun D σ H ⟨w, S, r, rel, h⟩ => by
    rw [evalS] at h
    exact (l_comp (pos := pos) hc hN hi ok hg ht he hs hsl).1 σ H _ (fl_reads rel h fun d v w1 S1 H1 p1 s1 hv q => name_step ⟨s1, rel.e.mono p1.toExt⟩ q hv)
theorem st_setLc2 (hc : X.calm = true) (hN : X.N.Nodup) (hy : X.N[j]? = some y) (hyl : X.env.scope.names.lookup y = some .local) (hk : X.env.scope.kind = .function) (hl : (py.line == pos.line) = true)
    (hb : (scope.names.any fun (n, k) => n == y && (k == .local || k == .cell)) = false) (hi : PI X tg iter (tI Z call gl X W i)) (ok : L2.BlkOk X.N X.env.scope scope own) (hv : ∀ i ∈ vs1, i ∈ own.map (·.2))
    (hg : ∀ (s : Shared) (H : Hp) (C : Addr) (cl : List (Str × Addr)) (fp : List Addr), PG (X.blk s H scope (compEnvC scope cl C X.env) fp) tg (tG X.K Z t)) (ht : ∀ (s : Shared) (H : Hp) (C : Addr) (cl : List (Str × Addr)) (fp : List Addr), PTs (X.blk s H scope (compEnvC scope cl C X.env) fp) ifs (tC Z call gl X.K cs))
    (hi1 : ∀ (s : Shared) (H : Hp) (C : Addr) (cl : List (Str × Addr)) (fp : List Addr), PI (X.blk s H scope (compEnvC scope cl C X.env) fp) tg1 iter1 (tI Z call gl X NoW i1))
    (hg1 : ∀ (s : Shared) (H : Hp) (C : Addr) (cl : List (Str × Addr)) (fp : List Addr), PG (X.blk s H scope (compEnvC scope cl C X.env) fp) tg1 (tG X.K Z t1)) (ht1 : ∀ (s : Shared) (H : Hp) (C : Addr) (cl : List (Str × Addr)) (fp : List Addr), PTs (X.blk s H scope (compEnvC scope cl C X.env) fp) ifs1 (tC Z call gl X.K cs1))
    (he : ∀ (s : Shared) (H : Hp) (C : Addr) (cl : List (Str × Addr)) (fp : List Addr), PE (X.blk s H scope (compEnvC scope cl C X.env) fp) elt (tE Z call gl X NoW pe)) (hs : ∀ x, foldedSetIterable iter X.env x = pure x) (hs1 : ∀ env x, foldedSetIterable iter1 env x = pure x)
    (hsl : ∀ j ∈ t.slots, j ∈ own.map (·.2)) (hsl1 : ∀ j ∈ t1.slots, j ∈ vs1) :
    PS X (.Assign [.Name y py] (.ListComp elt [⟨tg, iter, ifs, 0⟩, ⟨tg1, iter1, ifs1, 0⟩] scope pos) spos) (tS Z call gl X W (.asg (.name j) (fn? nw (.comp2 pe (own.map (·.2)) vs1 t i cs t1 i1 cs1)))) :=
  imp_ps (L2.ps_setLc2 hc hN hy hyl (L2.sw_true hk hyl hl hb) hi ok hv hg ht hi1 hg1 ht1 he hs hs1) fun D σ H ⟨w, S, r, rel, h⟩ => by
    rw [evalS] at h
    exact (l_comp2 (pos := pos) hc hN hi ok hv hg ht hi1 hg1 ht1 he hs hs1 hsl hsl1).1 σ H _ (fl_reads rel h fun d v w1 S1 H1 p1 s1 hv q => name_step ⟨s1, rel.e.mono p1.toExt⟩ q hv)
end
theorem st_setLcR {elt tg iter : Expr} {ifs : List Expr} {scope : Scope} {own : List (Str × Nat)} {t : T} {a : E} {cs : Es} {y : Str} {py spos : Pos} {j : Nat} {nw : Bool} (hc : X.calm = true) (hN : X.N.Nodup) (hy : X.N[j]? = some y) (hyl : X.env.scope.names.lookup y = some .local) (hk : X.env.scope.kind = .function) (hl : (py.line == pos.line) = true)
    (hb : (scope.names.any fun (n, k) => n == y && (k == .local || k == .cell)) = false) (hi : PE X iter (tE Z call gl X W a)) (ok : L2.BlkOk X.N X.env.scope scope own)
    (hg : ∀ (s : Shared) (H : Hp) (C : Addr) (cl : List (Str × Addr)) (fp : List Addr), PG (X.blk s H scope (compEnvC scope cl C X.env) fp) tg (tG X.K Z t)) (ht : ∀ (s : Shared) (H : Hp) (C : Addr) (cl : List (Str × Addr)) (fp : List Addr), PTs (X.blk s H scope (compEnvC scope cl C X.env) fp) ifs (tC Z call gl X.K cs))
    (he : ∀ (s : Shared) (H : Hp) (C : Addr) (cl : List (Str × Addr)) (fp : List Addr), PE (X.blk s H scope (compEnvC scope cl C X.env) fp) elt (tE Z call gl X NoW pe)) (hs : ∀ x, foldedSetIterable iter X.env x = pure x) (hsl : ∀ j ∈ t.slots, j ∈ own.map (·.2)) :
    PS X (.Assign [.Name y py] (.ListComp elt [⟨tg, iter, ifs, 0⟩] scope pos) spos) (tS Z call gl X W (.asg (.name j) (fn? nw (.compR pe (own.map (·.2)) t a cs)))) :=
  imp_ps (L2.ps_setLc hc hN hy hyl (L2.sw_true hk hyl hl hb) (pi_seq hi) ok hg ht he hs) fun D σ H ⟨w, S, r, rel, h⟩ => by
    rw [evalS] at h
    exact (l_compR (pos := pos) hc hN hi ok hg ht he hs hsl).1 σ H _ (fl_reads rel h fun d v w1 S1 H1 p1 s1 hv q => name_step ⟨s1, rel.e.mono p1.toExt⟩ q hv)
/-! ### items -/
theorem Aft.later {m : M α} {R : α → Wl → Store → Hp → Prop} (h : Aft K Z Wx w S H m R) (p : Post K w H w1 H1) : Aft K Z Wx w1 S H1 m R := by
  unfold Aft at h ⊢
  cases e : m S with
  | ok a S' => rw [e] at h; exact fun w' H' pp => h w' H' (p.trans pp)
  | exc c ns vs S' => rw [e] at h; exact fun w' H' d pp => h w' H' d (p.trans pp)
  | bad => rw [e] at h; exact h
theorem asg_sub (hi : notSlice i = true) : ∀ v, assign (.Subscript o i pos) X.env v = (do
      let ov ← holding [v] (eval o X.env)
      let iv ← holding [v, ov] (eval i X.env)
      standAt pos
      holding [v, ov, iv] (setItem ov iv v)
      release [v, ov, iv] []) := fun v => by
  cases i <;> first | rfl | cases hi
theorem sw_sub {env : PySem.Env} {l : Nat} : swapsWithSole [.Subscript o i p] e l env = pure false := by
  show swapsWith e (some (.Subscript o i p)) l env = pure false
  unfold swapsWith
  cases e <;> rfl
theorem sw_tup {es : List Expr} {k : Nat} {env : PySem.Env} {l : Nat} : swapsWithSole [.Tuple es k p] e l env = pure false := by
  show swapsWith e (some (.Tuple es k p)) l env = pure false
  unfold swapsWith
  cases e <;> rfl
theorem st_setI {k : Nat} (hni : notSlice i = true) (hr : Room k X.A) (hZ : Z.P = X.prog ∧ Z.w = X.w) (ho : PE X o (tE Z call gl X W po)) (hi : PE X i (tE Z call gl X W pi)) (he : PE X e (tE Z call gl X W pe)) :
    PS X (.Assign [.Subscript o i p] e pos) (tS Z call gl X W (.setI po pi pe)) :=
  imp_ps (L2.ps_asg he (L2.pg_sub ho hi (set_all hr) (asg_sub hni)) sw_sub (by unfold swappedStores; cases e <;> rfl) rfl) fun D σ H ⟨w, S, r, rel, h⟩ => by
    rw [evalS] at h
    have h := lift_step rel h
    refine tE_mono (tE_step rel h) fun v H1 ⟨x, w1, S1, r1, hx, p1, h1⟩ => ?_
    refine tE_mono (tE_step r1 h1) fun ov H2 ⟨y, w2, S2, r2, hy, p2, h2⟩ => ?_
    refine tE_mono (tE_step r2 h2) fun iv H3 ⟨z, w3, S3, r3, hz, p3, h3⟩ => ?_
    exact put_ok' hZ r3.s (Rep.mono p3 hy) hz (Rep.mono (p2.trans p3) hx) h3 fun S' H' ps s' q => AftR.nx q s' (r3.e.mono ps.toExt)
theorem st_set2 {k kt k2 : Nat} {pt pt2 p5 p6 : Pos} (hni : notSlice i = true) (hni2 : notSlice i2 = true) (hc : X.calm = true) (hr : Room k X.A) (hZ : Z.P = X.prog ∧ Z.w = X.w) (ho : PE X o (tE Z call gl X W po)) (hi : PE X i (tE Z call gl X W pi)) (ho2 : PE X o2 (tE Z call gl X W po2)) (hi2 : PE X i2 (tE Z call gl X W pi2)) (ha : PA X [e1, e2] (tEs Z call gl X W pes)) :
    PS X (.Assign [.Tuple [.Subscript o i p5, .Subscript o2 i2 p6] kt pt] (.Tuple [e1, e2] k2 pt2) pos) (tS Z call gl X W (.set2 po pi po2 pi2 pes)) := by
  have pg := L2.pg_tup (k := kt) (pos := pt) hc (L2.pgs_cons (L2.pg_sub (pos := p5) ho hi (set_all hr) (asg_sub hni)) (L2.pgs_cons (L2.pg_sub (pos := p6) ho2 hi2 (set_all hr) (asg_sub hni2)) L2.pgs_nil (asg_cons rfl)) (asg_cons rfl)) (asg_len rfl).1 (asg_len rfl).2
  have hw : swappedStores [.Tuple [.Subscript o i p5, .Subscript o2 i2 p6] kt pt] (.Tuple [e1, e2] k2 pt2) X.env = pure none := by
    unfold swappedStores
    simp only []
    split
    · rfl
    · split
      · rfl
      · rfl
  refine imp_ps (L2.ps_asg (L2.pe_tup ha) pg sw_tup hw rfl) fun D σ H ⟨w, S, r, rel, h⟩ => ?_
  rw [evalS] at h
  have h := lift_step rel h
  refine tEs_mono (tEs_step rel h) fun vs H1 ⟨xs, w1, S1, r1, hx, p1, h1⟩ => ?_
  match xs, hx, h1 with
  | [], _, h1 => exact h1.no.elim
  | [_], _, h1 => exact h1.no.elim
  | _ :: _ :: _ :: _, _, h1 => exact h1.no.elim
  | [v, v2], hx, h1 =>
    obtain ⟨u, u2, rfl, q1, q2⟩ := reps2 hx
    refine ⟨by show 2 ≤ sizeLine; rw [PySem.sizeLine_eq]; decide, fun q hq => ?_⟩
    have pn : Post X.K w1 H1 w1 (upd H1 q (.tup [u, u2])) := Post.new r1.s hq
    have r1' : Rel X.K Z w1 (upd H1 q (.tup [u, u2])) S1 r σ := ⟨r1.s.new hq, r1.e.mono pn.toExt⟩
    have h1 := h1.later pn
    have m1 := Rep.mono pn.toExt q1
    have m2 := Rep.mono pn.toExt q2
    refine ⟨q, [u, u2], rfl, .inl (.inl upd_same), rfl, u, [u2], rfl, ?_⟩
    refine tE_mono (tE_step r1' h1) fun ov H2 ⟨y, w2, S2, r2, hy, p2, h2⟩ => ?_
    refine tE_mono (tE_step r2 h2) fun iv H3 ⟨z, w3, S3, r3, hz, p3, h3⟩ => ?_
    refine put_ok' hZ r3.s (Rep.mono p3 hy) hz (Rep.mono (p2.trans p3) m1) h3.seq fun S4 H4 ps4 s4 h4 => ?_
    refine ⟨u2, [], rfl, ?_⟩
    have r4 : Rel X.K Z w3 H4 S4 r σ := ⟨s4, r3.e.mono ps4.toExt⟩
    refine tE_mono (tE_step r4 h4) fun ov H5 ⟨y5, w5, S5, r5, hy5, p5, h5⟩ => ?_
    refine tE_mono (tE_step r5 h5) fun iv H6 ⟨z6, w6, S6, r6, hz6, p6, h6⟩ => ?_
    exact put_ok' hZ r6.s (Rep.mono p6 hy5) hz6 (Rep.mono (p5.trans p6) (Rep.mono ps4.toExt (Rep.mono (p2.trans p3) m2))) h6 fun S' H' ps s' q => ⟨rfl, AftR.nx q s' (r6.e.mono ps.toExt)⟩
theorem st_setF {cl f : Nat} (hF : ∀ m n, Z.fN m = Z.fN n → m = n) (hC : L2.Cls X.K (Z.cA cl)) (hNo : L2.NoAttr X.K (Z.cA cl) (Z.fN f)) (ho : PE X o (tE Z call gl X W po)) (he : PE X e (tE Z call gl X W pe)) :
    PS X (.Assign [.Attribute o (Z.fN f) p] e pos) (tS Z call gl X W (.setF cl po f pe)) :=
  imp_ps (L2.ps_fld ho he (by unfold swapsWith; cases e <;> rfl)) fun D σ H ⟨w, S, r, rel, h⟩ => by
    rw [evalS] at h
    have h := lift_step rel h
    refine tE_mono (tE_step rel h) fun v H1 ⟨x, w1, S1, r1, hx, p1, h1⟩ => ?_
    refine tE_mono (tE_step r1 h1) fun ov H2 ⟨y, w2, S2, r2, hy, p2, h2⟩ => ?_
    cases y with
    | ref n =>
      cases e : S2[n]? with
      | none => exact (h2.bad (by simp only [e])).elim
      | some ob =>
        cases ob with
        | ins b ns vs =>
          by_cases hb : b = cl ∧ ns.length < 900
          case neg => exact (h2.bad (by simp only [e]; rw [if_neg hb])).elim
          obtain ⟨a, rfl, e1, dx, fs, e2, e3, e4⟩ := r2.s.at_ hy e (fun z => by cases z)
          obtain ⟨rfl, hl⟩ := hb
          have hlen : fs.length = ns.length := by have := congrArg List.length e3; simpa using this
          refine ⟨a, _, dx, fs, rfl, e2, hC, hNo, by omega, ?_⟩
          obtain ⟨g1, g2⟩ := setF_rep (f := f) hF (Rep.mono p2 hx) e3 e4
          have ps := r2.s.post (u := .ins (Z.cA b) dx (L2.putF (Z.fN f) v fs)) e1
          have s' := r2.s.write (o := .ins b (setF f x ns vs).1 (setF f x ns vs).2) e1 ⟨dx, _, upd_same, g1, Reps.mono ps.toExt g2⟩
          exact AftR.nx (h2.ok (a := ()) (by simp only [e]; rw [if_pos ⟨trivial, hl⟩]) w2 _ ps s') s' (r2.e.mono ps.toExt)
        | _ => exact (h2.bad (by simp only [e])).elim
    | _ => exact (h2.bad rfl).elim
/-! ### loops -/
theorem st_for {body : List Stmt} {pi : I} {iter : Expr} (hp : PassesOwn (model X.prog X.w) X.A X.env X.xe) (hc : X.calm = true) (hi : PI X tg iter (tI Z call gl X W pi)) (hg : PG X tg (tG X.K Z t)) (hb : PSs X body (tSs Z call gl X W pss)) (hs : ∀ x, foldedSetIterable iter X.env x = pure x) :
    PS X (.For tg iter body [] pos) (tS Z call gl X W (.for_ t pi pss)) :=
  imp_ps (L2.ps_for hp hc hi hg hb hs) fun D σ H ⟨w, S, r, rel, h⟩ => by
    rw [evalS] at h
    refine ⟨w, S, r, rel, (lift_step rel h).imp fun xs w1 S1 H1 p1 s1 q J ⟨Gd, Y, wk, hG, hY⟩ => ?_⟩
    have key : ∀ {f : EV.D → Env → MS} {x : EV.D} {rest : List EV.D} {r : Env} {S : Store}, loop f (x :: rest) r S = match f x r S with
      | .ok (.nx r') S' => loop f rest r' S'
      | .ok (.ct r') S' => loop f rest r' S'
      | .ok (.bk r') S' => .ok (.nx r') S'
      | y => y := rfl
    generalize hrs : loop (fun x r => match t.bind x r with | some r' => evalSs call gl pss r' | none => .no) xs r S1 = rs at q
    refine L2.for_it wk (fun i σ2 H2 => ∃ w2 S2 r2, Rel X.K Z w2 H2 S2 r2 σ2 ∧ Post X.K w1 H1 w2 H2 ∧ loop (fun x r => match t.bind x r with | some r' => evalSs call gl pss r' | none => .no) (xs.drop i) r2 S2 = rs)
      ⟨w1, S1, r, ⟨s1, rel.e.mono p1.toExt⟩, Post.rfl, hrs⟩ (fun i σ2 H2 hi ⟨w2, S2, r2, _, p2, _⟩ => hG _ _ p2.toExt) (fun i x σ2 H2 H' hi ⟨w2, S2, r2, rl2, p2, e2⟩ y => ?_) (fun σ2 H2 ⟨w2, S2, r2, rl2, p2, e2⟩ => ?_)
    · obtain ⟨p3, s3, hv⟩ := hY _ _ _ _ _ _ _ p2.toExt rl2.s (List.getElem?_eq_getElem hi) y
      rw [drop_some hi, key] at e2
      have p23 := p2.trans p3
      have q3 := q.mono p23
      cases eb : t.bind xs[i] r2 with
      | none =>
        simp only [eb, MS.no] at e2
        subst e2
        exact q3.elim
      | some r3 =>
        simp only [eb] at e2
        refine ⟨w2, r2, _, r3, rl2.e.mono p3.toExt, hv, eb, fun σ3 er3 _ => ⟨w2, S2, r3, ⟨s3, er3⟩, ?_⟩⟩
        unfold AftR
        cases er : evalSs call gl pss r3 S2 with
        | bad => simp only [er] at e2; subst e2; exact q3.elim
        | exc c ns vs r4 S4 => simp only [er] at e2; subst e2; exact q3
        | ok f S4 =>
          cases f with
          | nx r4 => simp only [er] at e2; exact fun w' H' σ' pp ss ee => ⟨w', S4, r4, ⟨ss, ee⟩, p23.trans pp, e2⟩
          | ct r4 => simp only [er] at e2; exact fun w' H' σ' pp ss ee => ⟨w', S4, r4, ⟨ss, ee⟩, p23.trans pp, e2⟩
          | bk r4 => simp only [er] at e2; subst e2; exact q3
          | rt d => simp only [er] at e2; subst e2; exact q3
    · rw [List.drop_length] at e2
      have e2 : RS.ok (.nx r2) S2 = rs := e2
      subst e2
      exact q w2 H2 σ2 p2 rl2.s rl2.e
theorem st_while {body : List Stmt} (hp : PassesOwn (model X.prog X.w) X.A X.env X.xe) (hc : PT X c (tB Z call gl X W pc)) (hb : PSs X body (tSs Z call gl X W pss)) : PS X (.While c body [] pos) (tS Z call gl X W (.while_ pc pss)) :=
  imp_ps (L2.ps_while hp hc hb) fun D σ H ⟨w, S, r, rel, h⟩ => by
    rw [evalS] at h
    generalize hrs : spin (fun r => M.seq (evalE call gl pc r) blOf) (fun r => evalSs call gl pss r) fuel r S = rs at h
    refine ⟨fun n σ2 H2 => ∃ w2 S2 r2, Rel X.K Z w2 H2 S2 r2 σ2 ∧ Post X.K w H w2 H2 ∧ spin (fun r => M.seq (evalE call gl pc r) blOf) (fun r => evalSs call gl pss r) n r2 S2 = rs, ⟨fuel, w, S, r, rel, Post.rfl, hrs⟩, ?_⟩
    rintro n σ2 H2 ⟨w2, S2, r2, rl2, p2, e2⟩
    have q2 := h.mono p2
    cases n with
    | zero =>
      have e2 : RS.bad = rs := e2
      subst e2
      exact q2.elim
    | succ n =>
      rw [spin] at e2
      rw [← e2] at q2
      refine ⟨w2, S2, r2, rl2, ?_⟩
      have q3 := lift_step rl2 q2
      unfold Aft at q3 ⊢
      unfold lift at e2
      cases em : M.seq (evalE call gl pc r2) blOf S2 with
      | bad => rw [em] at q3; exact q3
      | exc c ns vs S3 => rw [em] at q3; exact q3
      | ok b S3 =>
        rw [em] at q3
        simp only [em] at e2
        intro w3 H3 p3 s3
        have q4 := q3 w3 H3 p3 s3
        have er3 := rl2.e.mono p3.toExt
        have p23 := p2.trans p3
        cases b with
        | false =>
          simp only [if_neg Bool.false_ne_true] at q4 ⊢
          exact AftR.nx q4 s3 er3
        | true =>
          simp only [if_true] at q4 e2 ⊢
          refine ⟨fun σ' H' => ∃ w2 S2 r2, Rel X.K Z w2 H' S2 r2 σ' ∧ Post X.K w H w2 H' ∧ spin (fun r => M.seq (evalE call gl pc r) blOf) (fun r => evalSs call gl pss r) n r2 S2 = rs, fun σ' H' hN => ⟨n, Nat.lt_succ_self _, hN⟩, w3, S3, r2, ⟨s3, er3⟩, ?_⟩
          rw [e2] at q4
          unfold AftR
          cases er : evalSs call gl pss r2 S3 with
          | bad => simp only [er] at e2; subst e2; exact q4.elim
          | exc c ns vs r4 S4 => simp only [er] at e2; subst e2; exact q4
          | ok f S4 =>
            cases f with
            | nx r4 => simp only [er] at e2; exact fun w' H' σ' pp ss ee => ⟨w', S4, r4, ⟨ss, ee⟩, p23.trans pp, e2⟩
            | ct r4 => simp only [er] at e2; exact fun w' H' σ' pp ss ee => ⟨w', S4, r4, ⟨ss, ee⟩, p23.trans pp, e2⟩
            | bk r4 => simp only [er] at e2; subst e2; exact q4
            | rt d => simp only [er] at e2; subst e2; exact q4
end EV
end
section
set_option Elab.async false
set_option linter.all false
set_option maxRecDepth 100000
set_option maxHeartbeats 4000000
/-! EV, part t: the check that ties the small language to the text. -/
namespace EV
open L2 (V HO Hp upd upd_same upd_ne SqT SqL Rd Key Cx Ends TE TT TA TS TG TGs TI PE PT PA PS PSs PG PGs PI VK XK WX PC OpR R2 CallR FnOk Room Gl Binds PassesAt CXT It Walk Itl Itt Itr Loc PTs PSet)
open PySem PySem.Spec

/-- what the text's globals are -/
structure Tab where
  glo : List (Str × Nat)
  fns : List (Str × Nat)
  kws : List (Str × Nat × List Str × List Nat)
  mks : List (Str × Nat × Nat)
  mth : List (Nat × Nat × Nat)
  fld : List (Nat × Nat)
  fN : Nat → Str
  free : List Str
  gcd : Bool
/-- a block: names by slots, its scope -/
structure Ck where
  N : List Str
  sc : Scope
  fn : Str → Bool
def Ck.blk (c : Ck) (scope : Scope) : Ck := ⟨c.N, L2.relS scope c.sc, fun x => scope.names.lookup x == some .cell⟩
def Ck.gl (c : Ck) (x : Str) : Bool := match c.sc.names.lookup x with | some .globalImplicit => true | _ => false
def Ck.vis (c : Ck) (x : Str) : Bool := match c.sc.names.lookup x with | some .local => true | some .cell => true | some .free => true | _ => false
def Ck.isLoc (c : Ck) (x : Str) : Bool := match c.sc.names.lookup x with | some .local => true | _ => false
def Ck.isCell (c : Ck) (x : Str) : Bool := match c.sc.names.lookup x with | some .cell => true | _ => false
def Ck.name (c : Ck) (i : Nat) (x : Str) : Bool := decide (c.N[i]? = some x) && (c.isLoc x || (c.isCell x && c.fn x))
/-- a built-in's name -/
def Tab.blt (t : Tab) (c : Ck) (x : Str) : Bool := c.gl x && decide (x ∈ t.free)
def opB : Op2 → Operator → Bool
  | .add, .Add => true | .sub, .Sub => true | .mul, .Mult => true | .mod, .Mod => true | .fdiv, .FloorDiv => true | .pow, .Pow => true | _, _ => false
def cmB : Cm → CmpOp → Bool
  | .lt, .Lt => true | .le, .LtE => true | .gt, .Gt => true | .ge, .GtE => true | .eq, .Eq => true | .ne, .NotEq => true | .mem, .In => true | .nmem, .NotIn => true | .isT, .Is => true | .notT, .IsNot => true | _, _ => false
def noSet : Expr → Bool
  | .Set .. => false
  | _ => true
def isNone : Expr → Bool
  | .Constant .none _ _ => true
  | _ => false
def isNon : E → Bool
  | .non => true
  | _ => false
def plainT : Expr → Bool
  | .UnaryOp .Not _ _ => false
  | .BoolOp .. => false
  | .IfExp .. => false
  | .Compare .. => false
  | _ => true
def nodbg (x : Str) : Bool := !(x == ("__debug__" : Str))
def ownOf (c : Ck) (own : List Nat) : List (Str × Nat) := own.map fun i => (c.N.getD i Str.empty, i)
def ckG (c : Ck) : T → Expr → Bool
  | .name i => fun e => match e with | .Name x _ => c.name i x | _ => false
  | .pair a b => fun e => match e with | .Tuple [x, y] _ _ => noStar x && noStar y && ckG c a x && ckG c b y | _ => false
  | .tri a b d => fun e => match e with | .Tuple [x, y, z] _ _ => noStar x && noStar y && noStar z && ckG c a x && ckG c b y && ckG c d z | _ => false
  | .four _ _ _ _ => fun _ => false
section
variable (t : Tab)
mutual
def ckE : E → Ck → Expr → Bool
  | .var i => fun c e => match e with | .Name x _ => decide (c.N[i]? = some x) && c.vis x && nodbg x && !(x == ("__classdict__" : Str)) | _ => false
  | .int i => fun _ e => match e with | .Constant (.int j) _ _ => decide (i = j) | _ => false
  | .bl i => fun _ e => match e with | .Constant (.bool j) _ _ => decide (i = j) | _ => false
  | .non => fun _ e => isNone e
  | .str i => fun _ e => match e with | .Constant (.str j) _ _ => decide (i = j) | _ => false
  | .glob g => fun c e => match e with | .Name x _ => c.gl x && decide ((x, g) ∈ t.glo) && nodbg x | _ => false
  | .bin o a b => fun c e => match e with | .BinOp x op y _ => opB o op && ckE a c x && ckE b c y | _ => false
  | .neg a => fun c e => match e with | .UnaryOp .USub x _ => ckE a c x | _ => false
  | .cmp o a b => fun c e => match e with
    | .Compare x [op] [y] _ => (match o, op with
      | .isN, .Is => isNone y && isNon b && ckE a c x
      | .notN, .IsNot => isNone y && isNon b && ckE a c x
      | o, op => cmB o op && noSet y && ckE a c x && ckE b c y)
    | _ => false
  | .chain o p a b d => fun c e => match e with | .Compare x [op, op2] [y, z] _ => cmB o op && cmB p op2 && noSet z && ckE a c x && ckE b c y && ckE d c z | _ => false
  | .and_ a b => fun c e => match e with
    | .BoolOp .And (x :: y :: rest) pos => ckE a c x && (match rest with | [] => ckE b c y | _ => ckE b c (.BoolOp .And (y :: rest) pos))
    | _ => false
  | .or_ a b => fun c e => match e with
    | .BoolOp .Or (x :: y :: rest) pos => ckE a c x && (match rest with | [] => ckE b c y | _ => ckE b c (.BoolOp .Or (y :: rest) pos))
    | _ => false
  | .not_ a => fun c e => match e with | .UnaryOp .Not x _ => ckE a c x | _ => false
  | .ite d a b => fun c e => match e with | .IfExp x y z _ => ckT d c x && ckE a c y && ckE b c z | _ => false
  | .tup es => fun c e => match e with | .Tuple xs _ _ => ckEs es c xs | _ => false
  | .fl l => fun c e => ckL l c e
  | .nw l => fun c e => ckL l c e
  | .idx a i => fun c e => match e with | .Subscript x y _ => notSlice y && ckE a c x && ckE i c y | _ => false
  | .sl0 a => fun c e => match e with | .Subscript x (.Slice none none none _) _ => ckE a c x | _ => false
  | .slLo a lo => fun c e => match e with | .Subscript x (.Slice (some y) none none _) _ => ckE a c x && ckE lo c y | _ => false
  | .slHi a hi => fun c e => match e with | .Subscript x (.Slice none (some y) none _) _ => ckE a c x && ckE hi c y | _ => false
  | .slLH a lo hi => fun c e => match e with | .Subscript x (.Slice (some y) (some z) none _) _ => ckE a c x && ckE lo c y && ckE hi c z | _ => false
  | .rev a => fun c e => match e with | .Subscript x (.Slice none none (some (.UnaryOp .USub (.Constant (.int 1) _ _) _)) _) _ => ckE a c x | _ => false
  | .fld cl a f => fun c e => match e with | .Attribute x nm _ => decide ((cl, f) ∈ t.fld) && decide (t.fN f = nm) && notCall0 x && ckE a c x | _ => false
  | .call f es => fun c e => match e with | .Call (.Name x _) xs [] _ => c.gl x && decide ((x, f) ∈ t.fns) && nodbg x && xs.all noStar && ckEs es c xs | _ => false
  | .callK f es perm => fun c e => match e with
    | .Call (.Name x _) [] kws _ => (match kwN kws with | some ks => c.gl x && decide ((x, f, ks, perm) ∈ t.kws) && nodbg x && ckK es c kws | none => false)
    | _ => false
  | .meth cl m f o es => fun c e => match e with
    | .Call (.Attribute x nm ap) xs [] pos => decide (t.fN m = nm) && decide ((cl, m, f) ∈ t.mth) && notCall0 x && (ap.endLine == pos.line) && xs.all noStar && decide (xs.length < 30) && ckE o c x && ckEs es c xs
    | _ => false
  | .make cl f es => fun c e => match e with | .Call (.Name x _) (y :: ys) [] _ => c.gl x && decide ((x, cl, f) ∈ t.mks) && nodbg x && (y :: ys).all noStar && ckEs es c (y :: ys) | _ => false
  | .bi b es => fun c e => match e with
    | .Call (.Name x _) (y :: ys) [] _ => decide (x = Str.ofString (biS b)) && biOk b && c.gl x && (if b = .gcd then t.gcd else decide (x ∈ t.free)) && (y :: ys).all noStar && ckEs es c (y :: ys)
    | _ => false
  | .isi a ty => fun c e => match e with
    | .Call (.Name x _) [y, .Name z _] [] _ => decide (x = ("isinstance" : Str)) && tyN ty && decide (z = Str.ofString (tyS ty)) && t.blt c x && t.blt c z && noStar y && ckE a c y
    | _ => false
  | .dnew _ => fun _ e => match e with | .Dict [] [] _ => true | _ => false
  | .app a b => fun c e => match e with
    | .Call (.Attribute x nm ap) [y] [] pos => decide (nm = ("append" : Str)) && notCall0 x && (ap.endLine == pos.line) && noStar y && ckE a c x && ckE b c y
    | _ => false
  | .ext _ _ => fun _ _ => false
  | .pop _ => fun _ _ => false
  | .index a b => fun c e => match e with
    | .Call (.Attribute x nm ap) [y] [] pos => decide (nm = ("index" : Str)) && notCall0 x && (ap.endLine == pos.line) && noStar y && ckE a c x && ckE b c y
    | _ => false
  | .frz a => fun c e => ckE a c e
  | .never => fun _ _ => true
def ckT : E → Ck → Expr → Bool
  | .and_ a b => fun c e => match e with
    | .BoolOp .And (x :: y :: rest) pos => ckT a c x && (match rest with | [] => ckT b c y | _ => ckT b c (.BoolOp .And (y :: rest) pos))
    | _ => false
  | .or_ a b => fun c e => match e with
    | .BoolOp .Or (x :: y :: rest) pos => ckT a c x && (match rest with | [] => ckT b c y | _ => ckT b c (.BoolOp .Or (y :: rest) pos))
    | _ => false
  | .not_ a => fun c e => match e with | .UnaryOp .Not x _ => ckT a c x | _ => false
  | .cmp o a b => fun c e => match e with
    | .Compare x [op] [y] _ => (match o, op with
      | .isN, .Is => isNone y && isNon b && ckE a c x
      | .notN, .IsNot => isNone y && isNon b && ckE a c x
      | o, op => cmB o op && noSet y && ckE a c x && ckE b c y)
    | _ => false
  | .chain o p a b d => fun c e => match e with | .Compare x [op, op2] [y, z] _ => cmB o op && cmB p op2 && noSet z && ckE a c x && ckE b c y && ckE d c z | _ => false
  | .never => fun _ _ => true
  | .var i => fun c e => match e with | .Name x _ => decide (c.N[i]? = some x) && c.vis x && nodbg x && !(x == ("__classdict__" : Str)) | _ => false
  | .bl i => fun _ e => match e with | .Constant (.bool j) _ _ => decide (i = j) | _ => false
  | .idx a i => fun c e => match e with | .Subscript x y _ => notSlice y && ckE a c x && ckE i c y | _ => false
  | .call f es => fun c e => match e with | .Call (.Name x _) xs [] _ => c.gl x && decide ((x, f) ∈ t.fns) && nodbg x && xs.all noStar && ckEs es c xs | _ => false
  | .bi b es => fun c e => match e with
    | .Call (.Name x _) (y :: ys) [] _ => decide (x = Str.ofString (biS b)) && biOk b && c.gl x && (if b = .gcd then t.gcd else decide (x ∈ t.free)) && (y :: ys).all noStar && ckEs es c (y :: ys)
    | _ => false
  | .isi a ty => fun c e => match e with
    | .Call (.Name x _) [y, .Name z _] [] _ => decide (x = ("isinstance" : Str)) && tyN ty && decide (z = Str.ofString (tyS ty)) && t.blt c x && t.blt c z && noStar y && ckE a c y
    | _ => false
  | _ => fun _ _ => false
def ckEs : Es → Ck → List Expr → Bool
  | .nil => fun _ xs => match xs with | [] => true | _ => false
  | .cons e es => fun c xs => match xs with | x :: r => noStar x && ckE e c x && ckEs es c r | _ => false
  | .star e es => fun c xs => match xs with | .Starred x _ :: r => ckE e c x && ckEs es c r | _ => false
def ckK : Es → Ck → List Keyword → Bool
  | .nil => fun _ xs => match xs with | [] => true | _ => false
  | .cons e es => fun c xs => match xs with | ⟨_, x, _⟩ :: r => ckE e c x && ckK es c r | _ => false
  | .star _ _ => fun _ _ => false
def ckC : Es → Ck → List Expr → Bool
  | .nil => fun _ xs => match xs with | [] => true | _ => false
  | .cons e es => fun c xs => match es with
    | .nil => (match xs with | [x] => ckT e c x | _ => false)
    | _ => false
  | .star _ _ => fun _ _ => false
def ckI : I → Ck → Expr → Expr → Bool
  | .e a => fun c _ e => noSet e && ckE a c e
  | .rng a => fun c _ e => match e with | .Call (.Name x _) [y] [] _ => decide (x = ("range" : Str)) && t.blt c x && noStar y && ckE a c y | _ => false
  | .rng2 a b => fun c _ e => match e with | .Call (.Name x _) [y, z] [] _ => decide (x = ("range" : Str)) && t.blt c x && noStar y && noStar z && ckE a c y && ckE b c z | _ => false
  | .rng3 _ _ _ => fun _ _ _ => false
  | .enum a => fun c tg e => match tg with
    | .Tuple _ _ _ => (match e with | .Call (.Name x _) [y] [] _ => decide (x = ("enumerate" : Str)) && t.blt c x && noStar y && ckE a c y | _ => false)
    | _ => false
  | .zip a b => fun c tg e => match tg with
    | .Tuple _ _ _ => (match e with | .Call (.Name x _) [y, z] [] _ => decide (x = ("zip" : Str)) && t.blt c x && noStar y && noStar z && ckE a c y && ckE b c z | _ => false)
    | _ => false
def ckL : L → Ck → Expr → Bool
  | .disp es => fun c e => match e with | .List xs _ => ckEs es c xs | _ => false
  | .comp p own tt i cs => fun c e => match e with
    | .ListComp elt [⟨tg, iter, ifs, 0⟩] scope _ => L2.blkC c.N c.sc scope (ownOf c own) && ckI i c tg iter && ckG (c.blk scope) tt tg && ckC cs (c.blk scope) ifs && ckE p (c.blk scope) elt && tt.slots.all (fun j => decide (j ∈ own))
    | _ => false
  | .compR p own tt a cs => fun c e => match e with
    | .ListComp elt [⟨tg, iter, ifs, 0⟩] scope _ => L2.blkC c.N c.sc scope (ownOf c own) && noSet iter && ckE a c iter && ckG (c.blk scope) tt tg && ckC cs (c.blk scope) ifs && ckE p (c.blk scope) elt && tt.slots.all (fun j => decide (j ∈ own))
    | _ => false
  | .comp2 p own own2 tt i cs t2 i2 c2 => fun c e => match e with
    | .ListComp elt [⟨tg, iter, ifs, 0⟩, ⟨tg1, iter1, ifs1, 0⟩] scope _ => L2.blkC c.N c.sc scope (ownOf c own) && ckI i c tg iter && ckG (c.blk scope) tt tg && ckC cs (c.blk scope) ifs && ckE p (c.blk scope) elt && tt.slots.all (fun j => decide (j ∈ own)) &&
      own2.all (fun j => decide (j ∈ own)) && ckI i2 (c.blk scope) tg1 iter1 && ckG (c.blk scope) t2 tg1 && ckC c2 (c.blk scope) ifs1 && t2.slots.all (fun j => decide (j ∈ own2))
    | _ => false
  | .list a => fun c e => match e with | .Call (.Name x _) [y] [] _ => decide (x = ("list" : Str)) && t.blt c x && noStar y && ckE a c y | _ => false
  | .listR _ => fun _ _ => false
  | .cat a b => fun c e => match e with | .BinOp x .Add y _ => ckE a c x && ckE b c y | _ => false
  | .rep a b => fun c e => match e with | .BinOp x .Mult y _ => ckE a c x && ckE b c y | _ => false
  | .cut _ => fun _ _ => false
end
end
/-! ### what holds of a block -/
section
variable (t : Tab) (k : Nat) (CX : CXT) (Z : Zt) (call : Nat → List D → M D) (gl : List D)
structure Good (c : Ck) (X : Cx) (W : WX) : Prop where
  nd : X.N.Nodup
  hN : X.N = c.N
  sc : X.env.scope = c.sc
  fn : ∀ x, c.fn x = true → X.fn x = true
  calm : X.calm = true
  room : Room (k + 1) X.A
  hZ : Z.P = X.prog ∧ Z.w = X.w
  hF : ∀ m n, Z.fN m = Z.fN n → m = n
  fN : ∀ f, Z.fN f = t.fN f
  pass : ∀ σ, PassesAt CX X σ (L2.WE W σ)
  cx0 : ∀ outer H s u s', ¬ CX outer H s (fun _ _ _ => False) u s'
  own : PassesOwn (model X.prog X.w) X.A X.env X.xe
  kind : X.env.scope.kind = .function
  glo : ∀ x g, (x, g) ∈ t.glo → ∃ v u, X.mg x = some u ∧ L2.RelV v u ∧ ∀ d, gl[g]? = some d → ∀ w H, Rep X.K Z w H d v
  fns : ∀ x f, (x, f) ∈ t.fns → ∃ fa fd ps, FnOk X.prog X.w X.K X.mg X.base CX k fa fd ps (spF X.K Z (call f)) ∧ X.mg x = some (.ref fa) ∧ PySem.W.keepIn X.K (.ref fa) = true ∧ Binds X.K fd ps []
  kws : ∀ x f ks perm, (x, f, ks, perm) ∈ t.kws → ∃ fa fd ps, FnOk X.prog X.w X.K X.mg X.base CX k fa fd ps (spF X.K Z (call f)) ∧ X.mg x = some (.ref fa) ∧ PySem.W.keepIn X.K (.ref fa) = true ∧
    ∀ (s : Shared) (ws : List Value), ws.length = perm.length → BindsTo s fd ⟨[], ks.zip ws⟩ (ps.zip (pick perm ws))
  mks : ∀ x cl f, (x, cl, f) ∈ t.mks → ∃ fa fd ps, FnOk X.prog X.w X.K X.mg X.base CX k fa fd ps (spF X.K Z (call f)) ∧ X.mg x = some (.ref (Z.cA cl)) ∧ L2.Mk X.K (Z.cA cl) fa ∧ Binds X.K fd ps []
  mth : ∀ cl m f, (cl, m, f) ∈ t.mth → ∃ fa fd ps, FnOk X.prog X.w X.K X.mg X.base CX k fa fd ps (spF X.K Z (call f)) ∧ L2.Cls X.K (Z.cA cl) ∧ L2.Meth X.K (Z.cA cl) (Z.fN m) fa ∧ Binds X.K fd ps []
  fld : ∀ cl f, (cl, f) ∈ t.fld → L2.Cls X.K (Z.cA cl) ∧ L2.NoAttr X.K (Z.cA cl) (Z.fN f)
  free : ∀ x, x ∈ t.free → X.mg x = none
  gcd : t.gcd = true → X.mg "gcd" = some (.builtin "math.gcd")
end
variable {t : Tab} {k : Nat} {CX : CXT} {Z : Zt} {call : Nat → List D → M D} {gl : List D} {c : Ck} {X : Cx} {W : WX}
theorem Good.blk (G : Good t k CX Z call gl c X W) {scope : Scope} (hk : scope.kind = .function) (s : Shared) (H : Hp) (C : Addr) (cl : List (Str × Addr)) (fp : List Addr) : Good t k CX Z call gl (c.blk scope) (X.blk s H scope (compEnvC scope cl C X.env) fp) NoW where
  nd := G.nd
  hN := G.hN
  sc := by
    show L2.relS scope X.env.scope = L2.relS scope c.sc
    rw [G.sc]
  fn := fun x h => h
  calm := G.calm
  room := G.room
  hZ := G.hZ
  hF := G.hF
  fN := G.fN
  pass := fun σ pins H s e s' I h => G.cx0 _ _ _ _ _ h
  cx0 := G.cx0
  own := PassesOwn.never
  kind := hk
  glo := G.glo
  fns := G.fns
  kws := G.kws
  mks := G.mks
  mth := G.mth
  fld := G.fld
  free := G.free
  gcd := G.gcd
theorem Good.gl_ (G : Good t k CX Z call gl c X W) {x : Str} (h : c.gl x = true) : Gl X x := by
  unfold Ck.gl at h
  unfold L2.Gl Env.kindOf
  rw [G.sc]
  split at h
  · assumption
  · cases h
theorem Good.vis (G : Good t k CX Z call gl c X W) {x : Str} (h : c.vis x = true) : L2.Vis X.env.scope x := by
  unfold Ck.vis at h
  unfold L2.Vis
  rw [G.sc]
  split at h
  · exact .inl (by assumption)
  · exact .inr (.inl (by assumption))
  · exact .inr (.inr (by assumption))
  · cases h
theorem Good.loc (G : Good t k CX Z call gl c X W) {x : Str} (h : c.isLoc x = true) : X.env.scope.names.lookup x = some .local := by
  unfold Ck.isLoc at h
  rw [G.sc]
  split at h
  · assumption
  · cases h
theorem Good.cell (G : Good t k CX Z call gl c X W) {x : Str} (h : c.isCell x = true) : X.env.scope.names.lookup x = some .cell := by
  unfold Ck.isCell at h
  rw [G.sc]
  split at h
  · assumption
  · cases h
theorem Good.name (G : Good t k CX Z call gl c X W) {i : Nat} {x : Str} (h : c.name i x = true) : X.N[i]? = some x ∧ Loc X.env.scope x ∧ (X.fn x = true ∨ X.env.scope.names.lookup x = some .local) := by
  unfold Ck.name at h
  rw [Bool.and_eq_true, decide_eq_true_eq, Bool.or_eq_true, Bool.and_eq_true] at h
  obtain ⟨h1, h2 | ⟨h2, h3⟩⟩ := h
  · exact ⟨by rw [G.hN]; exact h1, .inl (G.loc h2), .inr (G.loc h2)⟩
  · exact ⟨by rw [G.hN]; exact h1, .inr (G.cell h2), .inl (G.fn x h3)⟩
theorem Good.blt (G : Good t k CX Z call gl c X W) {x : Str} (h : t.blt c x = true) : Gl X x ∧ X.mg x = none := by
  unfold Tab.blt at h
  rw [Bool.and_eq_true, decide_eq_true_eq] at h
  exact ⟨G.gl_ h.1, G.free x h.2⟩
theorem nodbg_ok {x : Str} (h : nodbg x = true) : (x == ("__debug__" : Str)) = false := by
  unfold nodbg at h
  simpa using h
theorem opB_ok {o : Op2} {op : Operator} (h : opB o op = true) : op = astO o := by
  cases o <;> cases op <;> first | rfl | cases h
theorem cmB_ok {o : Cm} {op : CmpOp} (h : cmB o op = true) : op = astC o ∧ o ≠ .isN ∧ o ≠ .notN := by
  cases o <;> cases op <;> first | (cases h; done) | (refine ⟨rfl, ?_, ?_⟩ <;> (intro z; cases z))
theorem noSet_ok {o : CmpOp} {e : Expr} (h : noSet e = true) : behindInMarks o e = false := by
  cases e <;> first | rfl | cases h
theorem fold_ok {e : Expr} (h : noSet e = true) (env : PySem.Env) (x : Value) : foldedSetIterable e env x = pure x := by
  cases e <;> first | rfl | cases h
theorem isNone_ok {e : Expr} (h : isNone e = true) : ∃ j p, e = .Constant .none j p := by
  unfold isNone at h
  split at h
  · exact ⟨_, _, rfl⟩
  · cases h
theorem isNon_ok {p : E} (h : isNon p = true) : p = .non := by
  unfold isNon at h
  split at h
  · rfl
  · cases h
theorem plainT_ok {e : Expr} {env : PySem.Env} (h : plainT e = true) : ∀ whole, isTrue e env whole = (do let v ← whole; standAt e.pos; holding [v] (truthy v)) := by
  intro whole
  cases e <;> first | rfl | (cases h; done) | skip
  rename_i op x p
  cases op <;> first | rfl | cases h
theorem g_ok (G : Good t k CX Z call gl c X W) : ∀ {tt : T} {e : Expr}, ckG c tt e = true → PG X e (tG X.K Z tt)
  | .name i, e, h => by
    rw [ckG] at h
    dsimp only at h
    split at h
    · obtain ⟨h1, h2, h3⟩ := G.name h
      exact g_name G.nd h1 h2 h3
    · cases h
  | .pair a b, e, h => by
    rw [ckG] at h
    dsimp only at h
    split at h
    · simp only [Bool.and_eq_true] at h
      obtain ⟨⟨⟨h1, h2⟩, h3⟩, h4⟩ := h
      exact g_pair G.calm h1 h2 (g_ok G h3) (g_ok G h4)
    · cases h
  | .tri a b d, e, h => by
    rw [ckG] at h
    dsimp only at h
    split at h
    · simp only [Bool.and_eq_true] at h
      obtain ⟨⟨⟨⟨⟨h1, h2⟩, h3⟩, h4⟩, h5⟩, h6⟩ := h
      exact g_tri G.calm h1 h2 h3 (g_ok G h4) (g_ok G h5) (g_ok G h6)
    · cases h
  | .four _ _ _ _, e, h => by rw [ckG] at h; cases h
theorem own_map (c : Ck) (own : List Nat) : (ownOf c own).map (·.2) = own := by
  unfold ownOf
  rw [List.map_map]
  exact List.map_id _
theorem all_mem {xs own : List Nat} (h : (xs.all fun j => decide (j ∈ own)) = true) : ∀ j ∈ xs, j ∈ own := by
  simpa using h
end EV
end
section
set_option Elab.async false
set_option linter.all false
set_option maxRecDepth 100000
set_option maxHeartbeats 4000000
/-! EV, part u: what is checked happens: expressions. -/
namespace EV
open L2 (V HO Hp upd upd_same upd_ne SqT SqL Rd Key Cx Ends TE TT TA TS TG TGs TI PE PT PA PS PSs PG PGs PI VK XK WX PC OpR R2 CallR FnOk Room Gl Binds PassesAt CXT It Walk Itl Itt Itr Loc PTs PSet)
open PySem PySem.Spec

variable {t : Tab} {k : Nat} {CX : CXT} {Z : Zt} {call : Nat → List D → M D} {gl : List D}

theorem cmp_ok {c : Ck} {X : Cx} {W : WX} (G : Good t k CX Z call gl c X W) {o : Cm} {a b : E} {op : CmpOp} {x y : Expr} (iha : ∀ {e : Expr}, ckE t a c e = true → PE X e (tE Z call gl X W a)) (ihb : ∀ {e : Expr}, ckE t b c e = true → PE X e (tE Z call gl X W b))
    (h : (match o, op with
      | .isN, .Is => isNone y && isNon b && ckE t a c x
      | .notN, .IsNot => isNone y && isNon b && ckE t a c x
      | o, op => cmB o op && noSet y && ckE t a c x && ckE t b c y) = true) : PC X op x y (tE Z call gl X W (.cmp o a b)) ∧ behindInMarks op y = false := by
  split at h
  · simp only [Bool.and_eq_true] at h
    obtain ⟨⟨h1, h2⟩, h3⟩ := h
    obtain ⟨j, p, rfl⟩ := isNone_ok h1
    cases isNon_ok h2
    exact ⟨s_isN (iha h3), rfl⟩
  · simp only [Bool.and_eq_true] at h
    obtain ⟨⟨h1, h2⟩, h3⟩ := h
    obtain ⟨j, p, rfl⟩ := isNone_ok h1
    cases isNon_ok h2
    exact ⟨s_notN (iha h3), rfl⟩
  · simp only [Bool.and_eq_true] at h
    obtain ⟨⟨⟨h1, h2⟩, h3⟩, h4⟩ := h
    obtain ⟨rfl, n1, n2⟩ := cmB_ok h1
    exact ⟨s_cmp (cm_of G.room G.hZ n1 n2) (iha h3) (ihb h4), noSet_ok h2⟩
theorem not_slot {α : Type} {l : List α} {e : α} (h : l = [e]) : l ≠ [] := by rw [h]; exact List.cons_ne_nil _ _
/-- one test's rule by its value -/
theorem val_test {c : Ck} {X : Cx} {W : WX} {p : E} {e : Expr} (h : PE X e (tE Z call gl X W p)) (hp : plainT e = true) : PT X e (tB Z call gl X W p) ∧ (∀ op es pos, e = .BoolOp op es pos → L2.PW X e (tB Z call gl X W p)) :=
  ⟨t_val h (plainT_ok hp), fun op es pos z => by subst z; cases hp⟩
theorem never_pw {X : Cx} {W : WX} {e : Expr} : L2.PW X e (tB Z call gl X W .never) := ⟨fun _ _ _ _ _ _ _ ⟨_, _, _, _, h⟩ => h.elim⟩
mutual
theorem sndE : ∀ (p : E) {c : Ck} {X : Cx} {W : WX} {e : Expr}, Good t k CX Z call gl c X W → ckE t p c e = true → PE X e (tE Z call gl X W p)
  | .var i, c, X, W, e, G, h => by
    rw [ckE] at h; dsimp only at h
    split at h
    · simp only [Bool.and_eq_true, decide_eq_true_eq] at h
      obtain ⟨⟨⟨h1, h2⟩, h3⟩, h4⟩ := h
      exact s_var (by rw [G.hN]; exact h1) (G.vis h2) (nodbg_ok h3) (by simpa using h4)
    · cases h
  | .int i, c, X, W, e, G, h => by
    rw [ckE] at h; dsimp only at h
    split at h
    · rw [decide_eq_true_eq] at h; subst h; exact s_int
    · cases h
  | .bl i, c, X, W, e, G, h => by
    rw [ckE] at h; dsimp only at h
    split at h
    · rw [decide_eq_true_eq] at h; subst h; exact s_bl
    · cases h
  | .non, c, X, W, e, G, h => by
    rw [ckE] at h; dsimp only at h
    obtain ⟨j, p, rfl⟩ := isNone_ok h
    exact s_non
  | .str i, c, X, W, e, G, h => by
    rw [ckE] at h; dsimp only at h
    split at h
    · rw [decide_eq_true_eq] at h; subst h; exact s_str
    · cases h
  | .glob g, c, X, W, e, G, h => by
    rw [ckE] at h; dsimp only at h
    split at h
    · simp only [Bool.and_eq_true, decide_eq_true_eq] at h
      obtain ⟨⟨h1, h2⟩, h3⟩ := h
      obtain ⟨v, u, g1, g2, g3⟩ := G.glo _ _ h2
      exact s_glob (G.gl_ h1) g1 g2 (nodbg_ok h3) g3
    · cases h
  | .bin o a b, c, X, W, e, G, h => by
    rw [ckE] at h; dsimp only at h
    split at h
    · simp only [Bool.and_eq_true] at h
      obtain ⟨⟨h1, h2⟩, h3⟩ := h
      rw [opB_ok h1]
      exact s_bin (sndE a G h2) (sndE b G h3)
    · cases h
  | .neg a, c, X, W, e, G, h => by
    rw [ckE] at h; dsimp only at h
    split at h
    · exact s_neg (sndE a G h)
    · cases h
  | .cmp o a b, c, X, W, e, G, h => by
    rw [ckE] at h; dsimp only at h
    split at h
    · obtain ⟨h1, h2⟩ := cmp_ok G (fun {e} => sndE a G) (fun {e} => sndE b G) h
      exact L2.pe_cmp h1 h2
    · cases h
  | .chain o p a b d, c, X, W, e, G, h => by
    rw [ckE] at h; dsimp only at h
    split at h
    · simp only [Bool.and_eq_true] at h
      obtain ⟨⟨⟨⟨⟨h1, h2⟩, h3⟩, h4⟩, h5⟩, h6⟩ := h
      obtain ⟨rfl, n1, n2⟩ := cmB_ok h1
      obtain ⟨rfl, n3, n4⟩ := cmB_ok h2
      exact (s_chain (cm_of G.room G.hZ n1 n2) (cm_of G.room G.hZ n3 n4) (sndE a G h4) (sndE b G h5) (sndE d G h6) (noSet_ok h3)).1
    · cases h
  | .and_ a b, c, X, W, e, G, h => by
    rw [ckE] at h; dsimp only at h
    split at h
    · rw [Bool.and_eq_true] at h
      obtain ⟨h1, h2⟩ := h
      refine v_and (sndE a G h1) ?_
      split at h2
      · exact L2.pe_one (sndE b G h2)
      · exact sndE b G h2
    · cases h
  | .or_ a b, c, X, W, e, G, h => by
    rw [ckE] at h; dsimp only at h
    split at h
    · rw [Bool.and_eq_true] at h
      obtain ⟨h1, h2⟩ := h
      refine v_or (sndE a G h1) ?_
      split at h2
      · exact L2.pe_one (sndE b G h2)
      · exact sndE b G h2
    · cases h
  | .not_ a, c, X, W, e, G, h => by
    rw [ckE] at h; dsimp only at h
    split at h
    · exact v_not (sndE a G h)
    · cases h
  | .ite d a b, c, X, W, e, G, h => by
    rw [ckE] at h; dsimp only at h
    split at h
    · simp only [Bool.and_eq_true] at h
      obtain ⟨⟨h1, h2⟩, h3⟩ := h
      exact s_ite (sndT d G h1).1 (sndE a G h2) (sndE b G h3)
    · cases h
  | .tup es, c, X, W, e, G, h => by
    rw [ckE] at h; dsimp only at h
    split at h
    · exact s_tup (sndEs es G h)
    · cases h
  | .fl l, c, X, W, e, G, h => by
    rw [ckE] at h; dsimp only at h
    exact s_fl (sndL l G h)
  | .nw l, c, X, W, e, G, h => by
    rw [ckE] at h; dsimp only at h
    exact s_nw (sndL l G h)
  | .idx a i, c, X, W, e, G, h => by
    rw [ckE] at h; dsimp only at h
    split at h
    · simp only [Bool.and_eq_true] at h
      obtain ⟨⟨h1, h2⟩, h3⟩ := h
      exact s_idx G.room G.hZ (sndE a G h2) (sndE i G h3) h1
    · cases h
  | .sl0 a, c, X, W, e, G, h => by
    rw [ckE] at h; dsimp only at h
    split at h
    · exact s_sl0 (sndE a G h)
    · cases h
  | .slLo a lo, c, X, W, e, G, h => by
    rw [ckE] at h; dsimp only at h
    split at h
    · rw [Bool.and_eq_true] at h
      exact s_slLo (sndE a G h.1) (sndE lo G h.2)
    · cases h
  | .slHi a hi, c, X, W, e, G, h => by
    rw [ckE] at h; dsimp only at h
    split at h
    · rw [Bool.and_eq_true] at h
      exact s_slHi (sndE a G h.1) (sndE hi G h.2)
    · cases h
  | .slLH a lo hi, c, X, W, e, G, h => by
    rw [ckE] at h; dsimp only at h
    split at h
    · simp only [Bool.and_eq_true] at h
      exact s_slLH (sndE a G h.1.1) (sndE lo G h.1.2) (sndE hi G h.2)
    · cases h
  | .rev a, c, X, W, e, G, h => by
    rw [ckE] at h; dsimp only at h
    split at h
    · exact s_rev (sndE a G h)
    · cases h
  | .fld cl a f, c, X, W, e, G, h => by
    rw [ckE] at h; dsimp only at h
    split at h
    · simp only [Bool.and_eq_true, decide_eq_true_eq] at h
      obtain ⟨⟨⟨h1, h2⟩, h3⟩, h4⟩ := h
      obtain ⟨g1, g2⟩ := G.fld _ _ h1
      rw [← h2, ← G.fN]
      exact s_fld G.hF g1 g2 h3 (sndE a G h4)
    · cases h
  | .call f es, c, X, W, e, G, h => by
    rw [ckE] at h; dsimp only at h
    split at h
    · rename_i x p xs pos
      simp only [Bool.and_eq_true, decide_eq_true_eq] at h
      obtain ⟨⟨⟨⟨h1, h2⟩, h3⟩, h4⟩, h5⟩ := h
      obtain ⟨fa, fd, ps, g1, g2, g3, g4⟩ := G.fns _ _ h2
      cases xs with
      | nil =>
        have : es = .nil := by
          cases es with
          | nil => rfl
          | cons _ _ => rw [ckEs] at h5; cases h5
          | star _ _ => rw [ckEs] at h5; cases h5
        subst this
        exact s_call0 g1 (G.room.mono (Nat.le_succ _)) (G.gl_ h1) g2 g3 g4 G.pass (nodbg_ok h3)
      | cons y ys => exact s_call g1 (G.room.mono (Nat.le_succ _)) (G.gl_ h1) g2 g3 g4 G.pass (nodbg_ok h3) h4 (sndEs es G h5)
    · cases h
  | .callK f es perm, c, X, W, e, G, h => by
    rw [ckE] at h; dsimp only at h
    split at h
    · split at h
      · rename_i ks hks
        simp only [Bool.and_eq_true, decide_eq_true_eq] at h
        obtain ⟨⟨⟨h1, h2⟩, h3⟩, h4⟩ := h
        obtain ⟨fa, fd, ps, g1, g2, g3, g4⟩ := G.kws _ _ _ _ h2
        exact s_callK g1 (G.room.mono (Nat.le_succ _)) (G.gl_ h1) g2 g3 g4 G.pass (nodbg_ok h3) hks (sndK es G h4)
      · cases h
    · cases h
  | .meth cl m f o es, c, X, W, e, G, h => by
    rw [ckE] at h; dsimp only at h
    split at h
    · rename_i x nm ap xs pos
      simp only [Bool.and_eq_true, decide_eq_true_eq] at h
      obtain ⟨⟨⟨⟨⟨⟨⟨h1, h2⟩, h3⟩, h4⟩, h5⟩, h6⟩, h7⟩, h8⟩ := h
      obtain ⟨fa, fd, ps, g1, g2, g3, g4⟩ := G.mth _ _ _ h2
      rw [← h1, ← G.fN]
      cases xs with
      | nil =>
        have : es = .nil := by
          cases es with
          | nil => rfl
          | cons _ _ => rw [ckEs] at h8; cases h8
          | star _ _ => rw [ckEs] at h8; cases h8
        subst this
        exact s_meth0 G.hF g2 g3 g1 (G.room.mono (Nat.le_succ _)) g4 G.pass h3 h4 (sndE o G h7)
      | cons y ys => exact s_meth G.hF g2 g3 g1 (G.room.mono (Nat.le_succ _)) g4 G.pass h3 h4 h5 h6 (sndE o G h7) (sndEs es G h8)
    · cases h
  | .make cl f es, c, X, W, e, G, h => by
    rw [ckE] at h; dsimp only at h
    split at h
    · simp only [Bool.and_eq_true, decide_eq_true_eq] at h
      obtain ⟨⟨⟨⟨h1, h2⟩, h3⟩, h4⟩, h5⟩ := h
      obtain ⟨fa, fd, ps, g1, g2, g3, g4⟩ := G.mks _ _ _ h2
      exact s_make g3 g1 G.room (G.gl_ h1) g2 g4 G.pass (nodbg_ok h3) h4 (sndEs es G h5)
    · cases h
  | .bi b es, c, X, W, e, G, h => by
    rw [ckE] at h; dsimp only at h
    split at h
    · simp only [Bool.and_eq_true, decide_eq_true_eq] at h
      obtain ⟨⟨⟨⟨⟨h1, h2⟩, h3⟩, h4⟩, h5⟩, h6⟩ := h
      subst h1
      refine s_bi G.room.units G.calm h2 (G.gl_ h3) ?_ h5 (sndEs es G h6)
      by_cases hb : b = .gcd
      · subst hb
        rw [if_pos rfl] at h4 ⊢
        exact G.gcd h4
      · rw [if_neg hb] at h4 ⊢
        exact G.free _ (of_decide_eq_true h4)
    · cases h
  | .isi a ty, c, X, W, e, G, h => by
    rw [ckE] at h; dsimp only at h
    split at h
    · simp only [Bool.and_eq_true, decide_eq_true_eq] at h
      obtain ⟨⟨⟨⟨⟨⟨h1, h2⟩, h3⟩, h4⟩, h5⟩, h6⟩, h7⟩ := h
      subst h1 h3
      obtain ⟨g1, g2⟩ := G.blt h4
      obtain ⟨g3, g4⟩ := G.blt h5
      exact s_isi h2 g1 g2 g3 g4 h6 (sndE a G h7)
    · cases h
  | .dnew b, c, X, W, e, G, h => by
    rw [ckE] at h; dsimp only at h
    split at h
    · cases b with
      | false => exact s_dnewK
      | true => exact s_dnewX G.hZ
    · cases h
  | .app a b, c, X, W, e, G, h => by
    rw [ckE] at h; dsimp only at h
    split at h
    · simp only [Bool.and_eq_true, decide_eq_true_eq] at h
      obtain ⟨⟨⟨⟨⟨h1, h2⟩, h3⟩, h4⟩, h5⟩, h6⟩ := h
      subst h1
      exact s_app h4 h2 h3 (sndE a G h5) (sndE b G h6)
    · cases h
  | .ext _ _, c, X, W, e, G, h => by rw [ckE] at h; cases h
  | .pop _, c, X, W, e, G, h => by rw [ckE] at h; cases h
  | .index a b, c, X, W, e, G, h => by
    rw [ckE] at h; dsimp only at h
    split at h
    · simp only [Bool.and_eq_true, decide_eq_true_eq] at h
      obtain ⟨⟨⟨⟨⟨h1, h2⟩, h3⟩, h4⟩, h5⟩, h6⟩ := h
      subst h1
      exact s_index G.room h4 h2 h3 (sndE a G h5) (sndE b G h6)
    · cases h
  | .frz a, c, X, W, e, G, h => by
    rw [ckE] at h; dsimp only at h
    exact s_frz (sndE a G h)
  | .never, c, X, W, e, G, h => s_never
theorem sndT : ∀ (p : E) {c : Ck} {X : Cx} {W : WX} {e : Expr}, Good t k CX Z call gl c X W → ckT t p c e = true → PT X e (tB Z call gl X W p) ∧ (∀ op es pos, e = .BoolOp op es pos → L2.PW X e (tB Z call gl X W p))
  | .and_ a b, c, X, W, e, G, h => by
    rw [ckT] at h; dsimp only at h
    split at h
    · rename_i x y rest pos
      rw [Bool.and_eq_true] at h
      obtain ⟨h1, h2⟩ := h
      have pw : L2.PW X (.BoolOp .And (x :: y :: rest) pos) (tB Z call gl X W (.and_ a b)) := by
        refine t_and (sndT a G h1).1 ?_
        split at h2
        · exact L2.pw_and1 (sndT b G h2).1
        · exact (sndT b G h2).2 _ _ _ rfl
      exact ⟨pw.pt, fun _ _ _ _ => pw⟩
    · cases h
  | .or_ a b, c, X, W, e, G, h => by
    rw [ckT] at h; dsimp only at h
    split at h
    · rename_i x y rest pos
      rw [Bool.and_eq_true] at h
      obtain ⟨h1, h2⟩ := h
      have pw : L2.PW X (.BoolOp .Or (x :: y :: rest) pos) (tB Z call gl X W (.or_ a b)) := by
        refine t_or (sndT a G h1).1 ?_
        split at h2
        · exact L2.pw_or1 (sndT b G h2).1
        · exact (sndT b G h2).2 _ _ _ rfl
      exact ⟨pw.pt, fun _ _ _ _ => pw⟩
    · cases h
  | .not_ a, c, X, W, e, G, h => by
    rw [ckT] at h; dsimp only at h
    split at h
    · exact ⟨t_not (sndT a G h).1, fun _ _ _ z => by cases z⟩
    · cases h
  | .cmp o a b, c, X, W, e, G, h => by
    rw [ckT] at h; dsimp only at h
    split at h
    · obtain ⟨h1, h2⟩ := cmp_ok G (fun {e} => sndE a G) (fun {e} => sndE b G) h
      exact ⟨t_cmp h1 h2, fun _ _ _ z => by cases z⟩
    · cases h
  | .chain o p a b d, c, X, W, e, G, h => by
    rw [ckT] at h; dsimp only at h
    split at h
    · simp only [Bool.and_eq_true] at h
      obtain ⟨⟨⟨⟨⟨h1, h2⟩, h3⟩, h4⟩, h5⟩, h6⟩ := h
      obtain ⟨rfl, n1, n2⟩ := cmB_ok h1
      obtain ⟨rfl, n3, n4⟩ := cmB_ok h2
      exact ⟨(s_chain (cm_of G.room G.hZ n1 n2) (cm_of G.room G.hZ n3 n4) (sndE a G h4) (sndE b G h5) (sndE d G h6) (noSet_ok h3)).2, fun _ _ _ z => by cases z⟩
    · cases h
  | .never, c, X, W, e, G, h => ⟨never_pw.pt, fun _ _ _ _ => never_pw⟩
  | .var i, c, X, W, e, G, h => by
    rw [ckT] at h; dsimp only at h
    split at h
    · simp only [Bool.and_eq_true, decide_eq_true_eq] at h
      obtain ⟨⟨⟨h1, h2⟩, h3⟩, h4⟩ := h
      exact val_test (c := c) (s_var (by rw [G.hN]; exact h1) (G.vis h2) (nodbg_ok h3) (by simpa using h4)) rfl
    · cases h
  | .bl i, c, X, W, e, G, h => by
    rw [ckT] at h; dsimp only at h
    split at h
    · rw [decide_eq_true_eq] at h; subst h; exact val_test (c := c) s_bl rfl
    · cases h
  | .idx a i, c, X, W, e, G, h => by
    rw [ckT] at h; dsimp only at h
    split at h
    · simp only [Bool.and_eq_true] at h
      obtain ⟨⟨h1, h2⟩, h3⟩ := h
      exact val_test (c := c) (s_idx G.room G.hZ (sndE a G h2) (sndE i G h3) h1) rfl
    · cases h
  | .call f es, c, X, W, e, G, h => by
    rw [ckT] at h; dsimp only at h
    split at h
    · rename_i x p xs pos
      simp only [Bool.and_eq_true, decide_eq_true_eq] at h
      obtain ⟨⟨⟨⟨h1, h2⟩, h3⟩, h4⟩, h5⟩ := h
      obtain ⟨fa, fd, ps, g1, g2, g3, g4⟩ := G.fns _ _ h2
      cases xs with
      | nil =>
        have : es = .nil := by
          cases es with
          | nil => rfl
          | cons _ _ => rw [ckEs] at h5; cases h5
          | star _ _ => rw [ckEs] at h5; cases h5
        subst this
        exact val_test (c := c) (s_call0 g1 (G.room.mono (Nat.le_succ _)) (G.gl_ h1) g2 g3 g4 G.pass (nodbg_ok h3)) rfl
      | cons y ys => exact val_test (c := c) (s_call g1 (G.room.mono (Nat.le_succ _)) (G.gl_ h1) g2 g3 g4 G.pass (nodbg_ok h3) h4 (sndEs es G h5)) rfl
    · cases h
  | .bi b es, c, X, W, e, G, h => by
    rw [ckT] at h; dsimp only at h
    split at h
    · simp only [Bool.and_eq_true, decide_eq_true_eq] at h
      obtain ⟨⟨⟨⟨⟨h1, h2⟩, h3⟩, h4⟩, h5⟩, h6⟩ := h
      subst h1
      refine val_test (c := c) (s_bi G.room.units G.calm h2 (G.gl_ h3) ?_ h5 (sndEs es G h6)) rfl
      by_cases hb : b = .gcd
      · subst hb
        rw [if_pos rfl] at h4 ⊢
        exact G.gcd h4
      · rw [if_neg hb] at h4 ⊢
        exact G.free _ (of_decide_eq_true h4)
    · cases h
  | .isi a ty, c, X, W, e, G, h => by
    rw [ckT] at h; dsimp only at h
    split at h
    · simp only [Bool.and_eq_true, decide_eq_true_eq] at h
      obtain ⟨⟨⟨⟨⟨⟨h1, h2⟩, h3⟩, h4⟩, h5⟩, h6⟩, h7⟩ := h
      subst h1 h3
      obtain ⟨g1, g2⟩ := G.blt h4
      obtain ⟨g3, g4⟩ := G.blt h5
      exact val_test (c := c) (s_isi h2 g1 g2 g3 g4 h6 (sndE a G h7)) rfl
    · cases h
  | .int _, c, X, W, e, G, h => by simp [ckT] at h
  | .non, c, X, W, e, G, h => by simp [ckT] at h
  | .str _, c, X, W, e, G, h => by simp [ckT] at h
  | .glob _, c, X, W, e, G, h => by simp [ckT] at h
  | .bin _ _ _, c, X, W, e, G, h => by simp [ckT] at h
  | .neg _, c, X, W, e, G, h => by simp [ckT] at h
  | .ite _ _ _, c, X, W, e, G, h => by simp [ckT] at h
  | .tup _, c, X, W, e, G, h => by simp [ckT] at h
  | .fl _, c, X, W, e, G, h => by simp [ckT] at h
  | .nw _, c, X, W, e, G, h => by simp [ckT] at h
  | .sl0 _, c, X, W, e, G, h => by simp [ckT] at h
  | .slLo _ _, c, X, W, e, G, h => by simp [ckT] at h
  | .slHi _ _, c, X, W, e, G, h => by simp [ckT] at h
  | .slLH _ _ _, c, X, W, e, G, h => by simp [ckT] at h
  | .rev _, c, X, W, e, G, h => by simp [ckT] at h
  | .fld _ _ _, c, X, W, e, G, h => by simp [ckT] at h
  | .callK _ _ _, c, X, W, e, G, h => by simp [ckT] at h
  | .meth _ _ _ _ _, c, X, W, e, G, h => by simp [ckT] at h
  | .make _ _ _, c, X, W, e, G, h => by simp [ckT] at h
  | .dnew _, c, X, W, e, G, h => by simp [ckT] at h
  | .app _ _, c, X, W, e, G, h => by simp [ckT] at h
  | .ext _ _, c, X, W, e, G, h => by simp [ckT] at h
  | .pop _, c, X, W, e, G, h => by simp [ckT] at h
  | .index _ _, c, X, W, e, G, h => by simp [ckT] at h
  | .frz _, c, X, W, e, G, h => by simp [ckT] at h
theorem sndEs : ∀ (p : Es) {c : Ck} {X : Cx} {W : WX} {xs : List Expr}, Good t k CX Z call gl c X W → ckEs t p c xs = true → PA X xs (tEs Z call gl X W p)
  | .nil, c, X, W, xs, G, h => by
    rw [ckEs] at h; dsimp only at h
    split at h
    · exact es_nil
    · cases h
  | .cons e es, c, X, W, xs, G, h => by
    rw [ckEs] at h; dsimp only at h
    split at h
    · simp only [Bool.and_eq_true] at h
      exact es_cons h.1.1 (sndE e G h.1.2) (sndEs es G h.2)
    · cases h
  | .star e es, c, X, W, xs, G, h => by
    rw [ckEs] at h; dsimp only at h
    split at h
    · simp only [Bool.and_eq_true] at h
      exact es_star (sndE e G h.1) (sndEs es G h.2)
    · cases h
theorem sndK : ∀ (p : Es) {c : Ck} {X : Cx} {W : WX} {xs : List Keyword}, Good t k CX Z call gl c X W → ckK t p c xs = true → L2.PK X xs (tEs Z call gl X W p)
  | .nil, c, X, W, xs, G, h => by
    rw [ckK] at h; dsimp only at h
    split at h
    · exact ks_nil
    · cases h
  | .cons e es, c, X, W, xs, G, h => by
    rw [ckK] at h; dsimp only at h
    split at h
    · simp only [Bool.and_eq_true] at h
      exact ks_cons (sndE e G h.1) (sndK es G h.2)
    · cases h
  | .star _ _, c, X, W, xs, G, h => by rw [ckK] at h; cases h
theorem sndC : ∀ (p : Es) {c : Ck} {X : Cx} {xs : List Expr}, Good t k CX Z call gl c X NoW → ckC t p c xs = true → PTs X xs (tC Z call gl X.K p)
  | .nil, c, X, xs, G, h => by
    rw [ckC] at h; dsimp only at h
    split at h
    · exact c_nil
    · cases h
  | .cons e es, c, X, xs, G, h => by
    rw [ckC] at h; dsimp only at h
    split at h
    · split at h
      · exact c_one (sndT e G h).1
      · cases h
    · cases h
  | .star _ _, c, X, xs, G, h => by rw [ckC] at h; cases h
theorem sndI : ∀ (p : I) {c : Ck} {X : Cx} {W : WX} {tg e : Expr}, Good t k CX Z call gl c X W → ckI t p c tg e = true → PI X tg e (tI Z call gl X W p) ∧ noSet e = true
  | .e a, c, X, W, tg, e, G, h => by
    rw [ckI] at h; dsimp only at h
    rw [Bool.and_eq_true] at h
    exact ⟨i_e (sndE a G h.2), h.1⟩
  | .rng a, c, X, W, tg, e, G, h => by
    rw [ckI] at h; dsimp only at h
    split at h
    · simp only [Bool.and_eq_true, decide_eq_true_eq] at h
      obtain ⟨⟨⟨h1, h2⟩, h3⟩, h4⟩ := h
      subst h1
      obtain ⟨g1, g2⟩ := G.blt h2
      exact ⟨i_rng g1 g2 h3 (sndE a G h4), rfl⟩
    · cases h
  | .rng2 a b, c, X, W, tg, e, G, h => by
    rw [ckI] at h; dsimp only at h
    split at h
    · simp only [Bool.and_eq_true, decide_eq_true_eq] at h
      obtain ⟨⟨⟨⟨⟨h1, h2⟩, h3⟩, h4⟩, h5⟩, h6⟩ := h
      subst h1
      obtain ⟨g1, g2⟩ := G.blt h2
      exact ⟨i_rng2 g1 g2 h3 h4 (sndE a G h5) (sndE b G h6), rfl⟩
    · cases h
  | .rng3 _ _ _, c, X, W, tg, e, G, h => by rw [ckI] at h; cases h
  | .enum a, c, X, W, tg, e, G, h => by
    rw [ckI] at h; dsimp only at h
    split at h
    · split at h
      · simp only [Bool.and_eq_true, decide_eq_true_eq] at h
        obtain ⟨⟨⟨h1, h2⟩, h3⟩, h4⟩ := h
        subst h1
        obtain ⟨g1, g2⟩ := G.blt h2
        exact ⟨i_enum g1 g2 h3 (sndE a G h4), rfl⟩
      · cases h
    · cases h
  | .zip a b, c, X, W, tg, e, G, h => by
    rw [ckI] at h; dsimp only at h
    split at h
    · split at h
      · simp only [Bool.and_eq_true, decide_eq_true_eq] at h
        obtain ⟨⟨⟨⟨⟨h1, h2⟩, h3⟩, h4⟩, h5⟩, h6⟩ := h
        subst h1
        obtain ⟨g1, g2⟩ := G.blt h2
        exact ⟨i_zip g1 g2 h3 h4 (sndE a G h5) (sndE b G h6), rfl⟩
      · cases h
    · cases h
theorem sndL : ∀ (p : L) {c : Ck} {X : Cx} {W : WX} {e : Expr}, Good t k CX Z call gl c X W → ckL t p c e = true → PE X e (tL Z call gl X W p)
  | .disp es, c, X, W, e, G, h => by
    rw [ckL] at h; dsimp only at h
    split at h
    · exact l_disp (sndEs es G h)
    · cases h
  | .comp p own tt i cs, c, X, W, e, G, h => by
    rw [ckL] at h; dsimp only at h
    split at h
    · rename_i pos
      simp only [Bool.and_eq_true] at h
      obtain ⟨⟨⟨⟨⟨h1, h2⟩, h3⟩, h4⟩, h5⟩, h6⟩ := h
      have ok := L2.blkOk_by h1
      rw [← G.hN, ← G.sc] at ok
      obtain ⟨i1, i2⟩ := sndI i G h2
      have B := fun s H C cl fp => G.blk ok.kind s H C cl fp
      have := (l_comp (pos := pos) (Z := Z) (call := call) (gl := gl) (W := W) (t := tt) (i := i) (cs := cs) (pe := p) G.calm G.nd i1 ok (fun s H C cl fp => g_ok (B s H C cl fp) h3) (fun s H C cl fp => sndC cs (B s H C cl fp) h4) (fun s H C cl fp => sndE p (B s H C cl fp) h5) (fold_ok i2 _) (by rw [own_map]; exact all_mem h6)).2
      rw [own_map] at this
      exact this
    · cases h
  | .compR p own tt a cs, c, X, W, e, G, h => by
    rw [ckL] at h; dsimp only at h
    split at h
    · rename_i pos
      simp only [Bool.and_eq_true] at h
      obtain ⟨⟨⟨⟨⟨⟨h1, h2⟩, h2'⟩, h3⟩, h4⟩, h5⟩, h6⟩ := h
      have ok := L2.blkOk_by h1
      rw [← G.hN, ← G.sc] at ok
      have B := fun s H C cl fp => G.blk ok.kind s H C cl fp
      have := (l_compR (pos := pos) (Z := Z) (call := call) (gl := gl) (W := W) (t := tt) (a := a) (cs := cs) (pe := p) G.calm G.nd (sndE a G h2') ok (fun s H C cl fp => g_ok (B s H C cl fp) h3) (fun s H C cl fp => sndC cs (B s H C cl fp) h4) (fun s H C cl fp => sndE p (B s H C cl fp) h5) (fold_ok h2 _) (by rw [own_map]; exact all_mem h6)).2
      rw [own_map] at this
      exact this
    · cases h
  | .comp2 p own own2 tt i cs t2 i2 c2, c, X, W, e, G, h => by
    rw [ckL] at h; dsimp only at h
    split at h
    · rename_i pos
      simp only [Bool.and_eq_true] at h
      obtain ⟨⟨⟨⟨⟨⟨⟨⟨⟨⟨h1, h2⟩, h3⟩, h4⟩, h5⟩, h6⟩, h7⟩, h8⟩, h9⟩, h10⟩, h11⟩ := h
      have ok := L2.blkOk_by h1
      rw [← G.hN, ← G.sc] at ok
      obtain ⟨i1, i2'⟩ := sndI i G h2
      have B := fun s H C cl fp => G.blk ok.kind s H C cl fp
      have i3 := fun s H C cl fp => sndI i2 (B s H C cl fp) h8
      have := (l_comp2 (pos := pos) (Z := Z) (call := call) (gl := gl) (W := W) (t := tt) (i := i) (cs := cs) (pe := p) (t1 := t2) (i1 := i2) (cs1 := c2) (vs1 := own2) G.calm G.nd i1 ok (by rw [own_map]; exact all_mem h7) (fun s H C cl fp => g_ok (B s H C cl fp) h3) (fun s H C cl fp => sndC cs (B s H C cl fp) h4)
        (fun s H C cl fp => (i3 s H C cl fp).1) (fun s H C cl fp => g_ok (B s H C cl fp) h9) (fun s H C cl fp => sndC c2 (B s H C cl fp) h10) (fun s H C cl fp => sndE p (B s H C cl fp) h5) (fold_ok i2' _) (fun env x => fold_ok (i3 X.s_0 X.H_0 0 [] []).2 env x) (by rw [own_map]; exact all_mem h6) (all_mem h11)).2
      rw [own_map] at this
      exact this
    · cases h
  | .list a, c, X, W, e, G, h => by
    rw [ckL] at h; dsimp only at h
    split at h
    · simp only [Bool.and_eq_true, decide_eq_true_eq] at h
      obtain ⟨⟨⟨h1, h2⟩, h3⟩, h4⟩ := h
      subst h1
      obtain ⟨g1, g2⟩ := G.blt h2
      exact l_list g1 g2 h3 (sndE a G h4)
    · cases h
  | .listR _, c, X, W, e, G, h => by rw [ckL] at h; cases h
  | .cat a b, c, X, W, e, G, h => by
    rw [ckL] at h; dsimp only at h
    split at h
    · rw [Bool.and_eq_true] at h
      exact l_cat (sndE a G h.1) (sndE b G h.2)
    · cases h
  | .rep a b, c, X, W, e, G, h => by
    rw [ckL] at h; dsimp only at h
    split at h
    · rw [Bool.and_eq_true] at h
      exact l_rep (sndE a G h.1) (sndE b G h.2)
    · cases h
  | .cut _, c, X, W, e, G, h => by rw [ckL] at h; cases h
end
end EV
end
section
set_option Elab.async false
set_option linter.all false
set_option maxRecDepth 100000
set_option maxHeartbeats 4000000
/-! EV, part v: what is checked happens: statements, defs. -/
namespace EV
open L2 (V HO Hp upd upd_same upd_ne SqT SqL Rd Key Cx Ends TE TT TA TS TG TGs TI PE PT PA PS PSs PG PGs PI VK XK WX PC OpR R2 CallR FnOk FnScope FunD Room Gl Binds PassesAt CXT It Walk Itl Itt Itr Loc PTs PSet)
open PySem PySem.Spec

/-! ### which stores are swapped -/
def namesS (sc : Scope) (ts : List Expr) : List Str := ts.filterMap fun
    | .Name id pos => if sc.names.lookup id == some .local && pos.line == (ts.head?.map (·.pos.line)).getD 0 then some id else none
    | _ => none
def swNo (sc : Scope) (ts vs : List Expr) : Bool := (vs.length != ts.length) || vs.all (foldedForSure 8) || ((namesS sc ts).length != ts.length)
theorem block_fn {env : PySem.Env} (h : env.scope.kind = .function) : env.blockKind = .function := by unfold Env.blockKind; rw [h]; rfl
theorem swno_ok {env : PySem.Env} {ts vs : List Expr} {k k2 : Nat} {pt pt2 : Pos} (h : swNo env.scope ts vs = true) : swappedStores [.Tuple ts k pt] (.Tuple vs k2 pt2) env = pure none := by
  unfold swNo at h
  simp only [Bool.or_eq_true] at h
  unfold swappedStores
  simp only []
  split
  · rfl
  · rename_i h1
    split
    · rfl
    · split
      · rfl
      · rename_i h3
        split
        · rfl
        · rename_i h4
          exfalso
          simp only [Bool.or_eq_true, not_or] at h1 h3
          rcases h with (h | h) | h
          · exact h1.1.2 h
          · exact h4 h
          · exact h3.1 h
theorem sw2_ok {env : PySem.Env} {x y : Str} {px py pt pt2 : Pos} {k k2 : Nat} {e1 e2 : Expr} (hk : env.scope.kind = .function) (hx : env.scope.names.lookup x = some .local) (hy : env.scope.names.lookup y = some .local) (hl : (py.line == px.line) = true) (hxy : x ≠ y)
    (n : [e1, e2].all noStar = true) (hf : [e1, e2].all (foldedForSure 8) = false) (hc : [e1, e2].all (constantsAlone 8) = false) : swappedStores [.Tuple [.Name x px, .Name y py] k pt] (.Tuple [e1, e2] k2 pt2) env = pure (some [x, y]) := by
  have hs : ([e1, e2].any fun | .Starred .. => true | _ => false) = false := by
    simp only [List.all_cons, List.all_nil, Bool.and_true, Bool.and_eq_true] at n
    have key : ∀ e : Expr, noStar e = true → (match e with | .Starred .. => true | _ => false) = false := fun e h => by cases e <;> first | rfl | cases h
    simp only [List.any_cons, List.any_nil, Bool.or_false, key e1 n.1, key e2 n.2]
  have kx : env.kindOf x = some .local := hx
  have ky : env.kindOf y = some .local := hy
  have hb := block_fn hk
  have hne : (x == y) = false := beq_eq_false_iff_ne.mpr hxy
  have hne2 : (y == x) = false := beq_eq_false_iff_ne.mpr (Ne.symm hxy)
  unfold swappedStores
  have e1' : (py.line == px.line) = true := hl
  simp only [hs, hb, hf, hc, kx, ky, List.length_cons, List.length_nil, List.filterMap_cons, List.filterMap_nil, List.head?_cons, Option.map_some, Option.getD_some, Expr.pos, e1', beq_self_eq_true, Bool.and_self, if_true]
  simp [List.eraseDups, List.eraseDupsBy, List.eraseDupsBy.loop, hne, hne2]
  simp only [List.all_cons, List.all_nil, Bool.and_true, Bool.and_eq_true] at n
  intro h
  exfalso
  rcases h with h | h
  · have := n.1; cases e1 <;> first | (cases h; done) | (cases this; done)
  · have := n.2; cases e2 <;> first | (cases h; done) | (cases this; done)
theorem sw3_ok {env : PySem.Env} {x y z : Str} {px py pz pt pt2 : Pos} {k k2 : Nat} {e1 e2 e3 : Expr} (hk : env.scope.kind = .function) (hx : env.scope.names.lookup x = some .local) (hy : env.scope.names.lookup y = some .local) (hz : env.scope.names.lookup z = some .local)
    (hl : (py.line == px.line) = true) (hl2 : (pz.line == px.line) = true) (hxy : x ≠ y) (hxz : x ≠ z) (hyz : y ≠ z)
    (n : [e1, e2, e3].all noStar = true) (hf : [e1, e2, e3].all (foldedForSure 8) = false) (hc : [e1, e2, e3].all (constantsAlone 8) = false) : swappedStores [.Tuple [.Name x px, .Name y py, .Name z pz] k pt] (.Tuple [e1, e2, e3] k2 pt2) env = pure (some [x, y, z]) := by
  have hs : ([e1, e2, e3].any fun | .Starred .. => true | _ => false) = false := by
    simp only [List.all_cons, List.all_nil, Bool.and_true, Bool.and_eq_true] at n
    have key : ∀ e : Expr, noStar e = true → (match e with | .Starred .. => true | _ => false) = false := fun e h => by cases e <;> first | rfl | cases h
    simp only [List.any_cons, List.any_nil, Bool.or_false, key e1 n.1, key e2 n.2.1, key e3 n.2.2]
  have kx : env.kindOf x = some .local := hx
  have ky : env.kindOf y = some .local := hy
  have kz : env.kindOf z = some .local := hz
  have hb := block_fn hk
  have h1 : (x == y) = false := beq_eq_false_iff_ne.mpr hxy
  have h2 : (y == x) = false := beq_eq_false_iff_ne.mpr (Ne.symm hxy)
  have h3 : (x == z) = false := beq_eq_false_iff_ne.mpr hxz
  have h4 : (z == x) = false := beq_eq_false_iff_ne.mpr (Ne.symm hxz)
  have h5 : (y == z) = false := beq_eq_false_iff_ne.mpr hyz
  have h6 : (z == y) = false := beq_eq_false_iff_ne.mpr (Ne.symm hyz)
  unfold swappedStores
  simp only [hs, hb, hf, hc, kx, ky, kz, List.length_cons, List.length_nil, List.filterMap_cons, List.filterMap_nil, List.head?_cons, Option.map_some, Option.getD_some, Expr.pos, hl, hl2, beq_self_eq_true, Bool.and_self, if_true]
  simp [List.eraseDups, List.eraseDupsBy, List.eraseDupsBy.loop, h1, h2, h3, h4, h5, h6]
  simp only [List.all_cons, List.all_nil, Bool.and_true, Bool.and_eq_true] at n
  intro h
  exfalso
  rcases h with h | h | h
  · have := n.1; cases e1 <;> first | (cases h; done) | (cases this; done)
  · have := n.2.1; cases e2 <;> first | (cases h; done) | (cases this; done)
  · have := n.2.2; cases e3 <;> first | (cases h; done) | (cases this; done)
theorem swval_ok {env : PySem.Env} {tg e : Expr} (h : (match e with | .Tuple .. => false | _ => true) = true) : swappedStores [tg] e env = pure none := by
  unfold swappedStores
  cases e <;> first | (cases h; done) | (cases tg <;> rfl)

section
variable (t : Tab)
/-- names a pair's values are stored under -/
def ckPair (c : Ck) (a b : T) (p : E) (x y : Expr) (vs : List Expr) : Bool := match a, b, p, x, y, vs with
  | .name i, .name j, .tup es, .Name xn px, .Name yn py, [v1, v2] => decide (c.N[i]? = some xn) && decide (c.N[j]? = some yn) && decide (i ≠ j) && c.isLoc xn && c.isLoc yn && (py.line == px.line) && decide (xn ≠ yn) && vs.all noStar &&
      !(vs.all (foldedForSure 8)) && !(vs.all (constantsAlone 8)) && ckEs t es c [v1, v2]
  | _, _, _, _, _, _ => false
def ckTri (c : Ck) (a b d : T) (p : E) (x y z : Expr) (vs : List Expr) : Bool := match a, b, d, p, x, y, z, vs with
  | .name i, .name j, .name l, .tup es, .Name xn px, .Name yn py, .Name zn pz, [v1, v2, v3] => decide (c.N[i]? = some xn) && decide (c.N[j]? = some yn) && decide (c.N[l]? = some zn) && decide (i ≠ j) && decide (i ≠ l) && decide (j ≠ l) && c.isLoc xn && c.isLoc yn && c.isLoc zn &&
      (py.line == px.line) && (pz.line == px.line) && decide (xn ≠ yn) && decide (xn ≠ zn) && decide (yn ≠ zn) && vs.all noStar && !(vs.all (foldedForSure 8)) && !(vs.all (constantsAlone 8)) && ckEs t es c [v1, v2, v3]
  | _, _, _, _, _, _, _, _ => false
/-- a comprehension that is named on its line -/
def ckNamed (c : Ck) (y : Str) (py : Pos) (p : E) (e : Expr) : Bool := match e with
  | .ListComp _ _ scope pos => c.isLoc y && (py.line == pos.line) && !(scope.names.any fun (n, k) => n == y && (k == .local || k == .cell)) && (match p with
    | .fl l => (match l with | .comp .. => ckL t l c e | .compR .. => ckL t l c e | .comp2 .. => ckL t l c e | _ => false)
    | .nw l => (match l with | .comp .. => ckL t l c e | .compR .. => ckL t l c e | .comp2 .. => ckL t l c e | _ => false)
    | _ => false)
  | _ => false
def ckAsg (c : Ck) (tt : T) (p : E) (tg v : Expr) : Bool := match tg with
  | .Name x px => (match tt with
    | .name i => c.name i x && (match noComp v with | true => ckE t p c v | false => ckNamed t c x px p v || (c.isCell x && ckE t p c v))
    | _ => false)
  | .Tuple xs _ _ => (match v with
    | .Tuple vs _ _ => if swNo c.sc xs vs then ckG c tt tg && ckE t p c v else (match tt, xs with
      | .pair a b, [x, y] => ckPair t c a b p x y vs
      | .tri a b d, [x, y, z] => ckTri t c a b d p x y z vs
      | _, _ => false)
    | v => ckG c tt tg && ckE t p c v)
  | _ => false
mutual
def ckS : EV.S → Ck → Stmt → Bool
  | .asg tt e => fun c s => match s with | .Assign [tg] v _ => ckAsg t c tt e tg v | _ => false
  | .setI o i e => fun c s => match s with | .Assign [.Subscript x y _] v _ => notSlice y && ckE t o c x && ckE t i c y && ckE t e c v | _ => false
  | .set2 o i o2 i2 es => fun c s => match s with
    | .Assign [.Tuple [.Subscript x y _, .Subscript x2 y2 _] _ _] (.Tuple [v, v2] _ _) _ => notSlice y && notSlice y2 && ckE t o c x && ckE t i c y && ckE t o2 c x2 && ckE t i2 c y2 && ckEs t es c [v, v2]
    | _ => false
  | .setF cl o f e => fun c s => match s with | .Assign [.Attribute x nm _] v _ => decide ((cl, f) ∈ t.fld) && decide (t.fN f = nm) && ckE t o c x && ckE t e c v | _ => false
  | .expr e => fun c s => match s with | .Expr v _ => noComp v && ckE t e c v | _ => false
  | .ret e => fun c s => match s with | .Return (some v) _ => ckE t e c v | _ => false
  | .retN => fun _ s => match s with | .Return none _ => true | _ => false
  | .if_ d a b => fun c s => match s with | .If x ys zs _ => ckT t d c x && ckSs a c ys && ckSs b c zs | _ => false
  | .for_ tt i b => fun c s => match s with | .For tg iter body [] _ => ckI t i c tg iter && ckG c tt tg && ckSs b c body | _ => false
  | .while_ d b => fun c s => match s with | .While x body [] _ => ckT t d c x && ckSs b c body | _ => false
  | .raise _ _ _ => fun _ _ => false
  | .raise0 _ => fun _ _ => false
  | .brk => fun _ s => match s with | .Break _ => true | _ => false
  | .cont => fun _ s => match s with | .Continue _ => true | _ => false
  | .pass => fun _ s => match s with | .Pass _ => true | _ => false
  | .never => fun _ _ => true
def ckSs : Ss → Ck → List Stmt → Bool
  | .nil => fun _ xs => match xs with | [] => true | _ => false
  | .cons s r => fun c xs => match xs with | x :: y => ckS s c x && ckSs r c y | _ => false
end
end
variable {t : Tab} {k : Nat} {CX : CXT} {Z : Zt} {call : Nat → List D → M D} {gl : List D}
theorem named_ok {c : Ck} {X : Cx} {W : WX} (G : Good t k CX Z call gl c X W) {i : Nat} {y : Str} {py pos : Pos} {p : E} {v : Expr} (hi : X.N[i]? = some y) (h : ckNamed t c y py p v = true) :
    PS X (.Assign [.Name y py] v pos) (tS Z call gl X W (.asg (.name i) p)) := by
  unfold ckNamed at h
  split at h
  case h_2 => cases h
  rename_i elt gens scope vp
  simp only [Bool.and_eq_true, Bool.not_eq_true'] at h
  obtain ⟨⟨⟨h1, h2⟩, h3⟩, h4⟩ := h
  have key : ∀ (nw : Bool) (l : L), (match l with | .comp .. => ckL t l c (.ListComp elt gens scope vp) | .compR .. => ckL t l c (.ListComp elt gens scope vp) | .comp2 .. => ckL t l c (.ListComp elt gens scope vp) | _ => false) = true →
      PS X (.Assign [.Name y py] (.ListComp elt gens scope vp) pos) (tS Z call gl X W (.asg (.name i) (fn? nw l))) := by
    intro nw l hl
    cases l with
    | comp p own tt i' cs =>
      dsimp only at hl
      rw [ckL] at hl; dsimp only at hl
      split at hl
      · rename_i heq
        cases heq
        simp only [Bool.and_eq_true] at hl
        obtain ⟨⟨⟨⟨⟨g1, g2⟩, g3⟩, g4⟩, g5⟩, g6⟩ := hl
        have ok := L2.blkOk_by g1
        rw [← G.hN, ← G.sc] at ok
        obtain ⟨i1, i2⟩ := sndI i' G g2
        have B := fun s H C cl fp => G.blk ok.kind s H C cl fp
        have := st_setLc (Z := Z) (call := call) (gl := gl) (W := W) (t := tt) (i := i') (cs := cs) (pe := p) (nw := nw) (j := i) (py := py) (pos := vp) (spos := pos) G.calm G.nd hi (G.loc h1) G.kind h2 h3 i1 ok
          (fun s H C cl fp => g_ok (B s H C cl fp) g3) (fun s H C cl fp => sndC cs (B s H C cl fp) g4) (fun s H C cl fp => sndE p (B s H C cl fp) g5) (fold_ok i2 _) (by rw [own_map]; exact all_mem g6)
        rw [own_map] at this
        exact this
      · cases hl
    | compR p own tt a cs =>
      dsimp only at hl
      rw [ckL] at hl; dsimp only at hl
      split at hl
      · rename_i heq
        cases heq
        simp only [Bool.and_eq_true] at hl
        obtain ⟨⟨⟨⟨⟨⟨g1, g2⟩, g2'⟩, g3⟩, g4⟩, g5⟩, g6⟩ := hl
        have ok := L2.blkOk_by g1
        rw [← G.hN, ← G.sc] at ok
        have B := fun s H C cl fp => G.blk ok.kind s H C cl fp
        have := st_setLcR (Z := Z) (call := call) (gl := gl) (W := W) (t := tt) (a := a) (cs := cs) (pe := p) (nw := nw) (j := i) (py := py) (pos := vp) (spos := pos) G.calm G.nd hi (G.loc h1) G.kind h2 h3 (sndE a G g2') ok
          (fun s H C cl fp => g_ok (B s H C cl fp) g3) (fun s H C cl fp => sndC cs (B s H C cl fp) g4) (fun s H C cl fp => sndE p (B s H C cl fp) g5) (fold_ok g2 _) (by rw [own_map]; exact all_mem g6)
        rw [own_map] at this
        exact this
      · cases hl
    | comp2 p own own2 tt i' cs t2 i2 c2 =>
      dsimp only at hl
      rw [ckL] at hl; dsimp only at hl
      split at hl
      · rename_i heq
        cases heq
        simp only [Bool.and_eq_true] at hl
        obtain ⟨⟨⟨⟨⟨⟨⟨⟨⟨⟨g1, g2⟩, g3⟩, g4⟩, g5⟩, g6⟩, g7⟩, g8⟩, g9⟩, g10⟩, g11⟩ := hl
        have ok := L2.blkOk_by g1
        rw [← G.hN, ← G.sc] at ok
        obtain ⟨i1, i2'⟩ := sndI i' G g2
        have B := fun s H C cl fp => G.blk ok.kind s H C cl fp
        have i3 := fun s H C cl fp => sndI i2 (B s H C cl fp) g8
        have := st_setLc2 (Z := Z) (call := call) (gl := gl) (W := W) (t := tt) (i := i') (cs := cs) (pe := p) (t1 := t2) (i1 := i2) (cs1 := c2) (vs1 := own2) (nw := nw) (j := i) (py := py) (pos := vp) (spos := pos) G.calm G.nd hi (G.loc h1) G.kind h2 h3 i1 ok (by rw [own_map]; exact all_mem g7)
          (fun s H C cl fp => g_ok (B s H C cl fp) g3) (fun s H C cl fp => sndC cs (B s H C cl fp) g4) (fun s H C cl fp => (i3 s H C cl fp).1) (fun s H C cl fp => g_ok (B s H C cl fp) g9) (fun s H C cl fp => sndC c2 (B s H C cl fp) g10)
          (fun s H C cl fp => sndE p (B s H C cl fp) g5) (fold_ok i2' _) (fun env x => fold_ok (i3 X.s_0 X.H_0 0 [] []).2 env x) (by rw [own_map]; exact all_mem g6) (all_mem g11)
        rw [own_map] at this
        exact this
      · cases hl
    | _ => cases hl
  split at h4
  · exact key false _ h4
  · exact key true _ h4
  · cases h4
theorem pair_ok {c : Ck} {X : Cx} {W : WX} (G : Good t k CX Z call gl c X W) {a b : T} {p : E} {x y : Expr} {vs : List Expr} {kt k2 : Nat} {pt pt2 pos : Pos} (h : ckPair t c a b p x y vs = true) :
    PS X (.Assign [.Tuple [x, y] kt pt] (.Tuple vs k2 pt2) pos) (tS Z call gl X W (.asg (.pair a b) p)) := by
  unfold ckPair at h
  split at h
  · simp only [Bool.and_eq_true, decide_eq_true_eq, Bool.not_eq_true'] at h
    obtain ⟨⟨⟨⟨⟨⟨⟨⟨⟨⟨h1, h2⟩, h3⟩, h4⟩, h5⟩, h6⟩, h7⟩, h8⟩, h9⟩, h10⟩, h11⟩ := h
    exact st_par G.calm G.nd (by rw [G.hN]; exact h1) (by rw [G.hN]; exact h2) h3 (G.loc h4) (G.loc h5) (sndEs _ G h11) (sw2_ok G.kind (G.loc h4) (G.loc h5) h6 h7 h8 h9 h10)
  · cases h
theorem tri_ok {c : Ck} {X : Cx} {W : WX} (G : Good t k CX Z call gl c X W) {a b d : T} {p : E} {x y z : Expr} {vs : List Expr} {kt k2 : Nat} {pt pt2 pos : Pos} (h : ckTri t c a b d p x y z vs = true) :
    PS X (.Assign [.Tuple [x, y, z] kt pt] (.Tuple vs k2 pt2) pos) (tS Z call gl X W (.asg (.tri a b d) p)) := by
  unfold ckTri at h
  split at h
  · simp only [Bool.and_eq_true, decide_eq_true_eq, Bool.not_eq_true'] at h
    obtain ⟨⟨⟨⟨⟨⟨⟨⟨⟨⟨⟨⟨⟨⟨⟨⟨⟨h1, h2⟩, h3⟩, h4⟩, h5⟩, h6⟩, h7⟩, h8⟩, h9⟩, h10⟩, h11⟩, h12⟩, h13⟩, h14⟩, h15⟩, h16⟩, h17⟩, h18⟩ := h
    exact st_par3 G.calm G.nd (by rw [G.hN]; exact h1) (by rw [G.hN]; exact h2) (by rw [G.hN]; exact h3) h4 h5 h6 (G.loc h7) (G.loc h8) (G.loc h9) (sndEs _ G h18) (sw3_ok G.kind (G.loc h7) (G.loc h8) (G.loc h9) h10 h11 h12 h13 h14 h15 h16 h17)
  · cases h
theorem asg_ok {c : Ck} {X : Cx} {W : WX} (G : Good t k CX Z call gl c X W) {tt : T} {p : E} {tg v : Expr} {pos : Pos} (h : ckAsg t c tt p tg v = true) : PS X (.Assign [tg] v pos) (tS Z call gl X W (.asg tt p)) := by
  unfold ckAsg at h
  split at h
  · split at h
    case h_2 => cases h
    rw [Bool.and_eq_true] at h
    obtain ⟨h1, h2⟩ := h
    obtain ⟨n1, n2, n3⟩ := G.name h1
    split at h2
    · rename_i hn
      exact st_set G.nd n1 n2 n3 (sndE p G h2) (sw_none hn)
    · rw [Bool.or_eq_true, Bool.and_eq_true] at h2
      rcases h2 with h2 | ⟨h2, h3⟩
      · exact named_ok G n1 h2
      · refine st_set G.nd n1 n2 n3 (sndE p G h3) ?_
        have kc := G.cell h2
        have hk : X.env.kindOf _ = some .cell := kc
        have hcl : (NameKind.cell == NameKind.local) = false := by decide
        unfold swapsWith
        cases v <;> first | rfl | (simp [hk, hcl]; done) | (simp [hk, hcl]; rfl)
  · split at h
    · split at h
      · rename_i hsw
        rw [Bool.and_eq_true] at h
        exact st_asg (g_ok G h.1) (sndE p G h.2) sw_tup (swno_ok (by rw [G.sc]; exact hsw)) rfl
      · split at h
        · exact pair_ok G h
        · exact tri_ok G h
        · cases h
    · rename_i hv
      rw [Bool.and_eq_true] at h
      refine st_asg (g_ok G h.1) (sndE p G h.2) sw_tup (swval_ok ?_) rfl
      cases v <;> first | rfl | exact absurd rfl (hv _ _ _)
  · cases h
mutual
theorem sndS : ∀ (p : EV.S) {c : Ck} {X : Cx} {W : WX} {s : Stmt}, Good t k CX Z call gl c X W → ckS t p c s = true → PS X s (tS Z call gl X W p)
  | .asg tt e, c, X, W, s, G, h => by
    rw [ckS] at h; dsimp only at h
    split at h
    · exact asg_ok G h
    · cases h
  | .setI o i e, c, X, W, s, G, h => by
    rw [ckS] at h; dsimp only at h
    split at h
    · simp only [Bool.and_eq_true] at h
      obtain ⟨⟨⟨h1, h2⟩, h3⟩, h4⟩ := h
      exact st_setI h1 G.room G.hZ (sndE o G h2) (sndE i G h3) (sndE e G h4)
    · cases h
  | .set2 o i o2 i2 es, c, X, W, s, G, h => by
    rw [ckS] at h; dsimp only at h
    split at h
    · simp only [Bool.and_eq_true] at h
      obtain ⟨⟨⟨⟨⟨⟨h1, h2⟩, h3⟩, h4⟩, h5⟩, h6⟩, h7⟩ := h
      exact st_set2 h1 h2 G.calm G.room G.hZ (sndE o G h3) (sndE i G h4) (sndE o2 G h5) (sndE i2 G h6) (sndEs es G h7)
    · cases h
  | .setF cl o f e, c, X, W, s, G, h => by
    rw [ckS] at h; dsimp only at h
    split at h
    · simp only [Bool.and_eq_true, decide_eq_true_eq] at h
      obtain ⟨⟨⟨h1, h2⟩, h3⟩, h4⟩ := h
      obtain ⟨g1, g2⟩ := G.fld _ _ h1
      rw [← h2, ← G.fN]
      exact st_setF G.hF g1 g2 (sndE o G h3) (sndE e G h4)
    · cases h
  | .expr e, c, X, W, s, G, h => by
    rw [ckS] at h; dsimp only at h
    split at h
    · rw [Bool.and_eq_true] at h
      exact st_expr h.1 (sndE e G h.2)
    · cases h
  | .ret e, c, X, W, s, G, h => by
    rw [ckS] at h; dsimp only at h
    split at h
    · exact st_ret (sndE e G h)
    · cases h
  | .retN, c, X, W, s, G, h => by
    rw [ckS] at h; dsimp only at h
    split at h
    · exact st_retN
    · cases h
  | .if_ d a b, c, X, W, s, G, h => by
    rw [ckS] at h; dsimp only at h
    split at h
    · simp only [Bool.and_eq_true] at h
      exact st_if (sndT d G h.1.1).1 (sndSs a G h.1.2) (sndSs b G h.2)
    · cases h
  | .for_ tt i b, c, X, W, s, G, h => by
    rw [ckS] at h; dsimp only at h
    split at h
    · simp only [Bool.and_eq_true] at h
      obtain ⟨⟨h1, h2⟩, h3⟩ := h
      obtain ⟨i1, i2⟩ := sndI i G h1
      exact st_for G.own G.calm i1 (g_ok G h2) (sndSs b G h3) (fold_ok i2 _)
    · cases h
  | .while_ d b, c, X, W, s, G, h => by
    rw [ckS] at h; dsimp only at h
    split at h
    · rw [Bool.and_eq_true] at h
      exact st_while G.own (sndT d G h.1).1 (sndSs b G h.2)
    · cases h
  | .raise _ _ _, c, X, W, s, G, h => by rw [ckS] at h; cases h
  | .raise0 _, c, X, W, s, G, h => by rw [ckS] at h; cases h
  | .brk, c, X, W, s, G, h => by
    rw [ckS] at h; dsimp only at h
    split at h
    · exact st_brk
    · cases h
  | .cont, c, X, W, s, G, h => by
    rw [ckS] at h; dsimp only at h
    split at h
    · exact st_cont
    · cases h
  | .pass, c, X, W, s, G, h => by
    rw [ckS] at h; dsimp only at h
    split at h
    · exact st_pass
    · cases h
  | .never, c, X, W, s, G, h => st_never
theorem sndSs : ∀ (p : Ss) {c : Ck} {X : Cx} {W : WX} {xs : List Stmt}, Good t k CX Z call gl c X W → ckSs t p c xs = true → PSs X xs (tSs Z call gl X W p)
  | .nil, c, X, W, xs, G, h => by
    rw [ckSs] at h; dsimp only at h
    split at h
    · exact ss_nil
    · cases h
  | .cons s r, c, X, W, xs, G, h => by
    rw [ckSs] at h; dsimp only at h
    split at h
    · rw [Bool.and_eq_true] at h
      exact ss_cons (sndS s G h.1) (sndSs r G h.2)
    · cases h
end
end EV
end
section
set_option Elab.async false
set_option linter.all false
set_option maxRecDepth 100000
set_option maxHeartbeats 4000000
/-! EV, part w: all defs of a text. -/
namespace EV
open L2 (V HO Hp upd upd_same upd_ne SqT SqL Rd Key Cx Ends TE TT TA TS TG TGs TI PE PT PA PS PSs PG PGs PI VK XK WX PC OpR R2 CallR FnOk FnScope FunD Room Gl Binds PassesAt CXT It Walk Itl Itt Itr Loc PTs PSet)
open PySem PySem.Spec

/-- a def: where the text has it, its names, its text in the small language -/
structure Df where
  d : He.DefD
  N : List Str
  ps : List Str
  f : F
def Df.ok (t : Tab) (x : Df) : Bool :=
  (match x.d.scope.kind with | .function => true | _ => false) && !x.d.scope.isCoroutine && !x.d.scope.isGenerator && decide x.N.Nodup && decide (x.N.take x.ps.length = x.ps) &&
    x.ps.all (fun p => match x.d.scope.names.lookup p with | some .local => true | some .cell => true | _ => false) && x.d.scope.names.all (fun y => match y.2 with | .free => false | _ => true) &&
    decide (x.f.ps = x.ps.length) && decide (x.f.ns = x.N.length) && ckSs t x.f.body ⟨x.N, x.d.scope, fun _ => true⟩ x.d.body && x.d.dfl.isEmpty && x.d.kwd.isEmpty
def Df.bnd (x : Df) : Prop := ∀ (kV doc pm : Value) (an : Option Addr) (cdv ct : Value) (us : List Value), us.length = x.ps.length → bindArgs (PySem.W.fnOf x.d.name x.d.qual x.d.params x.d.body x.d.scope .none kV doc pm an cdv ct) ⟨us, []⟩ = pure (x.ps.zip us)
def Df.kbnd (x : Df) (ks : List Str) (perm : List Nat) : Prop := ∀ (kV doc pm : Value) (an : Option Addr) (cdv ct : Value) (ws : List Value), ws.length = perm.length →
  bindArgs (PySem.W.fnOf x.d.name x.d.qual x.d.params x.d.body x.d.scope .none kV doc pm an cdv ct) ⟨[], ks.zip ws⟩ = pure (x.ps.zip (pick perm ws))
def FDof (K : PySem.W.Frag) (x : Df) (fd : FuncData) : Prop := FunD K x.d.name x.d.qual x.d.params x.d.body x.d.scope [] [] (He.fAd K x.d.at_) fd
/-- fields' names: those of the text, then others -/
def fieldName (names : List Str) (n : Nat) : Str := match names[n]? with
  | some x => x
  | none => ⟨Array.replicate (n + 1000) 65⟩
theorem fieldName_inj {names : List Str} (nd : names.Nodup) (short : ∀ x ∈ names, x.cps.size < 1000) : ∀ m n, fieldName names m = fieldName names n → m = n := by
  intro m n h
  unfold fieldName at h
  cases e1 : names[m]? with
  | none =>
    cases e2 : names[n]? with
    | none =>
      rw [e1, e2] at h
      have := congrArg (fun x : Str => x.cps.size) h
      simp at this
      exact this
    | some y =>
      rw [e1, e2] at h
      have := congrArg (fun x : Str => x.cps.size) h
      have hy := short y (List.mem_of_getElem? e2)
      simp at this
      omega
  | some x =>
    cases e2 : names[n]? with
    | none =>
      rw [e1, e2] at h
      have := congrArg (fun x : Str => x.cps.size) h
      have hx := short x (List.mem_of_getElem? e1)
      simp at this
      omega
    | some y =>
      rw [e1, e2] at h
      have hm := lt_of_get e1
      have h' : names[m]? = names[n]? := by rw [e1, e2, show x = y from h]
      exact (List.getElem?_inj hm nd).mp h'
/-- what holds of the text's globals -/
structure Wd (dfs : List Df) (t : Tab) (Z : Zt) (gl : List D) (K : PySem.W.Frag) (mg : Str → Option Value) : Prop where
  hF : ∀ m n, Z.fN m = Z.fN n → m = n
  fN : ∀ f, Z.fN f = t.fN f
  ok : ∀ x ∈ dfs, x.ok t = true
  bnd : ∀ x ∈ dfs, x.bnd
  defs : ∀ x ∈ dfs, ∃ fd, FDof K x fd
  glo : ∀ x g, (x, g) ∈ t.glo → ∃ v u, mg x = some u ∧ L2.RelV v u ∧ ∀ d, gl[g]? = some d → ∀ w H, Rep K Z w H d v
  fns : ∀ x f, (x, f) ∈ t.fns → ∃ df, dfs[f]? = some df ∧ mg x = some (.ref (He.fAd K df.d.at_))
  kws : ∀ x f ks perm, (x, f, ks, perm) ∈ t.kws → ∃ df, dfs[f]? = some df ∧ mg x = some (.ref (He.fAd K df.d.at_)) ∧ df.kbnd ks perm
  mks : ∀ x cl f, (x, cl, f) ∈ t.mks → ∃ df, dfs[f]? = some df ∧ mg x = some (.ref (Z.cA cl)) ∧ L2.Mk K (Z.cA cl) (He.fAd K df.d.at_)
  mth : ∀ cl m f, (cl, m, f) ∈ t.mth → ∃ df, dfs[f]? = some df ∧ L2.Cls K (Z.cA cl) ∧ L2.Meth K (Z.cA cl) (Z.fN m) (He.fAd K df.d.at_)
  fld : ∀ cl f, (cl, f) ∈ t.fld → L2.Cls K (Z.cA cl) ∧ L2.NoAttr K (Z.cA cl) (Z.fN f)
  free : ∀ x, x ∈ t.free → mg x = none
  gcd : t.gcd = true → mg "gcd" = some (.builtin "math.gcd")

theorem bindsK {K : PySem.W.Frag} {x : Df} {fd : FuncData} (h : FDof K x fd) (hb : x.bnd) : Binds K fd x.ps [] := FunD.bindsN h hb
theorem bindsKW {K : PySem.W.Frag} {x : Df} {fd : FuncData} {ks : List Str} {perm : List Nat} (h : FDof K x fd) (hb : x.kbnd ks perm) (s : Shared) (ws : List Value) (hl : ws.length = perm.length) : BindsTo s fd ⟨[], ks.zip ws⟩ (x.ps.zip (pick perm ws)) := by
  obtain ⟨oc, od, dV, kV, doc, pm, an, cdv, ct, osl, rfl, lk, hcd, hD, hK⟩ := h.ex
  rcases hD with ⟨_, rfl⟩ | ⟨e, _⟩
  · exact .of_eq (hb kV doc pm an cdv ct ws hl)
  · exact absurd rfl e
theorem start_get {n : Nat} {ds : List D} {i : Nat} {d : D} (h : (start n ds)[i]? = some (some d)) : ds[i]? = some d := by
  unfold start at h
  rcases Nat.lt_or_ge i ds.length with hi | hi
  · rw [List.getElem?_append_left (by simpa using hi), List.getElem?_map] at h
    cases e : ds[i]? with
    | none => rw [e] at h; cases h
    | some x => rw [e] at h; simpa using h
  · rw [List.getElem?_append_right (by simpa using hi), List.getElem?_replicate] at h
    split at h <;> cases h
theorem start_rel {K : PySem.W.Frag} {Z : Zt} {w : Wl} {H : Hp} {ds : List D} {vs : List V} {N : List Str} (h : Reps K Z w H ds vs) : ERel K Z w H (start N.length ds) (L2.start N vs) := by
  have hl := Reps.len h
  refine ⟨by unfold start L2.start; simp [hl], fun i d e => ?_⟩
  have e2 := start_get e
  obtain ⟨v, h1, h2⟩ := Reps.get h e2
  refine ⟨v, ?_, h2⟩
  unfold L2.start
  rw [List.getElem?_append_left (by simpa using lt_of_get h1), List.getElem?_map, h1]
  rfl
variable {dfs : List Df} {t : Tab} {Z : Zt} {gl : List D} {P : Program} {w : World} {K : PySem.W.Frag} {mg : Str → Option Value} {base : Heap}
theorem scope_ok {x : Df} (h : x.ok t = true) : FnScope x.N x.ps x.d.scope ∧ x.f.ps = x.ps.length ∧ x.f.ns = x.N.length ∧ ckSs t x.f.body ⟨x.N, x.d.scope, fun _ => true⟩ x.d.body = true := by
  unfold Df.ok at h
  simp only [Bool.and_eq_true, decide_eq_true_eq, Bool.not_eq_true', List.all_eq_true] at h
  obtain ⟨⟨⟨⟨⟨⟨⟨⟨⟨⟨⟨h1, h2⟩, h3⟩, h4⟩, h5⟩, h6⟩, h7⟩, h8⟩, h9⟩, h10⟩, h11⟩, h12⟩ := h
  refine ⟨⟨?_, h2, h3, h4, h5, fun y hy => ?_, fun y hy e => ?_⟩, h8, h9, h10⟩
  · split at h1
    · assumption
    · cases h1
  · have := h6 y hy
    split at this
    · exact .inl (by assumption)
    · exact .inr (by assumption)
    · cases this
  · have := h7 y hy
    rw [e] at this
    cases this
/-- every def keeps its promise at every level -/
theorem all_ok (hZ : Z.P = P ∧ Z.w = w) (G : Wd dfs t Z gl K mg) : ∀ (n f : Nat) (x : Df) (fd : FuncData), dfs[f]? = some x → FDof K x fd →
    FnOk P w K mg base (L2.CX P w) (2 * n) (He.fAd K x.d.at_) fd x.ps (spF K Z (callF (dfs.map (·.f)) gl n f))
  | 0, f, x, fd, hx, hfd => by
    have no : ∀ {vs H Q E}, ¬ spF K Z (callF (dfs.map (·.f)) gl 0 f) vs H Q E := fun ⟨w, S, ds, _, _, h⟩ => h
    exact ⟨fun vs H Q E h => (no h).elim, fun A outer s H args us vs Q E _ _ _ _ h => (no h).elim⟩
  | n + 1, f, x, fd, hx, hfd => by
    obtain ⟨sc, hps, hns, hck⟩ := scope_ok (G.ok x (List.mem_of_getElem? hx))
    have hcall : ∀ ds, callF (dfs.map (·.f)) gl (n + 1) f ds = runF (callF (dfs.map (·.f)) gl n) gl x.f ds := fun ds => by
      rw [callF, List.getElem?_map, hx]
      rfl
    have ih := all_ok hZ G n
    refine FunD.ok hfd sc (fun vs H Q E ⟨w', S, ds, s, hr, h⟩ => ?_) fun cdv A outer s H vs Q E hr h => ?_
    · rw [hcall] at h
      by_cases hl : ds.length = x.f.ps
      · rw [← Reps.len hr, hl, hps]
      · exact (h.bad (by unfold runF; rw [if_neg hl])).elim
    · obtain ⟨w', S, ds, s', hrp, h⟩ := h
      rw [hcall] at h
      by_cases hl : ds.length = x.f.ps
      case neg => exact (h.bad (by unfold runF; rw [if_neg hl])).elim
      generalize hX : L2.cxOf (L2.CX P w) P w K mg base x.N x.d.qual x.d.scope (He.fAd K x.d.at_) cdv A outer s H E = X
      have tk : L2.Takes X (fun cls d _ H => E cls d H) := by
        subst hX
        exact L2.takes_of rfl rfl rfl rfl
      have own : PassesOwn (model X.prog X.w) X.A X.env X.xe := by
        subst hX
        exact L2.passes_of rfl
      have fin : ∀ {g : Nat} {df : Df}, dfs[g]? = some df → ∃ fd, FDof K df fd ∧ FnOk P w K mg base (L2.CX P w) (2 * n) (He.fAd K df.d.at_) fd df.ps (spF K Z (callF (dfs.map (·.f)) gl n g)) ∧ PySem.W.keepIn K (.ref (He.fAd K df.d.at_)) = true ∧ Binds K fd df.ps [] := fun {g df} e => by
        obtain ⟨fd, hf⟩ := G.defs df (List.mem_of_getElem? e)
        exact ⟨fd, hf, ih g df fd e hf, hf.kp, bindsK hf (G.bnd df (List.mem_of_getElem? e))⟩
      have good : Good t (2 * n) (L2.CX P w) Z (callF (dfs.map (·.f)) gl n) gl ⟨x.N, x.d.scope, fun _ => true⟩ X (fun cls d _ H => E cls d H) := by
        subst hX
        exact {
          nd := sc.nd
          hN := rfl
          sc := rfl
          fn := fun _ _ => rfl
          calm := rfl
          room := hr
          hZ := hZ
          hF := G.hF
          fN := G.fN
          pass := fun σ => L2.passAt tk σ
          cx0 := fun outer H s u s' ⟨_, _, _, _, _, _, _, _, _, _, _, _, h⟩ => h
          own := own
          kind := sc.kind
          glo := G.glo
          fns := fun y g e => by
            obtain ⟨df, e1, e2⟩ := G.fns y g e
            obtain ⟨fd, h1, h2, h3, h4⟩ := fin e1
            exact ⟨_, fd, df.ps, h2, e2, h3, h4⟩
          kws := fun y g ks perm e => by
            obtain ⟨df, e1, e2, e3⟩ := G.kws y g ks perm e
            obtain ⟨fd, h1, h2, h3, h4⟩ := fin e1
            exact ⟨_, fd, df.ps, h2, e2, h3, fun s ws hw => bindsKW h1 e3 s ws hw⟩
          mks := fun y cl g e => by
            obtain ⟨df, e1, e2, e3⟩ := G.mks y cl g e
            obtain ⟨fd, h1, h2, h3, h4⟩ := fin e1
            exact ⟨_, fd, df.ps, h2, e2, e3, h4⟩
          mth := fun cl m g e => by
            obtain ⟨df, e1, e2, e3⟩ := G.mth cl m g e
            obtain ⟨fd, h1, h2, h3, h4⟩ := fin e1
            exact ⟨_, fd, df.ps, h2, e2, e3, h4⟩
          fld := G.fld
          free := G.free
          gcd := G.gcd }
      refine ⟨tSs Z (callF (dfs.map (·.f)) gl n) gl X (fun cls d _ H => E cls d H) x.f.body, sndSs _ good hck, ?_⟩
      have hK : X.K = K := by subst hX; rfl
      refine ⟨w', S, start x.f.ns ds, ⟨by rw [hK]; exact s', by rw [hK, hns]; exact start_rel hrp⟩, ?_⟩
      rw [hK]
      unfold Aft runF at h
      simp only [if_pos hl] at h
      unfold AftR
      cases er : evalSs (callF (dfs.map (·.f)) gl n) gl x.f.body (start x.f.ns ds) S with
      | bad => simp only [er] at h
      | exc c ns vs r S1 =>
        simp only [er] at h
        exact fun w1 H1 σ' d p1 s1 _ xd => h w1 H1 d p1 s1 xd
      | ok fl S1 =>
        cases fl with
        | nx r =>
          simp only [er] at h
          exact fun w1 H1 σ' p1 s1 _ => h w1 H1 p1 s1 .non (by rw [Rep])
        | rt d =>
          simp only [er] at h
          exact fun w1 H1 v p1 s1 hv => h w1 H1 p1 s1 v hv
        | bk r => simp only [er] at h
        | ct r => simp only [er] at h
/-- the script, a list of ints that stands in the heap -/
theorem law_ok {n f : Nat} {x : Df} (h : ∀ is : List Int, is.length ≤ 63 → ∃ S, callF (dfs.map (·.f)) gl n f [.sl (is.map D.int)] [] = .ok (.bl true) S) {H : Hp} {a : Addr} {is : List Int} (hl : is.length ≤ 63) (hS : SqL K H a (is.map V.int)) :
    spF K Z (callF (dfs.map (·.f)) gl n f) [.ref a] H (fun v _ => v = .bl true) (fun _ _ _ => False) := by
  obtain ⟨S, e⟩ := h is hl
  have ri : ∀ is : List Int, Reps K Z ⟨[], []⟩ H (is.map D.int) (is.map V.int) := fun is => by
    induction is with
    | nil => exact Reps.nil
    | cons i is ih => exact Reps.cons (by rw [Rep]) ih
  refine ⟨⟨[], []⟩, [], [.sl (is.map D.int)], ⟨rfl, fun n m a e => by simp at e, fun n a e => by simp at e, fun a m => by simp at m, fun n o e => by simp at e⟩, Reps.one ?_, aft_of e fun w' H' p s v hv => ?_⟩
  · rw [Rep]
    refine ⟨a, is.map V.int, rfl, ?_, ri is⟩
    rcases hS with h | h
    · exact .inl ⟨⟨fun n e => by simp at e, by simp⟩, h⟩
    · exact .inr fun J => .inr h
  · rw [rep_bl] at hv
    exact hv
end EV
end
section
set_option Elab.async false
set_option linter.all false
set_option maxRecDepth 100000
set_option maxHeartbeats 4000000
/-! EV, part z: the head's facts, the law's end. -/
namespace EV
open L2 (V HO Hp SqT SqL FnOk FnScope FunD Room Gl Binds)
open PySem PySem.Spec

/-- a constant of the module -/
inductive Gc where
  | int (i : Int)
  | tup (xs : List Int)
def Gc.d : Gc → D
  | .int i => .int i
  | .tup xs => .tup (xs.map D.int)
def faOf (t : Tab) (cn : Nat → Str) (gs : List (Str × Gc)) : List He.Fa :=
  (t.fns.map fun p => He.Fa.glo p.1) ++ ((t.kws.map fun p => He.Fa.glo p.1) ++ ((t.mks.map fun p => He.Fa.glo p.1) ++ ((t.mks.map fun p => He.Fa.mkr p.1) ++ ((t.mth.map fun p => He.Fa.cls (cn p.1)) ++ ((t.mth.map fun p => He.Fa.meth (cn p.1) (t.fN p.2.1)) ++
    ((t.fld.map fun p => He.Fa.cls (cn p.1)) ++ ((t.fld.map fun p => He.Fa.noat (cn p.1) (t.fN p.2)) ++ ((t.free.map fun x => He.Fa.free x) ++ (gs.map fun p => match p.2 with | .int i => He.Fa.int p.1 i | .tup _ => He.Fa.glo p.1)))))))))
def exOf (t : Tab) (gs : List (Str × Gc)) (K : PySem.W.Frag) : Bool :=
  (gs.all fun p => match p.2 with | .int _ => true | .tup xs => He.tupB K p.1 (xs.map He.Dv.int)) && (!t.gcd || He.eqO (PySem.W.nsIn K mainGlobals "gcd") (some (some (.builtin "math.gcd"))))
/-- what the module's names reach in four steps, one after another -/
def growN (g : Addr → Option Obj) (as : List Addr) : List Addr := as.flatMap fun a => match g a with
  | some o => He.refsD o
  | none => []
def asN (g : Addr → Option Obj) : Nat → List Addr → List Addr
  | 0, as => as
  | n + 1, as => as ++ asN g n (growN g as)
abbrev AlW : Type := He.AlD × Bool
def obsW (n : Nat) (fa : List He.Fa) (fn : List He.DefD) (ex : PySem.W.Frag → Bool) (g : Addr → Option Obj) : AlW := (He.obsD fa fn (He.frG g (asN g n [mainGlobals])), ex (He.frG g (asN g n [mainGlobals])))
def hookW (n : Nat) (fa : List He.Fa) (fn : List He.DefD) (ex : PySem.W.Frag → Bool) : PySem.W.Hook where
  α := AlW
  obs := fun s => obsW n fa fn ex s.heap.get?
  val := fun _ => (He.valD fn, true)
  says := fun _ h => ∃ K : PySem.W.Frag, K.In h ∧ He.SaysD fa fn K ∧ ex K = true
  of := fun _ _ e => ⟨_, He.frG_in, congrArg (fun z : AlW => z.1) e, congrArg (fun z : AlW => z.2) e⟩
  keeps := fun _ _ _ ⟨K, hK, c⟩ k => ⟨K, PySem.W.Frag.In.keeps hK k, c⟩
theorem obsW_eq {n : Nat} {fa : List He.Fa} {fn : List He.DefD} {ex : PySem.W.Frag → Bool} {g : Addr → Option Obj} {s : Shared} (h : ∀ a, g a = s.heap.get? a) : obsW n fa fn ex g = (hookW n fa fn ex).obs s := by
  have e : g = s.heap.get? := funext h
  rw [e] <;> rfl
/-- how table and defs hang together -/
def tabOk (dfs : List Df) (t : Tab) (cn : Nat → Str) (gs : List (Str × Gc)) : Bool :=
  (t.fns.all fun p => match dfs[p.2]? with | some df => decide (df.d.at_ = (p.1, none)) | none => false) && ((t.kws.all fun p => match dfs[p.2.1]? with | some df => decide (df.d.at_ = (p.1, none)) | none => false) &&
    ((t.mks.all fun p => decide (cn p.2.1 = p.1) && match dfs[p.2.2]? with | some df => decide (df.d.at_ = (p.1, some ("__init__" : Str))) | none => false) &&
      ((t.mth.all fun p => match dfs[p.2.2]? with | some df => decide (df.d.at_ = (cn p.1, some (t.fN p.2.1))) | none => false) &&
        (t.glo.all fun p => match gs[p.2]? with | some q => decide (q.1 = p.1) | none => false))))
def Bnds : List Df → Prop
  | [] => True
  | x :: r => x.bnd ∧ Bnds r
theorem bnds_mem : ∀ {l : List Df}, Bnds l → ∀ x ∈ l, x.bnd
  | [], _, _, h => nomatch h
  | y :: r, ⟨h1, h2⟩, x, h => (List.mem_cons.mp h).elim (fun e => by rw [e]; exact h1) (bnds_mem h2 x)
def KBnds (dfs : List Df) : List (Str × Nat × List Str × List Nat) → Prop
  | [] => True
  | p :: r => (∀ df, dfs[p.2.1]? = some df → df.kbnd p.2.2.1 p.2.2.2) ∧ KBnds dfs r
theorem kbnds_mem {dfs : List Df} : ∀ {l : List (Str × Nat × List Str × List Nat)}, KBnds dfs l → ∀ p ∈ l, ∀ df, dfs[p.2.1]? = some df → df.kbnd p.2.2.1 p.2.2.2
  | [], _, _, h => nomatch h
  | y :: r, ⟨h1, h2⟩, x, h => (List.mem_cons.mp h).elim (fun e => by rw [e]; exact h1) (kbnds_mem h2 x)
variable {dfs : List Df} {t : Tab} {cn : Nat → Str} {gs : List (Str × Gc)} {K : PySem.W.Frag} {h : Heap} {mg : Str → Option Value} {P : Program} {w : World}
theorem wd_of (X : K.In h) (G : h.Ns mainGlobals mg) (c : He.SaysD (faOf t cn gs) (dfs.map (·.d)) K) (ex : exOf t gs K = true) (hok : (dfs.all fun x => x.ok t) = true) (htab : tabOk dfs t cn gs = true) (hb : Bnds dfs) (hk : KBnds dfs t.kws)
    (hF : ∀ m n, t.fN m = t.fN n → m = n) : Wd dfs t ⟨P, w, fun c => He.ga K (cn c), t.fN⟩ (gs.map fun p => p.2.d) K mg := by
  unfold tabOk at htab
  simp only [Bool.and_eq_true, List.all_eq_true] at htab
  obtain ⟨t1, t2, t3, t4, t5⟩ := htab
  unfold exOf at ex
  simp only [Bool.and_eq_true, List.all_eq_true] at ex
  obtain ⟨x1, x2⟩ := ex
  have F : ∀ {f : He.Fa}, f ∈ faOf t cn gs → f.ok K = true := fun hf => c.facts hf
  unfold faOf at F
  simp only [List.mem_append] at F
  refine {
    hF := hF
    fN := fun _ => rfl
    ok := List.all_eq_true.mp hok
    bnd := bnds_mem hb
    defs := fun x hx => ?_
    glo := fun x g e => ?_
    fns := fun x f e => ?_
    kws := fun x f ks perm e => ?_
    mks := fun x cl f e => ?_
    mth := fun cl m f e => ?_
    fld := fun cl f e => ?_
    free := fun x e => ?_
    gcd := fun e => ?_ }
  · have hx2 := List.all_eq_true.mp hok x hx
    unfold Df.ok at hx2
    simp only [Bool.and_eq_true, List.isEmpty_iff] at hx2
    obtain ⟨fd, hf⟩ := c.defs (List.mem_map.mpr ⟨x, hx, rfl⟩)
    refine ⟨fd, ?_⟩
    unfold He.DefD.dvs He.DefD.kws at hf
    rw [hx2.1.2, hx2.2] at hf
    exact hf
  · have q := t5 _ e
    simp only at q
    split at q
    case h_2 => cases q
    rename_i p hp
    rw [decide_eq_true_eq] at q
    obtain ⟨y, gc⟩ := p
    simp only at q
    subst q
    have hg : (gs.map fun p => p.2.d)[g]? = some gc.d := by rw [List.getElem?_map, hp]; rfl
    have hm := List.mem_of_getElem? hp
    cases gc with
    | int i =>
      obtain ⟨tk, ht⟩ := He.int_ok X G (F (f := He.Fa.int y i) (.inr (.inr (.inr (.inr (.inr (.inr (.inr (.inr (.inr (List.mem_map.mpr ⟨_, hm, rfl⟩)))))))))))
      refine ⟨.int i, _, ht, ⟨tk, rfl⟩, fun d hd w H => ?_⟩
      rw [hg] at hd
      cases hd
      show Rep K _ w H (.int i) _
      rw [Rep]
    | tup xs =>
      have ht := He.glo_ok X G (F (f := He.Fa.glo y) (.inr (.inr (.inr (.inr (.inr (.inr (.inr (.inr (.inr (List.mem_map.mpr ⟨_, hm, rfl⟩)))))))))))
      refine ⟨.ref (He.ga K y), _, ht, rfl, fun d hd wl H => ?_⟩
      rw [hg] at hd
      cases hd
      have hs := He.tupB_ok (x1 _ hm) H
      rw [List.map_map] at hs
      show Rep K _ wl H (.tup (xs.map D.int)) _
      rw [Rep]
      refine ⟨_, _, rfl, hs, ?_⟩
      have : ∀ l : List Int, Reps K (⟨P, w, fun c => He.ga K (cn c), t.fN⟩ : Zt) wl H (l.map D.int) (l.map (He.Dv.v K ∘ He.Dv.int)) := fun l => by
        induction l with
        | nil => exact Reps.nil
        | cons i l ih => exact Reps.cons (by rw [Rep]; rfl) ih
      exact this xs
  · have q := t1 _ e
    simp only at q
    split at q
    case h_2 => cases q
    rename_i df hp
    rw [decide_eq_true_eq] at q
    refine ⟨df, hp, ?_⟩
    rw [q]
    exact He.glo_ok X G (F (f := He.Fa.glo x) (.inl (List.mem_map.mpr ⟨_, e, rfl⟩)))
  · have q := t2 _ e
    simp only at q
    split at q
    case h_2 => cases q
    rename_i df hp
    rw [decide_eq_true_eq] at q
    refine ⟨df, hp, ?_, kbnds_mem hk _ e df hp⟩
    rw [q]
    exact He.glo_ok X G (F (f := He.Fa.glo x) (.inr (.inl (List.mem_map.mpr ⟨_, e, rfl⟩))))
  · have q := t3 _ e
    simp only [Bool.and_eq_true, decide_eq_true_eq] at q
    obtain ⟨q1, q⟩ := q
    split at q
    case h_2 => cases q
    rename_i df hp
    rw [decide_eq_true_eq] at q
    refine ⟨df, hp, ?_, ?_⟩
    · show mg x = some (.ref (He.ga K (cn cl)))
      rw [q1]
      exact He.glo_ok X G (F (f := He.Fa.glo x) (.inr (.inr (.inl (List.mem_map.mpr ⟨_, e, rfl⟩)))))
    · show L2.Mk K (He.ga K (cn cl)) _
      rw [q, q1]
      exact He.mkr_ok (F (f := He.Fa.mkr x) (.inr (.inr (.inr (.inl (List.mem_map.mpr ⟨_, e, rfl⟩))))))
  · have q := t4 _ e
    simp only at q
    split at q
    case h_2 => cases q
    rename_i df hp
    rw [decide_eq_true_eq] at q
    refine ⟨df, hp, He.cls_ok (F (f := He.Fa.cls (cn cl)) (.inr (.inr (.inr (.inr (.inl (List.mem_map.mpr ⟨_, e, rfl⟩))))))), ?_⟩
    rw [q]
    exact He.meth_ok (F (f := He.Fa.meth (cn cl) (t.fN m)) (.inr (.inr (.inr (.inr (.inr (.inl (List.mem_map.mpr ⟨_, e, rfl⟩))))))))
  · exact ⟨He.cls_ok (F (f := He.Fa.cls (cn cl)) (.inr (.inr (.inr (.inr (.inr (.inr (.inl (List.mem_map.mpr ⟨_, e, rfl⟩))))))))), He.noat_ok (F (f := He.Fa.noat (cn cl) (t.fN f)) (.inr (.inr (.inr (.inr (.inr (.inr (.inr (.inl (List.mem_map.mpr ⟨_, e, rfl⟩))))))))))⟩
  · exact He.free_ok X G (F (f := He.Fa.free x) (.inr (.inr (.inr (.inr (.inr (.inr (.inr (.inr (.inl (List.mem_map.mpr ⟨_, e, rfl⟩)))))))))))
  · rw [e] at x2
    exact PySem.W.mg_of X G (He.eqO_ok x2)
end EV
namespace EV
open L2 (V HO Hp SqT SqL FnOk FnScope FunD Room Gl Binds)
open PySem PySem.Spec
/-- a promise that lets nothing out, under any wish about exceptions -/
theorem fn_calm {P : Program} {w : World} {K : PySem.W.Frag} {mg : Str → Option Value} {base : Heap} {k : Nat} {f : Addr} {fd : FuncData} {ps : List Str} {sp : L2.Sp} {CX' : L2.CXT} (F : FnOk P w K mg base (L2.CX P w) k f fd ps sp) :
    FnOk P w K mg base CX' k f fd ps (fun vs H Q _ => sp vs H Q fun _ _ _ => False) := by
  refine ⟨fun vs H Q E h => F.len vs H Q _ h, fun A outer s H args us vs Q E hr e0 hb r h => ?_⟩
  refine codeAny_mono (F.run A outer s H args us vs Q _ hr e0 hb r h) fun res s' q => ?_
  cases res with
  | error e =>
    obtain ⟨_, _, _, _, _, _, _, _, _, _, _, _, z⟩ := (show L2.CX P w outer H s (fun _ _ _ => False) e s' from q)
    exact z.elim
  | ok fl => cases fl <;> exact q
theorem opt3 {α β γ δ : Type} {o : Option α} {f : α → β} {g : α → γ} {h : α → δ} {a : β} {b : γ} {c : δ} (h1 : o.map f = some a) (h2 : o.map g = some b) (h3 : o.map h = some c) : o.map (fun x => (f x, g x, h x)) = some (a, b, c) := by
  cases o with
  | none => cases h1
  | some x =>
    have e1 : f x = a := Option.some.inj h1
    have e2 : g x = b := Option.some.inj h2
    have e3 : h x = c := Option.some.inj h3
    show some (f x, g x, h x) = _
    rw [e1, e2, e3]
end EV
end
section
set_option Elab.async false
set_option linter.all false
set_option maxRecDepth 100000
set_option maxHeartbeats 0
namespace K87
open PySem EV
def top (i : Nat) : Stmt := PySem.Challenge.pw_strategybench_k87_whole_repeated_games_a.main.body.getD i (.Pass ⟨0, 0, 0, 0⟩)
def mkD (x : Str) (i : Nat) : He.DefD := ⟨(x, none), x, x, L2.defArgs (top i), L2.defBody (top i), L2.defScope (top i), [], []⟩
def mkM (x m q : Str) (i j : Nat) : He.DefD := ⟨(x, some m), m, q, L2.defArgs (L2.inClass (top i) j), L2.defBody (L2.inClass (top i) j), L2.defScope (L2.inClass (top i) j), [], []⟩
/-- _law_box -/
def f0 : F := ⟨1, 1, (.cons (.ret (.nw (.disp (.cons (.bi .abs (.cons (.var 0) .nil)) (.cons (.cmp .ge (.bi .abs (.cons (.var 0) .nil)) (.bin .pow (.int 10) (.int 18))) (.cons (.bin .mod (.bi .int (.cons (.bi .abs (.cons (.var 0) .nil)) .nil)) (.int 2147483629)) (.cons (.int 0) .nil)))))))
    .nil)⟩
def d0 : Df := ⟨mkD (Str.ofString "_law_box") 85, [(Str.ofString "great")], [(Str.ofString "great")], f0⟩
/-- _law_take -/
def f1 : F := ⟨2, 4, (.cons (.if_ (.and_ (.idx (.var 0) (.int 1)) (.cmp .gt (.idx (.var 0) (.int 0)) (.int 0)))
      (.cons (.asg (.name 3) (.bin .mod (.bi .int (.cons (.idx (.var 0) (.int 0)) .nil)) (.var 1)))
    (.cons (.setI (.var 0) (.int 0) (.bin .fdiv (.idx (.var 0) (.int 0)) (.var 1)))
    (.cons (.ret (.var 3))
    .nil)))
      .nil)
    (.cons (.setI (.var 0) (.int 3) (.bin .add (.idx (.var 0) (.int 3)) (.int 1)))
    (.cons (.asg (.name 2) (.bin .mod (.bi .int (.cons (.bin .pow (.bin .add (.bin .add (.idx (.var 0) (.int 2)) (.bin .mul (.int 15485863) (.idx (.var 0) (.int 3)))) (.int 179424673)) (.int 5)) .nil)) (.int 2147483647)))
    (.cons (.ret (.bin .mod (.bi .int (.cons (.bin .fdiv (.bin .mod (.bi .int (.cons (.bin .pow (.bin .add (.bin .mul (.var 2) (.int 48271)) (.bin .mul (.int 104729) (.idx (.var 0) (.int 3)))) (.int 3)) .nil)) (.int 2147483587)) (.int 64)) .nil)) (.var 1)))
    .nil))))⟩
def d1 : Df := ⟨mkD (Str.ofString "_law_take") 86, [(Str.ofString "box"), (Str.ofString "many"), (Str.ofString "mixed"), (Str.ofString "digit")], [(Str.ofString "box"), (Str.ofString "many")], f1⟩
/-- _law_table -/
def f2 : F := ⟨4, 6, (.cons (.ret (.nw (.comp (.fl (.comp (.bin .sub (.call 1 (.cons (.var 0) (.cons (.bin .add (.bin .mul (.int 2) (.var 3)) (.int 1)) .nil))) (.var 3)) [5] (.name 5) (.rng (.var 2)) .nil)) [4] (.name 4) (.rng (.var 1)) .nil)))
    .nil)⟩
def d2 : Df := ⟨mkD (Str.ofString "_law_table") 95, [(Str.ofString "box"), (Str.ofString "rows"), (Str.ofString "columns"), (Str.ofString "wide"), (Str.ofString "i"), (Str.ofString "j")], [(Str.ofString "box"), (Str.ofString "rows"), (Str.ofString "columns"), (Str.ofString "wide")], f2⟩
/-- _law_game -/
def f3 : F := ⟨2, 14, (.cons (.asg (.tri (.name 4) (.name 5) (.name 6)) (.tup (.cons (.bin .add (.int 1) (.call 1 (.cons (.var 0) (.cons (.var 1) .nil)))) (.cons (.bin .add (.int 1) (.call 1 (.cons (.var 0) (.cons (.var 1) .nil)))) (.cons (.call 1 (.cons (.var 0) (.cons (.int 8) .nil))) .nil)))))
    (.cons (.asg (.name 2) (.idx (.fl (.disp (.cons (.int 1) (.cons (.int 2) (.cons (.int 3) (.cons (.int 6) (.cons (.int 20) (.cons (.int 100) .nil)))))))) (.call 1 (.cons (.var 0) (.cons (.int 6) .nil)))))
    (.cons (.if_ (.cmp .mem (.var 6) (.tup (.cons (.int 3) (.cons (.int 4) .nil))))
      (.cons (.asg (.name 5) (.var 4))
    .nil)
      .nil)
    (.cons (.asg (.name 3) (.call 2 (.cons (.var 0) (.cons (.var 4) (.cons (.var 5) (.cons (.var 2) .nil))))))
    (.cons (.if_ (.cmp .eq (.var 6) (.int 1))
      (.cons (.asg (.name 7) (.nw (.compR (.fl (.comp (.bin .sub (.int 0) (.var 11)) [11] (.name 11) (.e (.var 10)) .nil)) [10] (.name 10) (.var 3) .nil)))
    .nil)
      (.cons (.if_ (.cmp .eq (.var 6) (.int 2))
      (.cons (.asg (.name 7) (.nw (.compR (.fl (.list (.var 10))) [10] (.name 10) (.var 3) .nil)))
    .nil)
      (.cons (.if_ (.cmp .eq (.var 6) (.int 3))
      (.cons (.asg (.name 7) (.nw (.comp (.fl (.comp (.idx (.idx (.var 3) (.var 13)) (.var 12)) [13] (.name 13) (.rng (.var 5)) .nil)) [12] (.name 12) (.rng (.var 4)) .nil)))
    .nil)
      (.cons (.if_ (.cmp .eq (.var 6) (.int 4))
      (.cons (.asg (.name 3) (.nw (.comp (.fl (.comp (.bin .mul (.bi .int (.cons (.cmp .eq (.var 12) (.var 13)) .nil)) (.bin .add (.int 1) (.var 2))) [13] (.name 13) (.rng (.var 5)) .nil)) [12] (.name 12) (.rng (.var 4)) .nil)))
    (.cons (.asg (.name 7) (.nw (.comp (.fl (.comp (.bin .mul (.bi .int (.cons (.cmp .eq (.var 13) (.bin .mod (.bi .int (.cons (.bin .add (.var 12) (.int 1)) .nil)) (.var 5))) .nil)) (.bin .add (.int 1) (.var 2))) [13] (.name 13) (.rng (.var 5)) .nil)) [12] (.name 12) (.rng (.var 4)) .nil)))
    .nil))
      (.cons (.asg (.name 7) (.call 2 (.cons (.var 0) (.cons (.var 4) (.cons (.var 5) (.cons (.var 2) .nil))))))
    .nil))
    .nil))
    .nil))
    .nil))
    (.cons (.if_ (.and_ (.cmp .eq (.var 6) (.int 5)) (.cmp .gt (.var 4) (.int 1)))
      (.cons (.asg (.name 8) (.call 1 (.cons (.var 0) (.cons (.var 4) .nil))))
    (.cons (.set2 (.var 3) (.var 8) (.var 7) (.var 8) (.cons (.fl (.list (.idx (.var 3) (.bin .sub (.var 8) (.int 1))))) (.cons (.fl (.list (.idx (.var 7) (.bin .sub (.var 8) (.int 1))))) .nil)))
    .nil))
      .nil)
    (.cons (.if_ (.and_ (.cmp .eq (.var 6) (.int 6)) (.cmp .gt (.var 4) (.int 1)))
      (.cons (.asg (.name 8) (.call 1 (.cons (.var 0) (.cons (.var 4) .nil))))
    (.cons (.setI (.var 3) (.var 8) (.fl (.comp (.bin .sub (.var 11) (.call 1 (.cons (.var 0) (.cons (.int 2) .nil)))) [11] (.name 11) (.e (.idx (.var 3) (.bin .sub (.var 8) (.int 1)))) .nil)))
    .nil))
      .nil)
    (.cons (.ret (.fl (.comp (.fl (.compR (.fl (.comp (.bi .max2 (.cons (.neg (.int 100)) (.cons (.bi .min2 (.cons (.int 100) (.cons (.var 11) .nil))) .nil))) [11] (.name 11) (.e (.var 10)) .nil)) [10] (.name 10) (.var 9) .nil)) [9] (.name 9) (.e (.fl (.disp (.cons (.frz (.var 3)) (.cons (.frz (.var 7)) .nil))))) .nil)))
    .nil))))))))⟩
def d3 : Df := ⟨mkD (Str.ofString "_law_game") 96, [(Str.ofString "box"), (Str.ofString "most"), (Str.ofString "wide"), (Str.ofString "first"), (Str.ofString "rows"), (Str.ofString "columns"), (Str.ofString "way"), (Str.ofString "second"), (Str.ofString "a"), (Str.ofString "table"), (Str.ofString "row"), (Str.ofString "x"), (Str.ofString "i"), (Str.ofString "j")], [(Str.ofString "box"), (Str.ofString "most")], f3⟩
/-- _law_cell -/
def f4 : F := ⟨2, 2, (.cons (.ret (.ite (.cmp .lt (.var 1) (.bi .len (.cons (.var 0) .nil))) (.idx (.var 0) (.var 1)) (.bin .add (.bin .mul (.int 6007) (.var 1)) (.bin .mod (.bi .int (.cons (.bi .sum (.cons (.slHi (.var 0) (.int 1)) .nil)) .nil)) (.int 1000033)))))
    .nil)⟩
def d4 : Df := ⟨mkD (Str.ofString "_law_cell") 84, [(Str.ofString "script"), (Str.ofString "k")], [(Str.ofString "script"), (Str.ofString "k")], f4⟩
/-- is_tuple_of -/
def f5 : F := ⟨2, 2, (.cons (.ret (.and_ (.isi (.var 0) .tuple) (.cmp .eq (.bi .len (.cons (.var 0) .nil)) (.var 1))))
    .nil)⟩
def d5 : Df := ⟨mkD (Str.ofString "is_tuple_of") 14, [(Str.ofString "value"), (Str.ofString "many")], [(Str.ofString "value"), (Str.ofString "many")], f5⟩
/-- is_integer -/
def f6 : F := ⟨1, 1, (.cons (.ret (.and_ (.isi (.var 0) .int) (.not_ (.isi (.var 0) .bool))))
    .nil)⟩
def d6 : Df := ⟨mkD (Str.ofString "is_integer") 12, [(Str.ofString "value")], [(Str.ofString "value")], f6⟩
/-- is_matrix -/
def f7 : F := ⟨2, 5, (.cons (.if_ (.or_ (.not_ (.isi (.var 0) .tuple)) (.or_ (.not_ (.chain .le .le (.int 1) (.bi .len (.cons (.var 0) .nil)) (.var 1))) (.not_ (.isi (.idx (.var 0) (.int 0)) .tuple))))
      (.cons (.ret (.bl false))
    .nil)
      .nil)
    (.cons (.asg (.name 2) (.bi .len (.cons (.idx (.var 0) (.int 0)) .nil)))
    (.cons (.if_ (.not_ (.chain .le .le (.int 1) (.var 2) (.var 1)))
      (.cons (.ret (.bl false))
    .nil)
      .nil)
    (.cons (.ret (.bi .all (.cons (.fl (.comp (.and_ (.call 5 (.cons (.var 3) (.cons (.var 2) .nil))) (.bi .all (.cons (.fl (.comp (.call 6 (.cons (.var 4) .nil)) [4] (.name 4) (.e (.var 3)) .nil)) .nil))) [3] (.name 3) (.e (.var 0)) .nil)) .nil)))
    .nil))))⟩
def d7 : Df := ⟨mkD (Str.ofString "is_matrix") 36, [(Str.ofString "value"), (Str.ofString "most"), (Str.ofString "wide"), (Str.ofString "row"), (Str.ofString "item")], [(Str.ofString "value"), (Str.ofString "most")], f7⟩
/-- check_table -/
def f8 : F := ⟨2, 2, (.cons (.if_ (.not_ (.call 7 (.cons (.var 0) (.cons (.var 1) .nil))))
      (.cons .never
    .nil)
      .nil)
    .nil)⟩
def d8 : Df := ⟨mkD (Str.ofString "check_table") 37, [(Str.ofString "value"), (Str.ofString "most")], [(Str.ofString "value"), (Str.ofString "most")], f8⟩
/-- Game___init__ -/
def f9 : F := ⟨3, 3, (.cons (.expr (.call 8 (.cons (.var 1) (.cons (.glob 0) .nil))))
    (.cons (.if_ (.or_ (.not_ (.call 7 (.cons (.var 2) (.cons (.glob 0) .nil)))) (.or_ (.cmp .ne (.bi .len (.cons (.var 2) .nil)) (.bi .len (.cons (.var 1) .nil))) (.cmp .ne (.bi .len (.cons (.idx (.var 2) (.int 0)) .nil)) (.bi .len (.cons (.idx (.var 1) (.int 0)) .nil)))))
      (.cons .never
    .nil)
      .nil)
    (.cons (.setF 0 (.var 0) 2 (.var 1))
    (.cons (.setF 0 (.var 0) 1 (.var 2))
    (.cons (.setF 0 (.var 0) 0 (.tup (.cons (.bi .len (.cons (.var 1) .nil)) (.cons (.bi .len (.cons (.idx (.var 1) (.int 0)) .nil)) .nil))))
    .nil)))))⟩
def d9 : Df := ⟨mkM (Str.ofString "Game") (Str.ofString "__init__") (Str.ofString "Game.__init__") 76 0, [(Str.ofString "self"), (Str.ofString "first"), (Str.ofString "second")], [(Str.ofString "self"), (Str.ofString "first"), (Str.ofString "second")], f9⟩
/-- _law_frozen -/
def f10 : F := ⟨1, 2, (.cons (.ret (.bi .tuple (.cons (.fl (.comp (.bi .tuple (.cons (.var 1) .nil)) [1] (.name 1) (.e (.var 0)) .nil)) .nil)))
    .nil)⟩
def d10 : Df := ⟨mkD (Str.ofString "_law_frozen") 97, [(Str.ofString "table"), (Str.ofString "row")], [(Str.ofString "table")], f10⟩
/-- _law_make -/
def f11 : F := ⟨1, 1, (.cons (.ret (.make 0 9 (.cons (.call 10 (.cons (.idx (.var 0) (.int 0)) .nil)) (.cons (.call 10 (.cons (.idx (.var 0) (.int 1)) .nil)) .nil))))
    .nil)⟩
def d11 : Df := ⟨mkD (Str.ofString "_law_make") 98, [(Str.ofString "game")], [(Str.ofString "game")], f11⟩
/-- _law_gcd -/
def f12 : F := ⟨2, 2, (.cons (.asg (.pair (.name 0) (.name 1)) (.tup (.cons (.bi .abs (.cons (.var 0) .nil)) (.cons (.bi .abs (.cons (.var 1) .nil)) .nil))))
    (.cons (.while_ (.cmp .ne (.var 1) (.int 0))
      (.cons (.asg (.pair (.name 0) (.name 1)) (.tup (.cons (.var 1) (.cons (.bin .mod (.var 0) (.var 1)) .nil))))
    .nil))
    (.cons (.ret (.var 0))
    .nil)))⟩
def d12 : Df := ⟨mkD (Str.ofString "_law_gcd") 88, [(Str.ofString "a"), (Str.ofString "b")], [(Str.ofString "a"), (Str.ofString "b")], f12⟩
/-- _law_low -/
def f13 : F := ⟨2, 3, (.cons (.if_ (.cmp .lt (.var 1) (.int 0))
      (.cons (.asg (.pair (.name 0) (.name 1)) (.tup (.cons (.neg (.var 0)) (.cons (.neg (.var 1)) .nil))))
    .nil)
      .nil)
    (.cons (.asg (.name 2) (.call 12 (.cons (.var 0) (.cons (.var 1) .nil))))
    (.cons (.ret (.tup (.cons (.bin .fdiv (.var 0) (.var 2)) (.cons (.bin .fdiv (.var 1) (.var 2)) .nil))))
    .nil)))⟩
def d13 : Df := ⟨mkD (Str.ofString "_law_low") 89, [(Str.ofString "top"), (Str.ofString "bottom"), (Str.ofString "by")], [(Str.ofString "top"), (Str.ofString "bottom")], f13⟩
/-- _law_factor -/
def f14 : F := ⟨1, 1, (.cons (.ret (.idx (.fl (.disp (.cons (.tup (.cons (.int 0) (.cons (.int 1) .nil))) (.cons (.tup (.cons (.int 1) (.cons (.int 2) .nil))) (.cons (.tup (.cons (.int 9) (.cons (.int 10) .nil))) (.cons (.tup (.cons (.int 1) (.cons (.int 3) .nil))) (.cons (.tup (.cons (.int 2) (.cons (.int 3) .nil))) (.cons (.call 13 (.cons (.call 1 (.cons (.var 0) (.cons (.int 20) .nil))) (.cons (.int 20) .nil))) .nil)))))))) (.call 1 (.cons (.var 0) (.cons (.int 6) .nil)))))
    .nil)⟩
def d14 : Df := ⟨mkD (Str.ofString "_law_factor") 107, [(Str.ofString "box")], [(Str.ofString "box")], f14⟩
/-- _law_machine -/
def f15 : F := ⟨3, 7, (.cons (.asg (.name 3) (.bin .add (.int 1) (.call 1 (.cons (.var 0) (.cons (.int 4) .nil)))))
    (.cons (.if_ (.cmp .eq (.call 1 (.cons (.var 0) (.cons (.int 4) .nil))) (.int 0))
      (.cons (.asg (.name 3) (.int 1))
    .nil)
      .nil)
    (.cons (.asg (.name 4) (.nw (.disp .nil)))
    (.cons (.for_ (.name 5) (.rng (.var 3))
      (.cons (.expr (.app (.var 4) (.tup (.cons (.call 1 (.cons (.var 0) (.cons (.var 1) .nil))) (.cons (.bi .tuple (.cons (.fl (.comp (.call 1 (.cons (.var 0) (.cons (.var 3) .nil))) [6] (.name 6) (.rng (.var 2)) .nil)) .nil)) .nil)))))
    .nil))
    (.cons (.ret (.bi .tuple (.cons (.frz (.var 4)) .nil)))
    .nil)))))⟩
def d15 : Df := ⟨mkD (Str.ofString "_law_machine") 101, [(Str.ofString "box"), (Str.ofString "own"), (Str.ofString "others"), (Str.ofString "size"), (Str.ofString "found"), (Str.ofString "k"), (Str.ofString "j")], [(Str.ofString "box"), (Str.ofString "own"), (Str.ofString "others")], f15⟩
/-- pairs_of -/
def f16 : F := ⟨1, 3, (.cons (.ret (.fl (.comp2 (.tup (.cons (.var 1) (.cons (.var 2) .nil))) [1, 2] [2] (.name 1) (.rng (.idx (.fld 0 (.var 0) 0) (.int 0))) .nil (.name 2) (.rng (.idx (.fld 0 (.var 0) 0) (.int 1))) .nil)))
    .nil)⟩
def d16 : Df := ⟨mkD (Str.ofString "pairs_of") 81, [(Str.ofString "game"), (Str.ofString "row"), (Str.ofString "column")], [(Str.ofString "game")], f16⟩
/-- pure_equilibria -/
def f17 : F := ⟨1, 5, (.cons (.asg (.name 1) (.fl (.comp (.bi .max (.cons (.fl (.comp (.idx (.var 3) (.var 4)) [3] (.name 3) (.e (.fld 0 (.var 0) 2)) .nil)) .nil)) [4] (.name 4) (.rng (.idx (.fld 0 (.var 0) 0) (.int 1))) .nil)))
    (.cons (.asg (.name 2) (.nw (.disp .nil)))
    (.cons (.for_ (.pair (.name 3) (.name 4)) (.e (.call 16 (.cons (.var 0) .nil)))
      (.cons (.if_ (.and_ (.cmp .eq (.idx (.idx (.fld 0 (.var 0) 2) (.var 3)) (.var 4)) (.idx (.var 1) (.var 4))) (.cmp .eq (.idx (.idx (.fld 0 (.var 0) 1) (.var 3)) (.var 4)) (.bi .max (.cons (.idx (.fld 0 (.var 0) 1) (.var 3)) .nil))))
      (.cons (.expr (.app (.var 2) (.tup (.cons (.var 3) (.cons (.var 4) .nil)))))
    .nil)
      .nil)
    .nil))
    (.cons (.ret (.frz (.var 2)))
    .nil))))⟩
def d17 : Df := ⟨mkD (Str.ofString "pure_equilibria") 82, [(Str.ofString "game"), (Str.ofString "highs"), (Str.ofString "found"), (Str.ofString "row"), (Str.ofString "column")], [(Str.ofString "game")], f17⟩
/-- _law_same -/
def f18 : F := ⟨2, 3, (.cons (.if_ (.or_ (.cmp .isN (.var 1) .non) (.isi (.var 1) .bool))
      (.cons (.ret (.ite (.cmp .isN (.var 1) .non) (.cmp .isN (.var 0) .non) (.and_ (.isi (.var 0) .bool) (.cmp .eq (.cmp .isT (.var 0) (.bl true)) (.cmp .isT (.var 1) (.bl true))))))
    .nil)
      .nil)
    (.cons (.if_ (.isi (.var 1) .int)
      (.cons (.ret (.and_ (.isi (.var 0) .int) (.and_ (.not_ (.isi (.var 0) .bool)) (.cmp .eq (.bin .sub (.bi .int (.cons (.var 0) .nil)) (.var 1)) (.int 0)))))
    .nil)
      .nil)
    (.cons (.if_ (.isi (.var 1) .str)
      (.cons (.ret (.and_ (.isi (.var 0) .str) (.and_ (.cmp .eq (.bi .len (.cons (.var 0) .nil)) (.bi .len (.cons (.var 1) .nil))) (.cmp .eq (.fl (.comp (.var 2) [2] (.name 2) (.rng (.bi .len (.cons (.var 1) .nil))) (.cons (.cmp .ne (.slLH (.var 0) (.var 2) (.bin .add (.var 2) (.int 1))) (.idx (.var 1) (.var 2))) .nil))) (.fl (.disp .nil))))))
    .nil)
      .nil)
    (.cons (.if_ (.or_ (.cmp .ne (.isi (.var 0) .list) (.isi (.var 1) .list)) (.cmp .ne (.isi (.var 0) .tuple) (.isi (.var 1) .tuple)))
      (.cons (.ret (.bl false))
    .nil)
      .nil)
    (.cons (.ret (.and_ (.cmp .eq (.bi .len (.cons (.var 0) .nil)) (.bi .len (.cons (.var 1) .nil))) (.cmp .eq (.fl (.comp (.var 2) [2] (.name 2) (.rng (.bi .len (.cons (.var 1) .nil))) (.cons (.not_ (.call 18 (.cons (.idx (.var 0) (.var 2)) (.cons (.idx (.var 1) (.var 2)) .nil)))) .nil))) (.fl (.disp .nil)))))
    .nil)))))⟩
def d18 : Df := ⟨mkD (Str.ofString "_law_same") 87, [(Str.ofString "told"), (Str.ofString "due"), (Str.ofString "k")], [(Str.ofString "told"), (Str.ofString "due")], f18⟩
/-- is_between -/
def f19 : F := ⟨3, 3, (.cons (.ret (.and_ (.call 6 (.cons (.var 0) .nil)) (.chain .le .le (.var 1) (.var 0) (.var 2))))
    .nil)⟩
def d19 : Df := ⟨mkD (Str.ofString "is_between") 13, [(Str.ofString "value"), (Str.ofString "least"), (Str.ofString "most")], [(Str.ofString "value"), (Str.ofString "least"), (Str.ofString "most")], f19⟩
/-- check_pair -/
def f20 : F := ⟨2, 3, (.cons (.if_ (.or_ (.not_ (.call 5 (.cons (.var 1) (.cons (.int 2) .nil)))) (.not_ (.bi .all (.cons (.fl (.comp (.call 19 (.cons (.idx (.var 1) (.var 2)) (.cons (.int 0) (.cons (.bin .sub (.idx (.fld 0 (.var 0) 0) (.var 2)) (.int 1)) .nil)))) [2] (.name 2) (.e (.tup (.cons (.int 0) (.cons (.int 1) .nil)))) .nil)) .nil))))
      (.cons .never
    .nil)
      .nil)
    .nil)⟩
def d20 : Df := ⟨mkD (Str.ofString "check_pair") 69, [(Str.ofString "game"), (Str.ofString "pair"), (Str.ofString "k")], [(Str.ofString "game"), (Str.ofString "pair")], f20⟩
/-- transposed -/
def f21 : F := ⟨1, 3, (.cons (.ret (.bi .tuple (.cons (.fl (.comp (.bi .tuple (.cons (.fl (.comp (.idx (.var 2) (.var 1)) [2] (.name 2) (.e (.var 0)) .nil)) .nil)) [1] (.name 1) (.rng (.bi .len (.cons (.idx (.var 0) (.int 0)) .nil))) .nil)) .nil)))
    .nil)⟩
def d21 : Df := ⟨mkD (Str.ofString "transposed") 38, [(Str.ofString "matrix"), (Str.ofString "place"), (Str.ofString "row")], [(Str.ofString "matrix")], f21⟩
/-- Game_matrix -/
def f22 : F := ⟨2, 2, (.cons (.ret (.ite (.cmp .eq (.var 1) (.int 0)) (.fld 0 (.var 0) 2) (.call 21 (.cons (.fld 0 (.var 0) 1) .nil))))
    .nil)⟩
def d22 : Df := ⟨mkM (Str.ofString "Game") (Str.ofString "matrix") (Str.ofString "Game.matrix") 76 2, [(Str.ofString "self"), (Str.ofString "player")], [(Str.ofString "self"), (Str.ofString "player")], f22⟩
/-- lowest -/
def f23 : F := ⟨2, 3, (.cons (.asg (.name 2) (.bi .gcd (.cons (.var 0) (.cons (.var 1) .nil))))
    (.cons (.if_ (.cmp .lt (.var 1) (.int 0))
      (.cons (.asg (.name 2) (.neg (.var 2)))
    .nil)
      .nil)
    (.cons (.ret (.tup (.cons (.bin .fdiv (.var 0) (.var 2)) (.cons (.bin .fdiv (.var 1) (.var 2)) .nil))))
    .nil)))⟩
def d23 : Df := ⟨mkD (Str.ofString "lowest") 20, [(Str.ofString "numerator"), (Str.ofString "denominator"), (Str.ofString "common")], [(Str.ofString "numerator"), (Str.ofString "denominator")], f23⟩
/-- divide -/
def f24 : F := ⟨2, 2, (.cons (.if_ (.cmp .eq (.idx (.var 1) (.int 0)) (.int 0))
      (.cons .never
    .nil)
      .nil)
    (.cons (.ret (.call 23 (.cons (.bin .mul (.idx (.var 0) (.int 0)) (.idx (.var 1) (.int 1))) (.cons (.bin .mul (.idx (.var 0) (.int 1)) (.idx (.var 1) (.int 0))) .nil))))
    .nil))⟩
def d24 : Df := ⟨mkD (Str.ofString "divide") 25, [(Str.ofString "one"), (Str.ofString "other")], [(Str.ofString "one"), (Str.ofString "other")], f24⟩
/-- whole -/
def f25 : F := ⟨1, 1, (.cons (.ret (.tup (.cons (.var 0) (.cons (.int 1) .nil))))
    .nil)⟩
def d25 : Df := ⟨mkD (Str.ofString "whole") 21, [(Str.ofString "number")], [(Str.ofString "number")], f25⟩
/-- check_player -/
def f26 : F := ⟨1, 1, (.cons (.if_ (.not_ (.call 19 (.cons (.var 0) (.cons (.int 0) (.cons (.int 1) .nil)))))
      (.cons .never
    .nil)
      .nil)
    .nil)⟩
def d26 : Df := ⟨mkD (Str.ofString "check_player") 35, [(Str.ofString "player")], [(Str.ofString "player")], f26⟩
/-- punishment -/
def f27 : F := ⟨2, 6, (.cons (.expr (.call 26 (.cons (.var 1) .nil)))
    (.cons (.asg (.name 2) (.meth 0 3 22 (.var 0) (.cons (.var 1) .nil)))
    (.cons (.asg (.name 3) (.fl (.comp (.bi .max (.cons (.fl (.comp (.idx (.var 5) (.var 4)) [5] (.name 5) (.e (.var 2)) .nil)) .nil)) [4] (.name 4) (.rng (.idx (.fld 0 (.var 0) 0) (.bin .sub (.int 1) (.var 1)))) .nil)))
    (.cons (.ret (.tup (.cons (.bi .min (.cons (.var 3) .nil)) (.cons (.index (.var 3) (.bi .min (.cons (.var 3) .nil))) .nil))))
    .nil))))⟩
def d27 : Df := ⟨mkD (Str.ofString "punishment") 68, [(Str.ofString "game"), (Str.ofString "player"), (Str.ofString "matrix"), (Str.ofString "payoffs"), (Str.ofString "choice"), (Str.ofString "row")], [(Str.ofString "game"), (Str.ofString "player")], f27⟩
/-- least_factor -/
def f28 : F := ⟨3, 9, (.cons (.asg (.name 3) (.meth 0 3 22 (.var 0) (.cons (.var 2) .nil)))
    (.cons (.asg (.pair (.name 5) (.name 6)) (.tup (.cons (.idx (.idx (.var 3) (.idx (.var 1) (.var 2))) (.idx (.var 1) (.bin .sub (.int 1) (.var 2)))) (.cons (.idx (.call 27 (.cons (.var 0) (.cons (.var 2) .nil))) (.int 0)) .nil))))
    (.cons (.asg (.name 4) (.fl (.comp (.idx (.var 8) (.idx (.var 1) (.bin .sub (.int 1) (.var 2)))) [7, 8] (.pair (.name 7) (.name 8)) (.enum (.var 3)) (.cons (.cmp .ne (.var 7) (.idx (.var 1) (.var 2))) .nil))))
    (.cons (.if_ (.or_ (.cmp .eq (.var 4) (.fl (.disp .nil))) (.and_ (.cmp .le (.bi .max (.cons (.var 4) .nil)) (.var 5)) (.cmp .le (.var 6) (.var 5))))
      (.cons (.ret (.glob 1))
    .nil)
      .nil)
    (.cons (.if_ (.cmp .ge (.var 6) (.var 5))
      (.cons (.ret .non)
    .nil)
      .nil)
    (.cons (.ret (.call 24 (.cons (.call 25 (.cons (.bin .sub (.bi .max (.cons (.var 4) .nil)) (.var 5)) .nil)) (.cons (.call 25 (.cons (.bin .sub (.bi .max (.cons (.var 4) .nil)) (.var 6)) .nil)) .nil))))
    .nil))))))⟩
def d28 : Df := ⟨mkD (Str.ofString "least_factor") 72, [(Str.ofString "game"), (Str.ofString "pair"), (Str.ofString "player"), (Str.ofString "matrix"), (Str.ofString "others"), (Str.ofString "own"), (Str.ofString "held"), (Str.ofString "choice"), (Str.ofString "row")], [(Str.ofString "game"), (Str.ofString "pair"), (Str.ofString "player")], f28⟩
/-- compare -/
def f29 : F := ⟨2, 4, (.cons (.asg (.pair (.name 2) (.name 3)) (.tup (.cons (.bin .mul (.idx (.var 0) (.int 0)) (.idx (.var 1) (.int 1))) (.cons (.bin .mul (.idx (.var 1) (.int 0)) (.idx (.var 0) (.int 1))) .nil))))
    (.cons (.ret (.bin .sub (.bi .int (.cons (.cmp .gt (.var 2) (.var 3)) .nil)) (.bi .int (.cons (.cmp .lt (.var 2) (.var 3)) .nil))))
    .nil))⟩
def d29 : Df := ⟨mkD (Str.ofString "compare") 26, [(Str.ofString "one"), (Str.ofString "other"), (Str.ofString "left"), (Str.ofString "right")], [(Str.ofString "one"), (Str.ofString "other")], f29⟩
/-- is_less -/
def f30 : F := ⟨2, 2, (.cons (.ret (.cmp .lt (.call 29 (.cons (.var 0) (.cons (.var 1) .nil))) (.int 0)))
    .nil)⟩
def d30 : Df := ⟨mkD (Str.ofString "is_less") 27, [(Str.ofString "one"), (Str.ofString "other")], [(Str.ofString "one"), (Str.ofString "other")], f30⟩
/-- greatest -/
def f31 : F := ⟨1, 3, (.cons (.asg (.name 1) (.idx (.var 0) (.int 0)))
    (.cons (.for_ (.name 2) (.e (.var 0))
      (.cons (.asg (.name 1) (.ite (.call 30 (.cons (.var 1) (.cons (.var 2) .nil))) (.var 2) (.var 1)))
    .nil))
    (.cons (.ret (.var 1))
    .nil)))⟩
def d31 : Df := ⟨mkD (Str.ofString "greatest") 30, [(Str.ofString "items"), (Str.ofString "found"), (Str.ofString "item")], [(Str.ofString "items")], f31⟩
/-- grim_factor -/
def f32 : F := ⟨2, 4, (.cons (.expr (.call 20 (.cons (.var 0) (.cons (.var 1) .nil))))
    (.cons (.asg (.name 2) (.fl (.comp (.call 28 (.cons (.var 0) (.cons (.var 1) (.cons (.var 3) .nil)))) [3] (.name 3) (.e (.tup (.cons (.int 0) (.cons (.int 1) .nil)))) .nil)))
    (.cons (.ret (.ite (.cmp .mem .non (.var 2)) .non (.call 31 (.cons (.var 2) .nil))))
    .nil)))⟩
def d32 : Df := ⟨mkD (Str.ofString "grim_factor") 73, [(Str.ofString "game"), (Str.ofString "pair"), (Str.ofString "found"), (Str.ofString "player")], [(Str.ofString "game"), (Str.ofString "pair")], f32⟩
/-- _law_mul -/
def f33 : F := ⟨2, 2, (.cons (.ret (.call 13 (.cons (.bin .mul (.idx (.var 0) (.int 0)) (.idx (.var 1) (.int 0))) (.cons (.bin .mul (.idx (.var 0) (.int 1)) (.idx (.var 1) (.int 1))) .nil))))
    .nil)⟩
def d33 : Df := ⟨mkD (Str.ofString "_law_mul") 92, [(Str.ofString "one"), (Str.ofString "other")], [(Str.ofString "one"), (Str.ofString "other")], f33⟩
/-- grim_machine -/
def f34 : F := ⟨3, 5, (.cons (.asg (.name 3) (.fl (.comp (.bi .int (.cons (.cmp .ne (.var 4) (.idx (.var 1) (.bin .sub (.int 1) (.var 2)))) .nil)) [4] (.name 4) (.rng (.idx (.fld 0 (.var 0) 0) (.bin .sub (.int 1) (.var 2)))) .nil)))
    (.cons (.ret (.tup (.cons (.tup (.cons (.idx (.var 1) (.var 2)) (.cons (.bi .tuple (.cons (.var 3) .nil)) .nil))) (.cons (.tup (.cons (.idx (.call 27 (.cons (.var 0) (.cons (.bin .sub (.int 1) (.var 2)) .nil))) (.int 1)) (.cons (.bin .mul (.tup (.cons (.int 1) .nil)) (.bi .len (.cons (.var 3) .nil))) .nil))) .nil))))
    .nil))⟩
def d34 : Df := ⟨mkD (Str.ofString "grim_machine") 70, [(Str.ofString "game"), (Str.ofString "pair"), (Str.ofString "player"), (Str.ofString "nexts"), (Str.ofString "choice")], [(Str.ofString "game"), (Str.ofString "pair"), (Str.ofString "player")], f34⟩
/-- grim -/
def f35 : F := ⟨2, 3, (.cons (.expr (.call 20 (.cons (.var 0) (.cons (.var 1) .nil))))
    (.cons (.ret (.bi .tuple (.cons (.fl (.comp (.call 34 (.cons (.var 0) (.cons (.var 1) (.cons (.var 2) .nil)))) [2] (.name 2) (.e (.tup (.cons (.int 0) (.cons (.int 1) .nil)))) .nil)) .nil)))
    .nil))⟩
def d35 : Df := ⟨mkD (Str.ofString "grim") 71, [(Str.ofString "game"), (Str.ofString "pair"), (Str.ofString "player")], [(Str.ofString "game"), (Str.ofString "pair")], f35⟩
/-- _law_below -/
def f36 : F := ⟨2, 2, (.cons (.ret (.cmp .lt (.bin .mul (.idx (.var 0) (.int 0)) (.idx (.var 1) (.int 1))) (.bin .mul (.idx (.var 1) (.int 0)) (.idx (.var 0) (.int 1)))))
    .nil)⟩
def d36 : Df := ⟨mkD (Str.ofString "_law_below") 94, [(Str.ofString "one"), (Str.ofString "other")], [(Str.ofString "one"), (Str.ofString "other")], f36⟩
/-- _law_greatest -/
def f37 : F := ⟨1, 3, (.cons (.asg (.name 1) (.idx (.var 0) (.int 0)))
    (.cons (.for_ (.name 2) (.e (.var 0))
      (.cons (.asg (.name 1) (.ite (.call 36 (.cons (.var 1) (.cons (.var 2) .nil))) (.var 2) (.var 1)))
    .nil))
    (.cons (.ret (.var 1))
    .nil)))⟩
def d37 : Df := ⟨mkD (Str.ofString "_law_greatest") 99, [(Str.ofString "items"), (Str.ofString "found"), (Str.ofString "item")], [(Str.ofString "items")], f37⟩
/-- is_row -/
def f38 : F := ⟨4, 5, (.cons (.ret (.and_ (.call 5 (.cons (.var 0) (.cons (.var 1) .nil))) (.bi .all (.cons (.fl (.comp (.call 19 (.cons (.var 4) (.cons (.var 2) (.cons (.var 3) .nil)))) [4] (.name 4) (.e (.var 0)) .nil)) .nil))))
    .nil)⟩
def d38 : Df := ⟨mkD (Str.ofString "is_row") 15, [(Str.ofString "value"), (Str.ofString "many"), (Str.ofString "least"), (Str.ofString "most"), (Str.ofString "item")], [(Str.ofString "value"), (Str.ofString "many"), (Str.ofString "least"), (Str.ofString "most")], f38⟩
/-- is_state -/
def f39 : F := ⟨4, 4, (.cons (.if_ (.or_ (.not_ (.call 5 (.cons (.var 3) (.cons (.int 2) .nil)))) (.not_ (.call 19 (.cons (.idx (.var 3) (.int 0)) (.cons (.int 0) (.cons (.bin .sub (.var 1) (.int 1)) .nil))))))
      (.cons (.ret (.bl false))
    .nil)
      .nil)
    (.cons (.ret (.call 38 (.cons (.idx (.var 3) (.int 1)) (.cons (.var 2) (.cons (.int 0) (.cons (.bin .sub (.var 0) (.int 1)) .nil))))))
    .nil))⟩
def d39 : Df := ⟨mkD (Str.ofString "is_state") 42, [(Str.ofString "count"), (Str.ofString "own"), (Str.ofString "others"), (Str.ofString "value")], [(Str.ofString "count"), (Str.ofString "own"), (Str.ofString "others"), (Str.ofString "value")], f39⟩
/-- is_machine_of -/
def f40 : F := ⟨3, 6, (.cons (.if_ (.or_ (.not_ (.isi (.var 2) .tuple)) (.not_ (.chain .le .le (.int 1) (.bi .len (.cons (.var 2) .nil)) (.glob 2))))
      (.cons (.ret (.bl false))
    .nil)
      .nil)
    (.cons (.asg (.pair (.name 3) (.name 4)) (.tup (.cons (.idx (.fld 0 (.var 0) 0) (.var 1)) (.cons (.idx (.fld 0 (.var 0) 0) (.bin .sub (.int 1) (.var 1))) .nil))))
    (.cons (.ret (.bi .all (.cons (.fl (.comp (.call 39 (.cons (.bi .len (.cons (.var 2) .nil)) (.cons (.var 3) (.cons (.var 4) (.cons (.var 5) .nil))))) [5] (.name 5) (.e (.var 2)) .nil)) .nil)))
    .nil)))⟩
def d40 : Df := ⟨mkD (Str.ofString "is_machine_of") 43, [(Str.ofString "game"), (Str.ofString "player"), (Str.ofString "value"), (Str.ofString "own"), (Str.ofString "others"), (Str.ofString "state")], [(Str.ofString "game"), (Str.ofString "player"), (Str.ofString "value")], f40⟩
/-- check_machine -/
def f41 : F := ⟨3, 3, (.cons (.if_ (.not_ (.call 40 (.cons (.var 0) (.cons (.var 1) (.cons (.var 2) .nil)))))
      (.cons .never
    .nil)
      .nil)
    .nil)⟩
def d41 : Df := ⟨mkD (Str.ofString "check_machine") 45, [(Str.ofString "game"), (Str.ofString "player"), (Str.ofString "machine")], [(Str.ofString "game"), (Str.ofString "player"), (Str.ofString "machine")], f41⟩
/-- is_fraction -/
def f42 : F := ⟨1, 2, (.cons (.if_ (.or_ (.not_ (.call 5 (.cons (.var 0) (.cons (.int 2) .nil)))) (.not_ (.bi .all (.cons (.fl (.comp (.call 6 (.cons (.var 1) .nil)) [1] (.name 1) (.e (.var 0)) .nil)) .nil))))
      (.cons (.ret (.bl false))
    .nil)
      .nil)
    (.cons (.ret (.and_ (.cmp .gt (.idx (.var 0) (.int 1)) (.int 0)) (.cmp .eq (.bi .gcd (.cons (.idx (.var 0) (.int 0)) (.cons (.idx (.var 0) (.int 1)) .nil))) (.int 1))))
    .nil))⟩
def d42 : Df := ⟨mkD (Str.ofString "is_fraction") 19, [(Str.ofString "value"), (Str.ofString "item")], [(Str.ofString "value")], f42⟩
/-- is_probability -/
def f43 : F := ⟨1, 1, (.cons (.ret (.and_ (.call 42 (.cons (.var 0) .nil)) (.chain .le .le (.int 0) (.idx (.var 0) (.int 0)) (.idx (.var 0) (.int 1)))))
    .nil)⟩
def d43 : Df := ⟨mkD (Str.ofString "is_probability") 31, [(Str.ofString "value")], [(Str.ofString "value")], f43⟩
/-- check_factor -/
def f44 : F := ⟨1, 1, (.cons (.if_ (.or_ (.not_ (.call 43 (.cons (.var 0) .nil))) (.cmp .eq (.var 0) (.glob 3)))
      (.cons .never
    .nil)
      .nil)
    .nil)⟩
def d44 : Df := ⟨mkD (Str.ofString "check_factor") 47, [(Str.ofString "factor")], [(Str.ofString "factor")], f44⟩
/-- multiply -/
def f45 : F := ⟨2, 2, (.cons (.ret (.call 23 (.cons (.bin .mul (.idx (.var 0) (.int 0)) (.idx (.var 1) (.int 0))) (.cons (.bin .mul (.idx (.var 0) (.int 1)) (.idx (.var 1) (.int 1))) .nil))))
    .nil)⟩
def d45 : Df := ⟨mkD (Str.ofString "multiply") 24, [(Str.ofString "one"), (Str.ofString "other")], [(Str.ofString "one"), (Str.ofString "other")], f45⟩
/-- add -/
def f46 : F := ⟨2, 2, (.cons (.ret (.call 23 (.cons (.bin .add (.bin .mul (.idx (.var 0) (.int 0)) (.idx (.var 1) (.int 1))) (.bin .mul (.idx (.var 1) (.int 0)) (.idx (.var 0) (.int 1)))) (.cons (.bin .mul (.idx (.var 0) (.int 1)) (.idx (.var 1) (.int 1))) .nil))))
    .nil)⟩
def d46 : Df := ⟨mkD (Str.ofString "add") 22, [(Str.ofString "one"), (Str.ofString "other")], [(Str.ofString "one"), (Str.ofString "other")], f46⟩
/-- folded -/
def f47 : F := ⟨3, 4, (.cons (.for_ (.name 3) (.e (.rev (.var 0)))
      (.cons (.asg (.name 2) (.call 46 (.cons (.var 3) (.cons (.call 45 (.cons (.var 1) (.cons (.var 2) .nil))) .nil))))
    .nil))
    (.cons (.ret (.var 2))
    .nil))⟩
def d47 : Df := ⟨mkD (Str.ofString "folded") 55, [(Str.ofString "items"), (Str.ofString "factor"), (Str.ofString "last"), (Str.ofString "item")], [(Str.ofString "items"), (Str.ofString "factor"), (Str.ofString "last")], f47⟩
/-- subtract -/
def f48 : F := ⟨2, 2, (.cons (.ret (.call 23 (.cons (.bin .sub (.bin .mul (.idx (.var 0) (.int 0)) (.idx (.var 1) (.int 1))) (.bin .mul (.idx (.var 1) (.int 0)) (.idx (.var 0) (.int 1)))) (.cons (.bin .mul (.idx (.var 0) (.int 1)) (.idx (.var 1) (.int 1))) .nil))))
    .nil)⟩
def d48 : Df := ⟨mkD (Str.ofString "subtract") 23, [(Str.ofString "one"), (Str.ofString "other")], [(Str.ofString "one"), (Str.ofString "other")], f48⟩
/-- endless_sum -/
def f49 : F := ⟨3, 6, (.cons (.asg (.name 3) (.glob 3))
    (.cons (.for_ (.name 4) (.e (.var 1))
      (.cons (.asg (.name 3) (.call 45 (.cons (.var 3) (.cons (.var 2) .nil))))
    .nil))
    (.cons (.asg (.name 5) (.call 24 (.cons (.call 47 (.cons (.var 1) (.cons (.var 2) (.cons (.glob 1) .nil)))) (.cons (.call 48 (.cons (.glob 3) (.cons (.var 3) .nil))) .nil))))
    (.cons (.ret (.call 45 (.cons (.call 48 (.cons (.glob 3) (.cons (.var 2) .nil))) (.cons (.call 47 (.cons (.var 0) (.cons (.var 2) (.cons (.var 5) .nil)))) .nil))))
    .nil))))⟩
def d49 : Df := ⟨mkD (Str.ofString "endless_sum") 56, [(Str.ofString "before"), (Str.ofString "again"), (Str.ofString "factor"), (Str.ofString "turn"), (Str.ofString "_"), (Str.ofString "rest")], [(Str.ofString "before"), (Str.ofString "again"), (Str.ofString "factor")], f49⟩
/-- worth_from -/
def f50 : F := ⟨5, 8, (.cons (.asg (.pair (.name 6) (.name 7)) (.tup (.cons (.dnew false) (.cons (.nw (.disp .nil)) .nil))))
    (.cons (.while_ (.cmp .nmem (.var 3) (.var 6))
      (.cons (.setI (.var 6) (.var 3) (.bi .len (.cons (.var 7) .nil)))
    (.cons (.expr (.app (.var 7) (.call 25 (.cons (.idx (.idx (.var 0) (.idx (.var 2) (.var 3))) (.idx (.idx (.var 1) (.var 3)) (.int 0))) .nil))))
    (.cons (.asg (.name 3) (.idx (.idx (.idx (.var 1) (.var 3)) (.int 1)) (.idx (.var 2) (.var 3))))
    .nil))))
    (.cons (.asg (.name 5) (.idx (.var 6) (.var 3)))
    (.cons (.ret (.call 49 (.cons (.slHi (.var 7) (.var 5)) (.cons (.slLo (.var 7) (.var 5)) (.cons (.var 4) .nil)))))
    .nil))))⟩
def d50 : Df := ⟨mkD (Str.ofString "worth_from") 61, [(Str.ofString "matrix"), (Str.ofString "machine"), (Str.ofString "choices"), (Str.ofString "state"), (Str.ofString "factor"), (Str.ofString "first"), (Str.ofString "known"), (Str.ofString "found")], [(Str.ofString "matrix"), (Str.ofString "machine"), (Str.ofString "choices"), (Str.ofString "state"), (Str.ofString "factor")], f50⟩
/-- worth_now -/
def f51 : F := ⟨3, 3, (.cons (.ret (.call 46 (.cons (.call 45 (.cons (.call 48 (.cons (.glob 3) (.cons (.var 1) .nil))) (.cons (.call 25 (.cons (.var 0) .nil)) .nil))) (.cons (.call 45 (.cons (.var 1) (.cons (.var 2) .nil))) .nil))))
    .nil)⟩
def d51 : Df := ⟨mkD (Str.ofString "worth_now") 62, [(Str.ofString "payoff"), (Str.ofString "factor"), (Str.ofString "rest")], [(Str.ofString "payoff"), (Str.ofString "factor"), (Str.ofString "rest")], f51⟩
/-- better_choices -/
def f52 : F := ⟨4, 13, (.cons (.asg (.pair (.name 4) (.name 5)) (.tup (.cons (.fl (.comp (.call 50 (.cons (.var 0) (.cons (.var 1) (.cons (.var 2) (.cons (.var 6) (.cons (.var 3) .nil)))))) [6] (.name 6) (.rng (.bi .len (.cons (.var 1) .nil))) .nil)) (.cons (.nw (.disp .nil)) .nil))))
    (.cons (.for_ (.pair (.name 6) (.pair (.name 9) (.name 10))) (.enum (.var 1))
      (.cons (.asg (.name 7) (.fl (.comp (.call 51 (.cons (.idx (.var 12) (.var 9)) (.cons (.var 3) (.cons (.idx (.var 4) (.idx (.var 10) (.var 11))) .nil)))) [11, 12] (.pair (.name 11) (.name 12)) (.enum (.var 0)) .nil)))
    (.cons (.asg (.name 8) (.call 31 (.cons (.var 7) .nil)))
    (.cons (.expr (.app (.var 5) (.ite (.call 30 (.cons (.idx (.var 4) (.var 6)) (.cons (.var 8) .nil))) (.index (.var 7) (.var 8)) (.idx (.var 2) (.var 6)))))
    .nil))))
    (.cons (.ret (.frz (.var 5)))
    .nil)))⟩
def d52 : Df := ⟨mkD (Str.ofString "better_choices") 63, [(Str.ofString "matrix"), (Str.ofString "machine"), (Str.ofString "choices"), (Str.ofString "factor"), (Str.ofString "worths"), (Str.ofString "found"), (Str.ofString "state"), (Str.ofString "options"), (Str.ofString "best"), (Str.ofString "played"), (Str.ofString "nexts"), (Str.ofString "choice"), (Str.ofString "row")], [(Str.ofString "matrix"), (Str.ofString "machine"), (Str.ofString "choices"), (Str.ofString "factor")], f52⟩
/-- best_answer -/
def f53 : F := ⟨4, 11, (.cons (.expr (.call 26 (.cons (.var 1) .nil)))
    (.cons (.expr (.call 41 (.cons (.var 0) (.cons (.bin .sub (.int 1) (.var 1)) (.cons (.var 2) .nil)))))
    (.cons (.expr (.call 44 (.cons (.var 3) .nil)))
    (.cons (.asg (.pair (.name 6) (.name 7)) (.tup (.cons (.meth 0 3 22 (.var 0) (.cons (.var 1) .nil)) (.cons (.bin .mul (.fl (.disp (.cons (.int 0) .nil))) (.bi .len (.cons (.var 2) .nil))) .nil))))
    (.cons (.asg (.name 4) (.call 52 (.cons (.var 6) (.cons (.var 2) (.cons (.var 7) (.cons (.var 3) .nil))))))
    (.cons (.while_ (.cmp .ne (.var 4) (.var 7))
      (.cons (.asg (.pair (.name 7) (.name 4)) (.tup (.cons (.var 4) (.cons (.call 52 (.cons (.var 6) (.cons (.var 2) (.cons (.var 4) (.cons (.var 3) .nil))))) .nil))))
    .nil))
    (.cons (.asg (.name 5) (.nw (.disp .nil)))
    (.cons (.for_ (.pair (.name 8) (.pair (.name 9) (.name 10))) (.zip (.var 7) (.var 2))
      (.cons (.expr (.app (.var 5) (.tup (.cons (.var 8) (.cons (.bin .mul (.tup (.cons (.idx (.var 10) (.var 8)) .nil)) (.idx (.fld 0 (.var 0) 0) (.bin .sub (.int 1) (.var 1)))) .nil)))))
    .nil))
    (.cons (.ret (.tup (.cons (.call 50 (.cons (.var 6) (.cons (.var 2) (.cons (.var 7) (.cons (.int 0) (.cons (.var 3) .nil)))))) (.cons (.bi .tuple (.cons (.frz (.var 5)) .nil)) .nil))))
    .nil)))))))))⟩
def d53 : Df := ⟨mkD (Str.ofString "best_answer") 64, [(Str.ofString "game"), (Str.ofString "player"), (Str.ofString "machine"), (Str.ofString "factor"), (Str.ofString "more"), (Str.ofString "answer"), (Str.ofString "matrix"), (Str.ofString "choices"), (Str.ofString "choice"), (Str.ofString "_"), (Str.ofString "nexts")], [(Str.ofString "game"), (Str.ofString "player"), (Str.ofString "machine"), (Str.ofString "factor")], f53⟩
/-- _law_held_right -/
def f54 : F := ⟨5, 24, (.cons (.asg (.pair (.name 10) (.name 11)) (.tup (.cons (.bi .len (.cons (.idx (.var 0) (.int 0)) .nil)) (.cons (.bi .len (.cons (.idx (.idx (.var 0) (.int 0)) (.int 0)) .nil)) .nil))))
    (.cons (.asg (.name 5) (.fl (.disp (.cons (.fl (.comp (.bi .max (.cons (.fl (.comp (.idx (.var 23) (.var 21)) [23] (.name 23) (.e (.idx (.var 0) (.int 0))) .nil)) .nil)) [21] (.name 21) (.rng (.var 11)) .nil)) (.cons (.fl (.comp (.bi .max (.cons (.idx (.idx (.var 0) (.int 1)) (.var 22)) .nil)) [22] (.name 22) (.rng (.var 10)) .nil)) .nil)))))
    (.cons (.asg (.name 6) (.fl (.comp (.tup (.cons (.bi .min (.cons (.idx (.var 5) (.var 18)) .nil)) (.cons (.index (.idx (.var 5) (.var 18)) (.bi .min (.cons (.idx (.var 5) (.var 18)) .nil))) .nil))) [18] (.name 18) (.e (.tup (.cons (.int 0) (.cons (.int 1) .nil)))) .nil)))
    (.cons (.if_ (.not_ (.call 18 (.cons (.fl (.disp (.cons (.call 27 (.cons (.var 1) (.cons (.int 0) .nil))) (.cons (.callK 27 (.cons (.int 1) (.cons (.var 1) .nil)) [1, 0]) .nil)))) (.cons (.var 6) .nil))))
      (.cons (.ret (.bl false))
    .nil)
      .nil)
    (.cons (.asg (.name 7) (.tup (.cons (.tup (.cons (.var 2) (.cons (.bi .tuple (.cons (.fl (.comp (.bi .int (.cons (.cmp .ne (.var 21) (.var 3)) .nil)) [21] (.name 21) (.rng (.var 11)) .nil)) .nil)) .nil))) (.cons (.tup (.cons (.idx (.idx (.var 6) (.int 1)) (.int 1)) (.cons (.bin .mul (.tup (.cons (.int 1) .nil)) (.var 11)) .nil))) .nil))))
    (.cons (.asg (.name 8) (.tup (.cons (.tup (.cons (.var 3) (.cons (.bi .tuple (.cons (.fl (.comp (.bi .int (.cons (.cmp .ne (.var 22) (.var 2)) .nil)) [22] (.name 22) (.rng (.var 10)) .nil)) .nil)) .nil))) (.cons (.tup (.cons (.idx (.idx (.var 6) (.int 0)) (.int 1)) (.cons (.bin .mul (.tup (.cons (.int 1) .nil)) (.var 10)) .nil))) .nil))))
    (.cons (.if_ (.not_ (.call 18 (.cons (.fl (.disp (.cons (.call 35 (.cons (.var 1) (.cons (.tup (.cons (.var 2) (.cons (.var 3) .nil))) .nil))) (.cons (.callK 35 (.cons (.tup (.cons (.var 2) (.cons (.var 3) .nil))) (.cons (.var 1) .nil)) [1, 0]) .nil)))) (.cons (.bin .mul (.fl (.disp (.cons (.tup (.cons (.var 7) (.cons (.var 8) .nil))) .nil))) (.int 2)) .nil))))
      (.cons (.ret (.bl false))
    .nil)
      .nil)
    (.cons (.asg (.pair (.name 12) (.name 13)) (.tup (.cons (.call 32 (.cons (.var 1) (.cons (.tup (.cons (.var 2) (.cons (.var 3) .nil))) .nil))) (.cons (.tup (.cons (.int 0) (.cons (.int 1) .nil))) .nil))))
    (.cons (.for_ (.name 9) (.e (.tup (.cons (.int 0) (.cons (.int 1) .nil))))
      (.cons (.asg (.name 14) (.idx (.idx (.idx (.var 0) (.var 9)) (.var 2)) (.var 3)))
    (.cons (.asg (.name 15) (.ite (.cmp .eq (.var 9) (.int 0)) (.fl (.comp (.idx (.idx (.idx (.var 0) (.int 0)) (.var 22)) (.var 3)) [22] (.name 22) (.rng (.var 10)) (.cons (.cmp .ne (.var 22) (.var 2)) .nil))) (.fl (.comp (.idx (.idx (.idx (.var 0) (.int 1)) (.var 2)) (.var 21)) [21] (.name 21) (.rng (.var 11)) (.cons (.cmp .ne (.var 21) (.var 3)) .nil)))))
    (.cons (.asg (.pair (.name 19) (.name 20)) (.tup (.cons (.ite (.cmp .ne (.var 15) (.fl (.disp .nil))) (.bi .max (.cons (.var 15) .nil)) (.bin .sub (.var 14) (.int 1))) (.cons (.idx (.idx (.var 6) (.var 9)) (.int 0)) .nil))))
    (.cons (.if_ (.and_ (.cmp .ne (.var 15) (.fl (.disp .nil))) (.or_ (.cmp .gt (.var 20) (.var 14)) (.and_ (.cmp .eq (.var 20) (.var 14)) (.cmp .gt (.var 19) (.var 14)))))
      (.cons (.asg (.name 13) .non)
    .nil)
      (.cons (.if_ (.and_ (.cmp .notN (.var 13) .non) (.cmp .gt (.var 19) (.var 14)))
      (.cons (.asg (.name 13) (.call 37 (.cons (.fl (.disp (.cons (.var 13) (.cons (.call 13 (.cons (.bin .sub (.var 19) (.var 14)) (.cons (.bin .sub (.var 19) (.var 20)) .nil))) .nil)))) .nil)))
    .nil)
      .nil)
    .nil))
    .nil)))))
    (.cons (.if_ (.not_ (.call 18 (.cons (.fl (.disp (.cons (.var 12) (.cons (.callK 32 (.cons (.tup (.cons (.var 2) (.cons (.var 3) .nil))) (.cons (.var 1) .nil)) [1, 0]) .nil)))) (.cons (.fl (.disp (.cons (.var 13) (.cons (.var 13) .nil)))) .nil))))
      (.cons (.ret (.bl false))
    .nil)
      .nil)
    (.cons (.if_ (.and_ (.cmp .mem (.tup (.cons (.var 2) (.cons (.var 3) .nil))) (.var 4)) (.cmp .ne (.var 12) (.tup (.cons (.int 0) (.cons (.int 1) .nil)))))
      (.cons (.ret (.bl false))
    .nil)
      .nil)
    (.cons (.if_ (.cmp .isN (.var 12) .non)
      (.cons (.ret (.bl true))
    .nil)
      .nil)
    (.cons (.for_ (.pair (.name 9) (.name 16)) (.e (.fl (.disp (.cons (.tup (.cons (.int 0) (.cons (.var 8) .nil))) (.cons (.tup (.cons (.int 1) (.cons (.var 7) .nil))) .nil)))))
      (.cons (.if_ (.cmp .ne (.idx (.call 53 (.cons (.var 1) (.cons (.var 9) (.cons (.var 16) (.cons (.var 12) .nil))))) (.int 0)) (.tup (.cons (.idx (.idx (.idx (.var 0) (.var 9)) (.var 2)) (.var 3)) (.cons (.int 1) .nil))))
      (.cons (.ret (.bl false))
    .nil)
      .nil)
    .nil))
    (.cons (.if_ (.cmp .gt (.idx (.var 12) (.int 0)) (.int 0))
      (.cons (.asg (.name 17) (.call 33 (.cons (.var 12) (.cons (.tup (.cons (.int 99) (.cons (.int 100) .nil))) .nil))))
    (.cons (.ret (.cmp .ne (.fl (.comp (.var 18) [18, 16] (.pair (.name 18) (.name 16)) (.e (.fl (.disp (.cons (.tup (.cons (.int 0) (.cons (.var 8) .nil))) (.cons (.tup (.cons (.int 1) (.cons (.var 7) .nil))) .nil))))) (.cons (.cmp .ne (.idx (.call 53 (.cons (.var 1) (.cons (.var 18) (.cons (.var 16) (.cons (.var 17) .nil))))) (.int 0)) (.tup (.cons (.idx (.idx (.idx (.var 0) (.var 18)) (.var 2)) (.var 3)) (.cons (.int 1) .nil)))) .nil))) (.fl (.disp .nil))))
    .nil))
      .nil)
    (.cons (.ret (.bl true))
    .nil)))))))))))))))⟩
def d54 : Df := ⟨mkD (Str.ofString "_law_held_right") 112, [(Str.ofString "game"), (Str.ofString "made"), (Str.ofString "i"), (Str.ofString "j"), (Str.ofString "pairs"), (Str.ofString "worst"), (Str.ofString "due"), (Str.ofString "first"), (Str.ofString "second"), (Str.ofString "player"), (Str.ofString "rows"), (Str.ofString "columns"), (Str.ofString "told"), (Str.ofString "least"), (Str.ofString "here"), (Str.ofString "others"), (Str.ofString "machine"), (Str.ofString "near"), (Str.ofString "p"), (Str.ofString "top"), (Str.ofString "low"), (Str.ofString "b"), (Str.ofString "a"), (Str.ofString "row")], [(Str.ofString "game"), (Str.ofString "made"), (Str.ofString "i"), (Str.ofString "j"), (Str.ofString "pairs")], f54⟩
/-- check_machines -/
def f55 : F := ⟨3, 3, (.cons (.expr (.call 41 (.cons (.var 0) (.cons (.int 0) (.cons (.var 1) .nil)))))
    (.cons (.expr (.call 41 (.cons (.var 0) (.cons (.int 1) (.cons (.var 2) .nil)))))
    .nil))⟩
def d55 : Df := ⟨mkD (Str.ofString "check_machines") 46, [(Str.ofString "game"), (Str.ofString "one"), (Str.ofString "other")], [(Str.ofString "game"), (Str.ofString "one"), (Str.ofString "other")], f55⟩
/-- choices_at -/
def f56 : F := ⟨3, 3, (.cons (.ret (.tup (.cons (.idx (.idx (.var 0) (.idx (.var 2) (.int 0))) (.int 0)) (.cons (.idx (.idx (.var 1) (.idx (.var 2) (.int 1))) (.int 0)) .nil))))
    .nil)⟩
def d56 : Df := ⟨mkD (Str.ofString "choices_at") 48, [(Str.ofString "one"), (Str.ofString "other"), (Str.ofString "states")], [(Str.ofString "one"), (Str.ofString "other"), (Str.ofString "states")], f56⟩
/-- states_behind -/
def f57 : F := ⟨4, 4, (.cons (.ret (.tup (.cons (.idx (.idx (.idx (.var 0) (.idx (.var 2) (.int 0))) (.int 1)) (.idx (.var 3) (.int 1))) (.cons (.idx (.idx (.idx (.var 1) (.idx (.var 2) (.int 1))) (.int 1)) (.idx (.var 3) (.int 0))) .nil))))
    .nil)⟩
def d57 : Df := ⟨mkD (Str.ofString "states_behind") 49, [(Str.ofString "one"), (Str.ofString "other"), (Str.ofString "states"), (Str.ofString "choices")], [(Str.ofString "one"), (Str.ofString "other"), (Str.ofString "states"), (Str.ofString "choices")], f57⟩
/-- walk -/
def f58 : F := ⟨3, 5, (.cons (.asg (.pair (.name 3) (.name 4)) (.tup (.cons (.dnew true) (.cons (.nw (.disp .nil)) .nil))))
    (.cons (.while_ (.cmp .nmem (.var 2) (.var 3))
      (.cons (.setI (.var 3) (.var 2) (.bi .len (.cons (.var 4) .nil)))
    (.cons (.expr (.app (.var 4) (.call 56 (.cons (.var 0) (.cons (.var 1) (.cons (.var 2) .nil))))))
    (.cons (.asg (.name 2) (.call 57 (.cons (.var 0) (.cons (.var 1) (.cons (.var 2) (.cons (.idx (.var 4) (.neg (.int 1))) .nil))))))
    .nil))))
    (.cons (.ret (.tup (.cons (.frz (.var 4)) (.cons (.idx (.var 3) (.var 2)) .nil))))
    .nil)))⟩
def d58 : Df := ⟨mkD (Str.ofString "walk") 50, [(Str.ofString "one"), (Str.ofString "other"), (Str.ofString "states"), (Str.ofString "known"), (Str.ofString "found")], [(Str.ofString "one"), (Str.ofString "other"), (Str.ofString "states")], f58⟩
/-- payoff_at -/
def f59 : F := ⟨3, 3, (.cons (.ret (.call 25 (.cons (.idx (.idx (.idx (.tup (.cons (.fld 0 (.var 0) 2) (.cons (.fld 0 (.var 0) 1) .nil))) (.var 1)) (.idx (.var 2) (.int 0))) (.idx (.var 2) (.int 1))) .nil)))
    .nil)⟩
def d59 : Df := ⟨mkD (Str.ofString "payoff_at") 54, [(Str.ofString "game"), (Str.ofString "player"), (Str.ofString "choices")], [(Str.ofString "game"), (Str.ofString "player"), (Str.ofString "choices")], f59⟩
/-- discounted_from -/
def f60 : F := ⟨6, 10, (.cons (.asg (.pair (.name 7) (.name 8)) (.call 58 (.cons (.var 2) (.cons (.var 3) (.cons (.var 4) .nil)))))
    (.cons (.asg (.name 6) (.fl (.comp (.call 59 (.cons (.var 0) (.cons (.var 1) (.cons (.var 9) .nil)))) [9] (.name 9) (.e (.var 7)) .nil)))
    (.cons (.ret (.call 49 (.cons (.slHi (.var 6) (.var 8)) (.cons (.slLo (.var 6) (.var 8)) (.cons (.var 5) .nil)))))
    .nil)))⟩
def d60 : Df := ⟨mkD (Str.ofString "discounted_from") 57, [(Str.ofString "game"), (Str.ofString "player"), (Str.ofString "one"), (Str.ofString "other"), (Str.ofString "states"), (Str.ofString "factor"), (Str.ofString "items"), (Str.ofString "found"), (Str.ofString "first"), (Str.ofString "choices")], [(Str.ofString "game"), (Str.ofString "player"), (Str.ofString "one"), (Str.ofString "other"), (Str.ofString "states"), (Str.ofString "factor")], f60⟩
/-- changed -/
def f61 : F := ⟨3, 3, (.cons (.ret (.ite (.cmp .eq (.var 1) (.int 0)) (.tup (.cons (.var 2) (.cons (.idx (.var 0) (.int 1)) .nil))) (.tup (.cons (.idx (.var 0) (.int 0)) (.cons (.var 2) .nil)))))
    .nil)⟩
def d61 : Df := ⟨mkD (Str.ofString "changed") 65, [(Str.ofString "choices"), (Str.ofString "player"), (Str.ofString "choice")], [(Str.ofString "choices"), (Str.ofString "player"), (Str.ofString "choice")], f61⟩
/-- gains_at -/
def f62 : F := ⟨5, 14, (.cons (.asg (.pair (.name 6) (.name 7)) (.tup (.cons (.call 56 (.cons (.var 1) (.cons (.var 2) (.cons (.var 3) .nil)))) (.cons (.nw (.disp .nil)) .nil))))
    (.cons (.for_ (.name 5) (.e (.tup (.cons (.int 0) (.cons (.int 1) .nil))))
      (.cons (.asg (.name 8) (.call 60 (.cons (.var 0) (.cons (.var 5) (.cons (.var 1) (.cons (.var 2) (.cons (.var 3) (.cons (.var 4) .nil))))))))
    (.cons (.for_ (.name 9) (.rng (.idx (.fld 0 (.var 0) 0) (.var 5)))
      (.cons (.asg (.name 10) (.call 61 (.cons (.var 6) (.cons (.var 5) (.cons (.var 9) .nil)))))
    (.cons (.asg (.name 11) (.call 57 (.cons (.var 1) (.cons (.var 2) (.cons (.var 3) (.cons (.var 10) .nil))))))
    (.cons (.asg (.name 12) (.idx (.idx (.idx (.tup (.cons (.fld 0 (.var 0) 2) (.cons (.fld 0 (.var 0) 1) .nil))) (.var 5)) (.idx (.var 10) (.int 0))) (.idx (.var 10) (.int 1))))
    (.cons (.asg (.name 13) (.call 60 (.cons (.var 0) (.cons (.var 5) (.cons (.var 1) (.cons (.var 2) (.cons (.var 11) (.cons (.var 4) .nil))))))))
    (.cons (.if_ (.call 30 (.cons (.var 8) (.cons (.call 51 (.cons (.var 12) (.cons (.var 4) (.cons (.var 13) .nil)))) .nil)))
      (.cons (.expr (.app (.var 7) (.tup (.cons (.var 5) (.cons (.var 9) .nil)))))
    .nil)
      .nil)
    .nil))))))
    .nil)))
    (.cons (.ret (.frz (.var 7)))
    .nil)))⟩
def d62 : Df := ⟨mkD (Str.ofString "gains_at") 66, [(Str.ofString "game"), (Str.ofString "one"), (Str.ofString "other"), (Str.ofString "states"), (Str.ofString "factor"), (Str.ofString "player"), (Str.ofString "choices"), (Str.ofString "found"), (Str.ofString "own"), (Str.ofString "choice"), (Str.ofString "played"), (Str.ofString "after"), (Str.ofString "payoff"), (Str.ofString "rest")], [(Str.ofString "game"), (Str.ofString "one"), (Str.ofString "other"), (Str.ofString "states"), (Str.ofString "factor")], f62⟩
/-- one_step_gain -/
def f63 : F := ⟨4, 7, (.cons (.expr (.call 55 (.cons (.var 0) (.cons (.var 1) (.cons (.var 2) .nil)))))
    (.cons (.expr (.call 44 (.cons (.var 3) .nil)))
    (.cons (.for_ (.name 4) (.rng (.bi .len (.cons (.var 1) .nil)))
      (.cons (.for_ (.name 5) (.rng (.bi .len (.cons (.var 2) .nil)))
      (.cons (.asg (.name 6) (.call 62 (.cons (.var 0) (.cons (.var 1) (.cons (.var 2) (.cons (.tup (.cons (.var 4) (.cons (.var 5) .nil))) (.cons (.var 3) .nil)))))))
    (.cons (.if_ (.cmp .ne (.var 6) (.fl (.disp .nil)))
      (.cons (.ret (.tup (.cons (.var 4) (.cons (.var 5) (.star (.idx (.var 6) (.int 0)) .nil)))))
    .nil)
      .nil)
    .nil)))
    .nil))
    (.cons (.ret .non)
    .nil))))⟩
def d63 : Df := ⟨mkD (Str.ofString "one_step_gain") 67, [(Str.ofString "game"), (Str.ofString "one"), (Str.ofString "other"), (Str.ofString "factor"), (Str.ofString "first"), (Str.ofString "second"), (Str.ofString "found")], [(Str.ofString "game"), (Str.ofString "one"), (Str.ofString "other"), (Str.ofString "factor")], f63⟩
/-- best_of -/
def f64 : F := ⟨1, 4, (.cons (.asg (.name 1) (.call 31 (.cons (.var 0) .nil)))
    (.cons (.ret (.bi .tuple (.cons (.fl (.comp (.var 2) [2, 3] (.pair (.name 2) (.name 3)) (.enum (.var 0)) (.cons (.cmp .eq (.var 3) (.var 1)) .nil))) .nil)))
    .nil))⟩
def d64 : Df := ⟨mkD (Str.ofString "best_of") 78, [(Str.ofString "worths"), (Str.ofString "high"), (Str.ofString "choice"), (Str.ofString "worth")], [(Str.ofString "worths")], f64⟩
/-- total -/
def f65 : F := ⟨1, 3, (.cons (.asg (.name 1) (.glob 1))
    (.cons (.for_ (.name 2) (.e (.var 0))
      (.cons (.asg (.name 1) (.call 46 (.cons (.var 1) (.cons (.var 2) .nil))))
    .nil))
    (.cons (.ret (.var 1))
    .nil)))⟩
def d65 : Df := ⟨mkD (Str.ofString "total") 28, [(Str.ofString "items"), (Str.ofString "found"), (Str.ofString "item")], [(Str.ofString "items")], f65⟩
/-- is_plan -/
def f66 : F := ⟨2, 3, (.cons (.if_ (.or_ (.not_ (.call 5 (.cons (.var 1) (.cons (.var 0) .nil)))) (.not_ (.bi .all (.cons (.fl (.comp (.and_ (.call 42 (.cons (.var 2) .nil)) (.cmp .ge (.idx (.var 2) (.int 0)) (.int 0))) [2] (.name 2) (.e (.var 1)) .nil)) .nil))))
      (.cons (.ret (.bl false))
    .nil)
      .nil)
    (.cons (.ret (.cmp .eq (.call 65 (.cons (.var 1) .nil)) (.glob 3)))
    .nil))⟩
def d66 : Df := ⟨mkD (Str.ofString "is_plan") 33, [(Str.ofString "count"), (Str.ofString "value"), (Str.ofString "item")], [(Str.ofString "count"), (Str.ofString "value")], f66⟩
/-- check_plan -/
def f67 : F := ⟨2, 2, (.cons (.if_ (.not_ (.call 66 (.cons (.var 0) (.cons (.var 1) .nil))))
      (.cons .never
    .nil)
      .nil)
    .nil)⟩
def d67 : Df := ⟨mkD (Str.ofString "check_plan") 34, [(Str.ofString "count"), (Str.ofString "plan")], [(Str.ofString "count"), (Str.ofString "plan")], f67⟩
/-- dot -/
def f68 : F := ⟨2, 4, (.cons (.ret (.call 65 (.cons (.fl (.comp (.call 45 (.cons (.var 2) (.cons (.var 3) .nil))) [2, 3] (.pair (.name 2) (.name 3)) (.zip (.var 0) (.var 1)) .nil)) .nil)))
    .nil)⟩
def d68 : Df := ⟨mkD (Str.ofString "dot") 29, [(Str.ofString "one"), (Str.ofString "other"), (Str.ofString "item"), (Str.ofString "more")], [(Str.ofString "one"), (Str.ofString "other")], f68⟩
/-- Game_worths -/
def f69 : F := ⟨3, 5, (.cons (.ret (.bi .tuple (.cons (.fl (.comp (.call 68 (.cons (.fl (.comp (.call 25 (.cons (.var 4) .nil)) [4] (.name 4) (.e (.var 3)) .nil)) (.cons (.var 2) .nil))) [3] (.name 3) (.e (.meth 0 3 22 (.var 0) (.cons (.var 1) .nil))) .nil)) .nil)))
    .nil)⟩
def d69 : Df := ⟨mkM (Str.ofString "Game") (Str.ofString "worths") (Str.ofString "Game.worths") 76 3, [(Str.ofString "self"), (Str.ofString "player"), (Str.ofString "plan"), (Str.ofString "row"), (Str.ofString "item")], [(Str.ofString "self"), (Str.ofString "player"), (Str.ofString "plan")], f69⟩
/-- against -/
def f70 : F := ⟨3, 3, (.cons (.expr (.call 26 (.cons (.var 1) .nil)))
    (.cons (.expr (.call 67 (.cons (.idx (.fld 0 (.var 0) 0) (.bin .sub (.int 1) (.var 1))) (.cons (.var 2) .nil))))
    (.cons (.ret (.meth 0 4 69 (.var 0) (.cons (.var 1) (.cons (.var 2) .nil))))
    .nil)))⟩
def d70 : Df := ⟨mkD (Str.ofString "against") 77, [(Str.ofString "game"), (Str.ofString "player"), (Str.ofString "plan")], [(Str.ofString "game"), (Str.ofString "player"), (Str.ofString "plan")], f70⟩
/-- best_replies -/
def f71 : F := ⟨3, 3, (.cons (.ret (.call 64 (.cons (.call 70 (.cons (.var 0) (.cons (.var 1) (.cons (.var 2) .nil)))) .nil)))
    .nil)⟩
def d71 : Df := ⟨mkD (Str.ofString "best_replies") 79, [(Str.ofString "game"), (Str.ofString "player"), (Str.ofString "plan")], [(Str.ofString "game"), (Str.ofString "player"), (Str.ofString "plan")], f71⟩
/-- discounted -/
def f72 : F := ⟨4, 5, (.cons (.expr (.call 55 (.cons (.var 0) (.cons (.var 1) (.cons (.var 2) .nil)))))
    (.cons (.expr (.call 44 (.cons (.var 3) .nil)))
    (.cons (.ret (.bi .tuple (.cons (.fl (.comp (.call 60 (.cons (.var 0) (.cons (.var 4) (.cons (.var 1) (.cons (.var 2) (.cons (.tup (.cons (.int 0) (.cons (.int 0) .nil))) (.cons (.var 3) .nil))))))) [4] (.name 4) (.e (.tup (.cons (.int 0) (.cons (.int 1) .nil)))) .nil)) .nil)))
    .nil)))⟩
def d72 : Df := ⟨mkD (Str.ofString "discounted") 58, [(Str.ofString "game"), (Str.ofString "one"), (Str.ofString "other"), (Str.ofString "factor"), (Str.ofString "player")], [(Str.ofString "game"), (Str.ofString "one"), (Str.ofString "other"), (Str.ofString "factor")], f72⟩
/-- shortest -/
def f73 : F := ⟨2, 5, (.cons (.asg (.name 2) (.bi .len (.cons (.var 1) .nil)))
    (.cons (.asg (.name 3) (.fl (.comp (.var 4) [4] (.name 4) (.rng2 (.int 1) (.bin .add (.var 2) (.int 1))) (.cons (.cmp .eq (.bin .mod (.var 2) (.var 4)) (.int 0)) .nil))))
    (.cons (.asg (.name 1) (.slHi (.var 1) (.idx (.fl (.comp (.var 4) [4] (.name 4) (.e (.var 3)) (.cons (.cmp .eq (.bin .mul (.slHi (.var 1) (.var 4)) (.bin .fdiv (.var 2) (.var 4))) (.var 1)) .nil))) (.int 0))))
    (.cons (.while_ (.and_ (.cmp .ne (.var 0) (.fl (.disp .nil))) (.cmp .eq (.idx (.var 0) (.neg (.int 1))) (.idx (.var 1) (.neg (.int 1)))))
      (.cons (.asg (.pair (.name 0) (.name 1)) (.tup (.cons (.slHi (.var 0) (.neg (.int 1))) (.cons (.bin .add (.slLo (.var 1) (.neg (.int 1))) (.slHi (.var 1) (.neg (.int 1)))) .nil))))
    .nil))
    (.cons (.ret (.tup (.cons (.var 0) (.cons (.var 1) .nil))))
    .nil)))))⟩
def d73 : Df := ⟨mkD (Str.ofString "shortest") 52, [(Str.ofString "before"), (Str.ofString "again"), (Str.ofString "many"), (Str.ofString "lengths"), (Str.ofString "length")], [(Str.ofString "before"), (Str.ofString "again")], f73⟩
/-- cycle_of -/
def f74 : F := ⟨3, 5, (.cons (.expr (.call 55 (.cons (.var 0) (.cons (.var 1) (.cons (.var 2) .nil)))))
    (.cons (.asg (.pair (.name 3) (.name 4)) (.call 58 (.cons (.var 1) (.cons (.var 2) (.cons (.tup (.cons (.int 0) (.cons (.int 0) .nil))) .nil)))))
    (.cons (.ret (.call 73 (.cons (.slHi (.var 3) (.var 4)) (.cons (.slLo (.var 3) (.var 4)) .nil))))
    .nil)))⟩
def d74 : Df := ⟨mkD (Str.ofString "cycle_of") 53, [(Str.ofString "game"), (Str.ofString "one"), (Str.ofString "other"), (Str.ofString "found"), (Str.ofString "first")], [(Str.ofString "game"), (Str.ofString "one"), (Str.ofString "other")], f74⟩
/-- average_of -/
def f75 : F := ⟨3, 8, (.cons (.asg (.pair (.name 4) (.name 5)) (.call 74 (.cons (.var 0) (.cons (.var 1) (.cons (.var 2) .nil)))))
    (.cons (.asg (.name 3) (.call 25 (.cons (.bi .len (.cons (.var 5) .nil)) .nil)))
    (.cons (.ret (.bi .tuple (.cons (.fl (.comp (.call 24 (.cons (.call 65 (.cons (.fl (.comp (.call 59 (.cons (.var 0) (.cons (.var 6) (.cons (.var 7) .nil)))) [7] (.name 7) (.e (.var 5)) .nil)) .nil)) (.cons (.var 3) .nil))) [6] (.name 6) (.e (.tup (.cons (.int 0) (.cons (.int 1) .nil)))) .nil)) .nil)))
    .nil)))⟩
def d75 : Df := ⟨mkD (Str.ofString "average_of") 59, [(Str.ofString "game"), (Str.ofString "one"), (Str.ofString "other"), (Str.ofString "many"), (Str.ofString "before"), (Str.ofString "again"), (Str.ofString "player"), (Str.ofString "choices")], [(Str.ofString "game"), (Str.ofString "one"), (Str.ofString "other")], f75⟩
/-- _law_single -/
def f76 : F := ⟨2, 3, (.cons (.ret (.bi .tuple (.cons (.fl (.comp (.tup (.cons (.bi .int (.cons (.cmp .eq (.var 2) (.var 1)) .nil)) (.cons (.int 1) .nil))) [2] (.name 2) (.rng (.var 0)) .nil)) .nil)))
    .nil)⟩
def d76 : Df := ⟨mkD (Str.ofString "_law_single") 100, [(Str.ofString "count"), (Str.ofString "choice"), (Str.ofString "k")], [(Str.ofString "count"), (Str.ofString "choice")], f76⟩
/-- _law_single_right -/
def f77 : F := ⟨4, 15, (.cons (.asg (.pair (.name 7) (.name 8)) (.tup (.cons (.bi .len (.cons (.idx (.var 1) (.int 0)) .nil)) (.cons (.bi .len (.cons (.idx (.idx (.var 1) (.int 0)) (.int 0)) .nil)) .nil))))
    (.cons (.asg (.name 4) (.call 17 (.cons (.var 2) .nil)))
    (.cons (.asg (.pair (.name 9) (.name 10)) (.tup (.cons (.call 1 (.cons (.var 0) (.cons (.var 7) .nil))) (.cons (.call 1 (.cons (.var 0) (.cons (.var 8) .nil))) .nil))))
    (.cons (.if_ (.and_ (.cmp .ne (.var 4) (.fl (.disp .nil))) (.cmp .eq (.call 1 (.cons (.var 0) (.cons (.int 2) .nil))) (.int 0)))
      (.cons (.asg (.pair (.name 9) (.name 10)) (.idx (.var 4) (.call 1 (.cons (.var 0) (.cons (.bi .len (.cons (.var 4) .nil)) .nil)))))
    .nil)
      .nil)
    (.cons (.asg (.pair (.name 11) (.name 12)) (.tup (.cons (.tup (.cons (.tup (.cons (.var 9) (.cons (.bin .mul (.tup (.cons (.int 0) .nil)) (.var 8)) .nil))) .nil)) (.cons (.tup (.cons (.tup (.cons (.var 10) (.cons (.bin .mul (.tup (.cons (.int 0) .nil)) (.var 7)) .nil))) .nil)) .nil))))
    (.cons (.asg (.name 5) (.bi .tuple (.cons (.fl (.comp (.tup (.cons (.idx (.idx (.var 13) (.var 9)) (.var 10)) (.cons (.int 1) .nil))) [13] (.name 13) (.e (.var 1)) .nil)) .nil)))
    (.cons (.if_ (.not_ (.call 18 (.cons (.fl (.disp (.cons (.call 72 (.cons (.var 2) (.cons (.var 11) (.cons (.var 12) (.cons (.var 3) .nil))))) (.cons (.call 75 (.cons (.var 2) (.cons (.var 11) (.cons (.var 12) .nil)))) .nil)))) (.cons (.fl (.disp (.cons (.var 5) (.cons (.var 5) .nil)))) .nil))))
      (.cons (.ret (.bl false))
    .nil)
      .nil)
    (.cons (.if_ (.cmp .ne (.cmp .isN (.call 63 (.cons (.var 2) (.cons (.var 11) (.cons (.var 12) (.cons (.var 3) .nil))))) .non) (.cmp .mem (.tup (.cons (.var 9) (.cons (.var 10) .nil))) (.var 4)))
      (.cons (.ret (.bl false))
    .nil)
      .nil)
    (.cons (.asg (.name 6) (.fl (.disp (.cons (.bi .max (.cons (.fl (.comp (.idx (.var 14) (.var 10)) [14] (.name 14) (.e (.idx (.var 1) (.int 0))) .nil)) .nil)) (.cons (.bi .max (.cons (.idx (.idx (.var 1) (.int 1)) (.var 9)) .nil)) .nil)))))
    (.cons (.if_ (.not_ (.call 18 (.cons (.fl (.disp (.cons (.idx (.call 53 (.cons (.var 2) (.cons (.int 0) (.cons (.var 12) (.cons (.var 3) .nil))))) (.int 0)) (.cons (.idx (.call 53 (.cons (.var 2) (.cons (.int 1) (.cons (.var 11) (.cons (.var 3) .nil))))) (.int 0)) .nil)))) (.cons (.fl (.disp (.cons (.tup (.cons (.idx (.var 6) (.int 0)) (.cons (.int 1) .nil))) (.cons (.tup (.cons (.idx (.var 6) (.int 1)) (.cons (.int 1) .nil))) .nil)))) .nil))))
      (.cons (.ret (.bl false))
    .nil)
      .nil)
    (.cons (.ret (.and_ (.cmp .mem (.idx (.idx (.idx (.call 53 (.cons (.var 2) (.cons (.int 0) (.cons (.var 12) (.cons (.var 3) .nil))))) (.int 1)) (.int 0)) (.int 0)) (.call 71 (.cons (.var 2) (.cons (.int 0) (.cons (.call 76 (.cons (.var 8) (.cons (.var 10) .nil))) .nil))))) (.call 54 (.cons (.var 1) (.cons (.var 2) (.cons (.var 9) (.cons (.var 10) (.cons (.var 4) .nil))))))))
    .nil)))))))))))⟩
def d77 : Df := ⟨mkD (Str.ofString "_law_single_right") 111, [(Str.ofString "box"), (Str.ofString "game"), (Str.ofString "made"), (Str.ofString "factor"), (Str.ofString "pairs"), (Str.ofString "due"), (Str.ofString "best"), (Str.ofString "rows"), (Str.ofString "columns"), (Str.ofString "i"), (Str.ofString "j"), (Str.ofString "one"), (Str.ofString "other"), (Str.ofString "table"), (Str.ofString "row")], [(Str.ofString "box"), (Str.ofString "game"), (Str.ofString "made"), (Str.ofString "factor")], f77⟩
/-- _law_walk -/
def f78 : F := ⟨4, 11, (.cons (.asg (.pair (.name 5) (.name 6)) (.tup (.cons (.nw (.disp .nil)) (.cons (.nw (.disp .nil)) .nil))))
    (.cons (.asg (.pair (.name 7) (.name 8)) (.var 3))
    (.cons (.for_ (.name 4) (.rng (.var 2))
      (.cons (.expr (.app (.var 6) (.tup (.cons (.var 7) (.cons (.var 8) .nil)))))
    (.cons (.asg (.pair (.name 9) (.name 10)) (.tup (.cons (.idx (.idx (.var 0) (.var 7)) (.int 0)) (.cons (.idx (.idx (.var 1) (.var 8)) (.int 0)) .nil))))
    (.cons (.expr (.app (.var 5) (.tup (.cons (.var 9) (.cons (.var 10) .nil)))))
    (.cons (.asg (.pair (.name 7) (.name 8)) (.tup (.cons (.idx (.idx (.idx (.var 0) (.var 7)) (.int 1)) (.var 10)) (.cons (.idx (.idx (.idx (.var 1) (.var 8)) (.int 1)) (.var 9)) .nil))))
    .nil)))))
    (.cons (.ret (.fl (.disp (.cons (.frz (.var 5)) (.cons (.frz (.var 6)) .nil)))))
    .nil))))⟩
def d78 : Df := ⟨mkD (Str.ofString "_law_walk") 102, [(Str.ofString "one"), (Str.ofString "other"), (Str.ofString "many"), (Str.ofString "states"), (Str.ofString "n"), (Str.ofString "pairs"), (Str.ofString "met"), (Str.ofString "i"), (Str.ofString "j"), (Str.ofString "a"), (Str.ofString "b")], [(Str.ofString "one"), (Str.ofString "other"), (Str.ofString "many"), (Str.ofString "states")], f78⟩
/-- _law_cycle -/
def f79 : F := ⟨3, 8, (.cons (.asg (.pair (.name 5) (.name 6)) (.call 78 (.cons (.var 0) (.cons (.var 1) (.cons (.int 40) (.cons (.var 2) .nil))))))
    (.cons (.asg (.name 3) (.idx (.fl (.comp (.var 7) [7] (.name 7) (.rng2 (.int 1) (.int 40)) (.cons (.cmp .mem (.idx (.var 6) (.var 7)) (.slHi (.var 6) (.var 7))) .nil))) (.int 0)))
    (.cons (.asg (.name 4) (.index (.var 6) (.idx (.var 6) (.var 3))))
    (.cons (.ret (.fl (.disp (.cons (.slHi (.var 5) (.var 4)) (.cons (.slLH (.var 5) (.var 4) (.var 3)) .nil)))))
    .nil))))⟩
def d79 : Df := ⟨mkD (Str.ofString "_law_cycle") 103, [(Str.ofString "one"), (Str.ofString "other"), (Str.ofString "states"), (Str.ofString "at"), (Str.ofString "start"), (Str.ofString "pairs"), (Str.ofString "met"), (Str.ofString "n")], [(Str.ofString "one"), (Str.ofString "other"), (Str.ofString "states")], f79⟩
/-- _law_shortest -/
def f80 : F := ⟨2, 4, (.cons (.asg (.name 2) (.idx (.fl (.comp (.var 3) [3] (.name 3) (.rng2 (.int 1) (.bin .add (.bi .len (.cons (.var 1) .nil)) (.int 1))) (.cons (.and_ (.cmp .eq (.bin .mul (.bin .fdiv (.bi .len (.cons (.var 1) .nil)) (.var 3)) (.var 3)) (.bi .len (.cons (.var 1) .nil))) (.cmp .eq (.bin .mul (.slHi (.var 1) (.var 3)) (.bin .fdiv (.bi .len (.cons (.var 1) .nil)) (.var 3))) (.var 1))) .nil))) (.int 0)))
    (.cons (.asg (.pair (.name 0) (.name 1)) (.tup (.cons (.fl (.list (.var 0))) (.cons (.slHi (.var 1) (.var 2)) .nil))))
    (.cons (.while_ (.and_ (.cmp .ne (.var 0) (.fl (.disp .nil))) (.cmp .eq (.idx (.var 0) (.neg (.int 1))) (.idx (.var 1) (.neg (.int 1)))))
      (.cons (.asg (.pair (.name 0) (.name 1)) (.tup (.cons (.slHi (.var 0) (.neg (.int 1))) (.cons (.bin .add (.slLo (.var 1) (.neg (.int 1))) (.slHi (.var 1) (.neg (.int 1)))) .nil))))
    .nil))
    (.cons (.ret (.fl (.disp (.cons (.var 0) (.cons (.var 1) .nil)))))
    .nil))))⟩
def d80 : Df := ⟨mkD (Str.ofString "_law_shortest") 104, [(Str.ofString "before"), (Str.ofString "again"), (Str.ofString "size"), (Str.ofString "p")], [(Str.ofString "before"), (Str.ofString "again")], f80⟩
/-- _law_less -/
def f81 : F := ⟨2, 2, (.cons (.ret (.call 13 (.cons (.bin .sub (.bin .mul (.idx (.var 0) (.int 0)) (.idx (.var 1) (.int 1))) (.bin .mul (.idx (.var 1) (.int 0)) (.idx (.var 0) (.int 1)))) (.cons (.bin .mul (.idx (.var 0) (.int 1)) (.idx (.var 1) (.int 1))) .nil))))
    .nil)⟩
def d81 : Df := ⟨mkD (Str.ofString "_law_less") 91, [(Str.ofString "one"), (Str.ofString "other")], [(Str.ofString "one"), (Str.ofString "other")], f81⟩
/-- _law_raised -/
def f82 : F := ⟨2, 4, (.cons (.asg (.name 2) (.tup (.cons (.int 1) (.cons (.int 1) .nil))))
    (.cons (.for_ (.name 3) (.rng (.var 1))
      (.cons (.asg (.name 2) (.call 33 (.cons (.var 2) (.cons (.var 0) .nil))))
    .nil))
    (.cons (.ret (.var 2))
    .nil)))⟩
def d82 : Df := ⟨mkD (Str.ofString "_law_raised") 105, [(Str.ofString "factor"), (Str.ofString "exponent"), (Str.ofString "found"), (Str.ofString "k")], [(Str.ofString "factor"), (Str.ofString "exponent")], f82⟩
/-- _law_add -/
def f83 : F := ⟨2, 2, (.cons (.ret (.call 13 (.cons (.bin .add (.bin .mul (.idx (.var 0) (.int 0)) (.idx (.var 1) (.int 1))) (.bin .mul (.idx (.var 1) (.int 0)) (.idx (.var 0) (.int 1)))) (.cons (.bin .mul (.idx (.var 0) (.int 1)) (.idx (.var 1) (.int 1))) .nil))))
    .nil)⟩
def d83 : Df := ⟨mkD (Str.ofString "_law_add") 90, [(Str.ofString "one"), (Str.ofString "other")], [(Str.ofString "one"), (Str.ofString "other")], f83⟩
/-- _law_div -/
def f84 : F := ⟨2, 2, (.cons (.ret (.call 13 (.cons (.bin .mul (.idx (.var 0) (.int 0)) (.idx (.var 1) (.int 1))) (.cons (.bin .mul (.idx (.var 0) (.int 1)) (.idx (.var 1) (.int 0))) .nil))))
    .nil)⟩
def d84 : Df := ⟨mkD (Str.ofString "_law_div") 93, [(Str.ofString "one"), (Str.ofString "other")], [(Str.ofString "one"), (Str.ofString "other")], f84⟩
/-- _law_worth -/
def f85 : F := ⟨5, 13, (.cons (.asg (.pair (.name 7) (.name 8)) (.call 79 (.cons (.var 1) (.cons (.var 2) (.cons (.var 3) .nil)))))
    (.cons (.asg (.pair (.name 9) (.name 10)) (.tup (.cons (.tup (.cons (.int 0) (.cons (.int 1) .nil))) (.cons (.tup (.cons (.int 1) (.cons (.int 1) .nil))) .nil))))
    (.cons (.for_ (.pair (.name 11) (.name 12)) (.e (.var 7))
      (.cons (.asg (.pair (.name 9) (.name 10)) (.tup (.cons (.call 83 (.cons (.var 9) (.cons (.call 33 (.cons (.var 10) (.cons (.tup (.cons (.idx (.idx (.var 0) (.var 11)) (.var 12)) (.cons (.int 1) .nil))) .nil))) .nil))) (.cons (.call 33 (.cons (.var 10) (.cons (.var 4) .nil))) .nil))))
    .nil))
    (.cons (.asg (.name 5) (.tup (.cons (.int 0) (.cons (.int 1) .nil))))
    (.cons (.for_ (.pair (.name 11) (.name 12)) (.e (.var 8))
      (.cons (.asg (.pair (.name 5) (.name 10)) (.tup (.cons (.call 83 (.cons (.var 5) (.cons (.call 33 (.cons (.var 10) (.cons (.tup (.cons (.idx (.idx (.var 0) (.var 11)) (.var 12)) (.cons (.int 1) .nil))) .nil))) .nil))) (.cons (.call 33 (.cons (.var 10) (.cons (.var 4) .nil))) .nil))))
    .nil))
    (.cons (.asg (.name 6) (.call 81 (.cons (.tup (.cons (.int 1) (.cons (.int 1) .nil))) (.cons (.call 82 (.cons (.var 4) (.cons (.bi .len (.cons (.var 8) .nil)) .nil))) .nil))))
    (.cons (.ret (.call 33 (.cons (.call 81 (.cons (.tup (.cons (.int 1) (.cons (.int 1) .nil))) (.cons (.var 4) .nil))) (.cons (.call 83 (.cons (.var 9) (.cons (.call 84 (.cons (.var 5) (.cons (.var 6) .nil))) .nil))) .nil))))
    .nil)))))))⟩
def d85 : Df := ⟨mkD (Str.ofString "_law_worth") 106, [(Str.ofString "table"), (Str.ofString "one"), (Str.ofString "other"), (Str.ofString "states"), (Str.ofString "factor"), (Str.ofString "part"), (Str.ofString "full"), (Str.ofString "before"), (Str.ofString "again"), (Str.ofString "total_v"), (Str.ofString "now"), (Str.ofString "a"), (Str.ofString "b")], [(Str.ofString "table"), (Str.ofString "one"), (Str.ofString "other"), (Str.ofString "states"), (Str.ofString "factor")], f85⟩
/-- is_machine -/
def f86 : F := ⟨3, 3, (.cons (.expr (.call 26 (.cons (.var 1) .nil)))
    (.cons (.ret (.call 40 (.cons (.var 0) (.cons (.var 1) (.cons (.var 2) .nil)))))
    .nil))⟩
def d86 : Df := ⟨mkD (Str.ofString "is_machine") 44, [(Str.ofString "game"), (Str.ofString "player"), (Str.ofString "value")], [(Str.ofString "game"), (Str.ofString "player"), (Str.ofString "value")], f86⟩
/-- play -/
def f87 : F := ⟨4, 7, (.cons (.expr (.call 55 (.cons (.var 0) (.cons (.var 1) (.cons (.var 2) .nil)))))
    (.cons (.if_ (.not_ (.call 19 (.cons (.var 3) (.cons (.int 0) (.cons (.glob 4) .nil)))))
      (.cons .never
    .nil)
      .nil)
    (.cons (.asg (.pair (.name 5) (.name 6)) (.tup (.cons (.nw (.disp .nil)) (.cons (.tup (.cons (.int 0) (.cons (.int 0) .nil))) .nil))))
    (.cons (.for_ (.name 4) (.rng (.var 3))
      (.cons (.expr (.app (.var 5) (.call 56 (.cons (.var 1) (.cons (.var 2) (.cons (.var 6) .nil))))))
    (.cons (.asg (.name 6) (.call 57 (.cons (.var 1) (.cons (.var 2) (.cons (.var 6) (.cons (.idx (.var 5) (.neg (.int 1))) .nil))))))
    .nil)))
    (.cons (.ret (.frz (.var 5)))
    .nil)))))⟩
def d87 : Df := ⟨mkD (Str.ofString "play") 51, [(Str.ofString "game"), (Str.ofString "one"), (Str.ofString "other"), (Str.ofString "rounds"), (Str.ofString "_"), (Str.ofString "found"), (Str.ofString "states")], [(Str.ofString "game"), (Str.ofString "one"), (Str.ofString "other"), (Str.ofString "rounds")], f87⟩
/-- _law_plays_right -/
def f88 : F := ⟨6, 15, (.cons (.asg (.name 6) (.call 1 (.cons (.var 0) (.cons (.int 30) .nil))))
    (.cons (.asg (.pair (.name 10) (.name 11)) (.call 79 (.cons (.var 3) (.cons (.var 4) (.cons (.tup (.cons (.int 0) (.cons (.int 0) .nil))) .nil)))))
    (.cons (.asg (.name 7) (.call 80 (.cons (.var 10) (.cons (.var 11) .nil))))
    (.cons (.if_ (.not_ (.call 18 (.cons (.fl (.disp (.cons (.call 87 (.cons (.var 2) (.cons (.var 3) (.cons (.var 4) (.cons (.var 6) .nil))))) (.cons (.call 74 (.cons (.var 2) (.cons (.var 3) (.cons (.var 4) .nil)))) .nil)))) (.cons (.fl (.disp (.cons (.idx (.call 78 (.cons (.var 3) (.cons (.var 4) (.cons (.var 6) (.cons (.tup (.cons (.int 0) (.cons (.int 0) .nil))) .nil))))) (.int 0)) (.cons (.tup (.cons (.idx (.var 7) (.int 0)) (.cons (.idx (.var 7) (.int 1)) .nil))) .nil)))) .nil))))
      (.cons (.ret (.bl false))
    .nil)
      .nil)
    (.cons (.asg (.name 8) (.bi .tuple (.cons (.fl (.comp (.call 85 (.cons (.var 12) (.cons (.var 3) (.cons (.var 4) (.cons (.tup (.cons (.int 0) (.cons (.int 0) .nil))) (.cons (.var 5) .nil)))))) [12] (.name 12) (.e (.var 1)) .nil)) .nil)))
    (.cons (.if_ (.not_ (.call 18 (.cons (.fl (.disp (.cons (.call 72 (.cons (.var 2) (.cons (.var 3) (.cons (.var 4) (.cons (.var 5) .nil))))) (.cons (.callK 72 (.cons (.var 5) (.cons (.var 4) (.cons (.var 3) (.cons (.var 2) .nil)))) [3, 2, 1, 0]) .nil)))) (.cons (.fl (.disp (.cons (.var 8) (.cons (.var 8) .nil)))) .nil))))
      (.cons (.ret (.bl false))
    .nil)
      .nil)
    (.cons (.asg (.name 9) (.bi .tuple (.cons (.fl (.comp (.call 13 (.cons (.bi .sum (.cons (.fl (.comp (.idx (.idx (.var 12) (.var 13)) (.var 14)) [13, 14] (.pair (.name 13) (.name 14)) (.e (.var 11)) .nil)) .nil)) (.cons (.bi .len (.cons (.var 11) .nil)) .nil))) [12] (.name 12) (.e (.var 1)) .nil)) .nil)))
    (.cons (.if_ (.not_ (.call 18 (.cons (.fl (.disp (.cons (.call 75 (.cons (.var 2) (.cons (.var 3) (.cons (.var 4) .nil)))) (.cons (.callK 75 (.cons (.var 4) (.cons (.var 3) (.cons (.var 2) .nil))) [2, 1, 0]) .nil)))) (.cons (.fl (.disp (.cons (.var 9) (.cons (.var 9) .nil)))) .nil))))
      (.cons (.ret (.bl false))
    .nil)
      .nil)
    (.cons (.ret (.call 18 (.cons (.fl (.disp (.cons (.call 86 (.cons (.var 2) (.cons (.int 0) (.cons (.var 3) .nil)))) (.cons (.call 86 (.cons (.var 2) (.cons (.int 1) (.cons (.var 4) .nil)))) (.cons (.call 86 (.cons (.var 2) (.cons (.int 0) (.cons (.fl (.list (.var 3))) .nil)))) (.cons (.callK 86 (.cons (.slHi (.var 3) (.int 0)) (.cons (.int 0) (.cons (.var 2) .nil))) [2, 1, 0]) .nil)))))) (.cons (.fl (.disp (.cons (.bl true) (.cons (.bl true) (.cons (.bl false) (.cons (.bl false) .nil)))))) .nil))))
    .nil)))))))))⟩
def d88 : Df := ⟨mkD (Str.ofString "_law_plays_right") 108, [(Str.ofString "box"), (Str.ofString "game"), (Str.ofString "made"), (Str.ofString "one"), (Str.ofString "other"), (Str.ofString "factor"), (Str.ofString "rounds"), (Str.ofString "due"), (Str.ofString "worths"), (Str.ofString "mean"), (Str.ofString "before"), (Str.ofString "again"), (Str.ofString "table"), (Str.ofString "a"), (Str.ofString "b")], [(Str.ofString "box"), (Str.ofString "game"), (Str.ofString "made"), (Str.ofString "one"), (Str.ofString "other"), (Str.ofString "factor")], f88⟩
/-- _law_step_right -/
def f89 : F := ⟨5, 16, (.cons (.asg (.name 5) .non)
    (.cons (.for_ (.name 6) (.rng (.bi .len (.cons (.var 2) .nil)))
      (.cons (.for_ (.name 7) (.rng (.bi .len (.cons (.var 3) .nil)))
      (.cons (.for_ (.name 8) (.e (.tup (.cons (.int 0) (.cons (.int 1) .nil))))
      (.cons (.asg (.name 9) (.call 85 (.cons (.idx (.var 0) (.var 8)) (.cons (.var 2) (.cons (.var 3) (.cons (.tup (.cons (.var 6) (.cons (.var 7) .nil))) (.cons (.var 4) .nil)))))))
    (.cons (.for_ (.name 10) (.rng (.idx (.fl (.disp (.cons (.bi .len (.cons (.idx (.var 0) (.int 0)) .nil)) (.cons (.bi .len (.cons (.idx (.idx (.var 0) (.int 0)) (.int 0)) .nil)) .nil)))) (.var 8)))
      (.cons (.asg (.pair (.name 14) (.name 15)) (.ite (.cmp .eq (.var 8) (.int 0)) (.tup (.cons (.var 10) (.cons (.idx (.idx (.var 3) (.var 7)) (.int 0)) .nil))) (.tup (.cons (.idx (.idx (.var 2) (.var 6)) (.int 0)) (.cons (.var 10) .nil)))))
    (.cons (.asg (.name 11) (.tup (.cons (.idx (.idx (.idx (.var 2) (.var 6)) (.int 1)) (.var 15)) (.cons (.idx (.idx (.idx (.var 3) (.var 7)) (.int 1)) (.var 14)) .nil))))
    (.cons (.asg (.name 12) (.call 85 (.cons (.idx (.var 0) (.var 8)) (.cons (.var 2) (.cons (.var 3) (.cons (.var 11) (.cons (.var 4) .nil)))))))
    (.cons (.asg (.name 13) (.call 83 (.cons (.call 33 (.cons (.call 81 (.cons (.tup (.cons (.int 1) (.cons (.int 1) .nil))) (.cons (.var 4) .nil))) (.cons (.tup (.cons (.idx (.idx (.idx (.var 0) (.var 8)) (.var 14)) (.var 15)) (.cons (.int 1) .nil))) .nil))) (.cons (.call 33 (.cons (.var 4) (.cons (.var 12) .nil))) .nil))))
    (.cons (.asg (.name 5) (.ite (.and_ (.cmp .isN (.var 5) .non) (.call 36 (.cons (.var 9) (.cons (.var 13) .nil)))) (.tup (.cons (.var 6) (.cons (.var 7) (.cons (.var 8) (.cons (.var 10) .nil))))) (.var 5)))
    .nil))))))
    .nil)))
    .nil))
    .nil))
    (.cons (.ret (.call 18 (.cons (.fl (.disp (.cons (.call 63 (.cons (.var 1) (.cons (.var 2) (.cons (.var 3) (.cons (.var 4) .nil))))) (.cons (.callK 63 (.cons (.var 4) (.cons (.var 3) (.cons (.var 2) (.cons (.var 1) .nil)))) [3, 2, 1, 0]) .nil)))) (.cons (.fl (.disp (.cons (.var 5) (.cons (.var 5) .nil)))) .nil))))
    .nil)))⟩
def d89 : Df := ⟨mkD (Str.ofString "_law_step_right") 109, [(Str.ofString "game"), (Str.ofString "made"), (Str.ofString "one"), (Str.ofString "other"), (Str.ofString "factor"), (Str.ofString "due"), (Str.ofString "i"), (Str.ofString "j"), (Str.ofString "player"), (Str.ofString "here"), (Str.ofString "choice"), (Str.ofString "states"), (Str.ofString "later"), (Str.ofString "there"), (Str.ofString "a"), (Str.ofString "b")], [(Str.ofString "game"), (Str.ofString "made"), (Str.ofString "one"), (Str.ofString "other"), (Str.ofString "factor")], f89⟩
/-- _law_answer_right -/
def f90 : F := ⟨6, 14, (.cons (.asg (.name 6) (.call 53 (.cons (.var 2) (.cons (.var 3) (.cons (.var 4) (.cons (.var 5) .nil))))))
    (.cons (.if_ (.or_ (.not_ (.isi (.var 6) .tuple)) (.or_ (.cmp .ne (.bi .len (.cons (.var 6) .nil)) (.int 2)) (.or_ (.cmp .notT (.call 86 (.cons (.var 2) (.cons (.var 3) (.cons (.idx (.var 6) (.int 1)) .nil)))) (.bl true)) (.cmp .ne (.bi .len (.cons (.idx (.var 6) (.int 1)) .nil)) (.bi .len (.cons (.var 4) .nil))))))
      (.cons (.ret (.bl false))
    .nil)
      .nil)
    (.cons (.if_ (.not_ (.call 18 (.cons (.callK 53 (.cons (.var 5) (.cons (.var 4) (.cons (.var 3) (.cons (.var 2) .nil)))) [3, 2, 1, 0]) (.cons (.var 6) .nil))))
      (.cons (.ret (.bl false))
    .nil)
      .nil)
    (.cons (.asg (.name 7) (.ite (.cmp .eq (.var 3) (.int 0)) (.tup (.cons (.idx (.var 6) (.int 1)) (.cons (.var 4) .nil))) (.tup (.cons (.var 4) (.cons (.idx (.var 6) (.int 1)) .nil)))))
    (.cons (.if_ (.cmp .ne (.call 85 (.cons (.idx (.var 1) (.var 3)) (.cons (.idx (.var 7) (.int 0)) (.cons (.idx (.var 7) (.int 1)) (.cons (.tup (.cons (.int 0) (.cons (.int 0) .nil))) (.cons (.var 5) .nil)))))) (.idx (.var 6) (.int 0)))
      (.cons (.ret (.bl false))
    .nil)
      .nil)
    (.cons (.asg (.pair (.name 10) (.name 11)) (.tup (.cons (.idx (.fl (.disp (.cons (.bi .len (.cons (.idx (.var 1) (.int 0)) .nil)) (.cons (.bi .len (.cons (.idx (.idx (.var 1) (.int 0)) (.int 0)) .nil)) .nil)))) (.var 3)) (.cons (.idx (.fl (.disp (.cons (.bi .len (.cons (.idx (.idx (.var 1) (.int 0)) (.int 0)) .nil)) (.cons (.bi .len (.cons (.idx (.var 1) (.int 0)) .nil)) .nil)))) (.var 3)) .nil))))
    (.cons (.asg (.name 8) (.bin .add (.fl (.comp (.tup (.cons (.tup (.cons (.var 12) (.cons (.bin .mul (.tup (.cons (.int 0) .nil)) (.var 11)) .nil))) .nil)) [12] (.name 12) (.rng (.var 10)) .nil)) (.fl (.comp (.call 15 (.cons (.var 0) (.cons (.var 10) (.cons (.var 11) .nil)))) [13] (.name 13) (.rng (.int 4)) .nil))))
    (.cons (.for_ (.name 9) (.e (.var 8))
      (.cons (.asg (.name 7) (.ite (.cmp .eq (.var 3) (.int 0)) (.tup (.cons (.var 9) (.cons (.var 4) .nil))) (.tup (.cons (.var 4) (.cons (.var 9) .nil)))))
    (.cons (.if_ (.call 36 (.cons (.idx (.var 6) (.int 0)) (.cons (.call 85 (.cons (.idx (.var 1) (.var 3)) (.cons (.idx (.var 7) (.int 0)) (.cons (.idx (.var 7) (.int 1)) (.cons (.tup (.cons (.int 0) (.cons (.int 0) .nil))) (.cons (.var 5) .nil)))))) .nil)))
      (.cons (.ret (.bl false))
    .nil)
      .nil)
    .nil)))
    (.cons (.ret (.bl true))
    .nil)))))))))⟩
def d90 : Df := ⟨mkD (Str.ofString "_law_answer_right") 110, [(Str.ofString "box"), (Str.ofString "game"), (Str.ofString "made"), (Str.ofString "player"), (Str.ofString "machine"), (Str.ofString "factor"), (Str.ofString "told"), (Str.ofString "pair"), (Str.ofString "some"), (Str.ofString "one"), (Str.ofString "own"), (Str.ofString "others"), (Str.ofString "k"), (Str.ofString "turn")], [(Str.ofString "box"), (Str.ofString "game"), (Str.ofString "made"), (Str.ofString "player"), (Str.ofString "machine"), (Str.ofString "factor")], f90⟩
/-- law -/
def f91 : F := ⟨1, 10, (.cons (.for_ (.name 1) (.rng (.bi .max2 (.cons (.int 2) (.cons (.bi .min2 (.cons (.int 4) (.cons (.bi .len (.cons (.var 0) .nil)) .nil))) .nil))))
      (.cons (.asg (.name 2) (.call 0 (.cons (.call 4 (.cons (.var 0) (.cons (.var 1) .nil))) .nil)))
    (.cons (.asg (.name 3) (.call 3 (.cons (.var 2) (.cons (.idx (.fl (.disp (.cons (.int 2) (.cons (.int 3) (.cons (.int 2) (.cons (.int 3) (.cons (.int 4) .nil))))))) (.call 1 (.cons (.var 2) (.cons (.int 5) .nil)))) .nil))))
    (.cons (.asg (.pair (.name 4) (.name 5)) (.tup (.cons (.call 11 (.cons (.var 3) .nil)) (.cons (.call 14 (.cons (.var 2) .nil)) .nil))))
    (.cons (.asg (.pair (.name 6) (.name 7)) (.tup (.cons (.bi .len (.cons (.idx (.var 3) (.int 0)) .nil)) (.cons (.bi .len (.cons (.idx (.idx (.var 3) (.int 0)) (.int 0)) .nil)) .nil))))
    (.cons (.asg (.pair (.name 8) (.name 9)) (.tup (.cons (.call 15 (.cons (.var 2) (.cons (.var 6) (.cons (.var 7) .nil)))) (.cons (.call 15 (.cons (.var 2) (.cons (.var 7) (.cons (.var 6) .nil)))) .nil))))
    (.cons (.if_ (.or_ (.not_ (.call 88 (.cons (.var 2) (.cons (.var 3) (.cons (.var 4) (.cons (.var 8) (.cons (.var 9) (.cons (.var 5) .nil)))))))) (.not_ (.call 89 (.cons (.var 3) (.cons (.var 4) (.cons (.var 8) (.cons (.var 9) (.cons (.var 5) .nil))))))))
      (.cons (.ret (.bl false))
    .nil)
      .nil)
    (.cons (.if_ (.or_ (.not_ (.call 90 (.cons (.var 2) (.cons (.var 3) (.cons (.var 4) (.cons (.int 0) (.cons (.var 9) (.cons (.var 5) .nil)))))))) (.not_ (.call 90 (.cons (.var 2) (.cons (.var 3) (.cons (.var 4) (.cons (.int 1) (.cons (.var 8) (.cons (.var 5) .nil)))))))))
      (.cons (.ret (.bl false))
    .nil)
      .nil)
    (.cons (.if_ (.not_ (.call 77 (.cons (.var 2) (.cons (.var 3) (.cons (.var 4) (.cons (.call 14 (.cons (.var 2) .nil)) .nil))))))
      (.cons (.ret (.bl false))
    .nil)
      .nil)
    .nil)))))))))
    (.cons (.ret (.bl true))
    .nil))⟩
def d91 : Df := ⟨mkD (Str.ofString "law") 113, [(Str.ofString "script"), (Str.ofString "k"), (Str.ofString "box"), (Str.ofString "game"), (Str.ofString "made"), (Str.ofString "factor"), (Str.ofString "rows"), (Str.ofString "columns"), (Str.ofString "one"), (Str.ofString "other")], [(Str.ofString "script")], f91⟩
def dfs : List Df := [d0, d1, d2, d3, d4, d5, d6, d7, d8, d9, d10, d11, d12, d13, d14, d15, d16, d17, d18, d19, d20, d21, d22, d23, d24, d25, d26, d27, d28, d29, d30, d31, d32, d33, d34, d35, d36, d37, d38, d39, d40, d41, d42, d43, d44, d45, d46, d47, d48, d49, d50, d51, d52, d53, d54, d55, d56, d57, d58, d59, d60, d61, d62, d63, d64, d65, d66, d67, d68, d69, d70, d71, d72, d73, d74, d75, d76, d77, d78, d79, d80, d81, d82, d83, d84, d85, d86, d87, d88, d89, d90, d91]
def fNames : List Str := [(Str.ofString "shape"), (Str.ofString "second"), (Str.ofString "first"), (Str.ofString "matrix"), (Str.ofString "worths")]
def gl : List D := [.int (5), .tup [.int (0), .int (1)], .int (6), .tup [.int (1), .int (1)], .int (100)]
def fNo (n : Nat) : Str := fieldName fNames n
def tab : Tab := ⟨[((Str.ofString "MOST_CHOICES"), 0), ((Str.ofString "ZERO"), 1), ((Str.ofString "MOST_STATES"), 2), ((Str.ofString "ONE"), 3), ((Str.ofString "MOST_ROUNDS"), 4)], [((Str.ofString "_law_take"), 1), ((Str.ofString "_law_table"), 2), ((Str.ofString "is_integer"), 6), ((Str.ofString "is_tuple_of"), 5), ((Str.ofString "is_matrix"), 7), ((Str.ofString "check_table"), 8), ((Str.ofString "_law_frozen"), 10), ((Str.ofString "_law_gcd"), 12), ((Str.ofString "_law_low"), 13), ((Str.ofString "pairs_of"), 16), ((Str.ofString "_law_same"), 18), ((Str.ofString "is_between"), 19), ((Str.ofString "transposed"), 21), ((Str.ofString "lowest"), 23), ((Str.ofString "check_player"), 26), ((Str.ofString "divide"), 24), ((Str.ofString "whole"), 25), ((Str.ofString "punishment"), 27), ((Str.ofString "compare"), 29), ((Str.ofString "is_less"), 30), ((Str.ofString "greatest"), 31), ((Str.ofString "least_factor"), 28), ((Str.ofString "check_pair"), 20), ((Str.ofString "grim_machine"), 34), ((Str.ofString "_law_below"), 36), ((Str.ofString "is_row"), 38), ((Str.ofString "is_state"), 39), ((Str.ofString "is_machine_of"), 40), ((Str.ofString "is_fraction"), 42), ((Str.ofString "is_probability"), 43), ((Str.ofString "add"), 46), ((Str.ofString "multiply"), 45), ((Str.ofString "folded"), 47), ((Str.ofString "subtract"), 48), ((Str.ofString "endless_sum"), 49), ((Str.ofString "worth_now"), 51), ((Str.ofString "worth_from"), 50), ((Str.ofString "better_choices"), 52), ((Str.ofString "check_factor"), 44), ((Str.ofString "check_machine"), 41), ((Str.ofString "best_answer"), 53), ((Str.ofString "_law_mul"), 33), ((Str.ofString "_law_greatest"), 37), ((Str.ofString "grim_factor"), 32), ((Str.ofString "grim"), 35), ((Str.ofString "states_behind"), 57), ((Str.ofString "choices_at"), 56), ((Str.ofString "payoff_at"), 59), ((Str.ofString "walk"), 58), ((Str.ofString "discounted_from"), 60), ((Str.ofString "changed"), 61), ((Str.ofString "gains_at"), 62), ((Str.ofString "check_machines"), 55), ((Str.ofString "total"), 65), ((Str.ofString "is_plan"), 66), ((Str.ofString "dot"), 68), ((Str.ofString "check_plan"), 67), ((Str.ofString "best_of"), 64), ((Str.ofString "against"), 70), ((Str.ofString "shortest"), 73), ((Str.ofString "cycle_of"), 74), ((Str.ofString "_law_held_right"), 54), ((Str.ofString "best_replies"), 71), ((Str.ofString "_law_single"), 76), ((Str.ofString "one_step_gain"), 63), ((Str.ofString "average_of"), 75), ((Str.ofString "discounted"), 72), ((Str.ofString "pure_equilibria"), 17), ((Str.ofString "_law_walk"), 78), ((Str.ofString "_law_add"), 83), ((Str.ofString "_law_div"), 84), ((Str.ofString "_law_less"), 81), ((Str.ofString "_law_raised"), 82), ((Str.ofString "_law_cycle"), 79), ((Str.ofString "is_machine"), 86), ((Str.ofString "_law_worth"), 85), ((Str.ofString "play"), 87), ((Str.ofString "_law_shortest"), 80), ((Str.ofString "_law_machine"), 15), ((Str.ofString "_law_single_right"), 77), ((Str.ofString "_law_factor"), 14), ((Str.ofString "_law_answer_right"), 90), ((Str.ofString "_law_step_right"), 89), ((Str.ofString "_law_plays_right"), 88), ((Str.ofString "_law_make"), 11), ((Str.ofString "_law_game"), 3), ((Str.ofString "_law_box"), 0), ((Str.ofString "_law_cell"), 4), ((Str.ofString "law"), 91)], [((Str.ofString "grim_factor"), 32, [(Str.ofString "pair"), (Str.ofString "game")], [1, 0]), ((Str.ofString "grim"), 35, [(Str.ofString "pair"), (Str.ofString "game")], [1, 0]), ((Str.ofString "punishment"), 27, [(Str.ofString "player"), (Str.ofString "game")], [1, 0]), ((Str.ofString "is_machine"), 86, [(Str.ofString "value"), (Str.ofString "player"), (Str.ofString "game")], [2, 1, 0]), ((Str.ofString "average_of"), 75, [(Str.ofString "other"), (Str.ofString "one"), (Str.ofString "game")], [2, 1, 0]), ((Str.ofString "discounted"), 72, [(Str.ofString "factor"), (Str.ofString "other"), (Str.ofString "one"), (Str.ofString "game")], [3, 2, 1, 0]), ((Str.ofString "one_step_gain"), 63, [(Str.ofString "factor"), (Str.ofString "other"), (Str.ofString "one"), (Str.ofString "game")], [3, 2, 1, 0]), ((Str.ofString "best_answer"), 53, [(Str.ofString "factor"), (Str.ofString "machine"), (Str.ofString "player"), (Str.ofString "game")], [3, 2, 1, 0])], [((Str.ofString "Game"), 0, 9)], [(0, 3, 22), (0, 4, 69)], [(0, 0), (0, 1), (0, 2)], fNo, [(Str.ofString "int"), (Str.ofString "abs"), (Str.ofString "range"), (Str.ofString "max"), (Str.ofString "min"), (Str.ofString "list"), (Str.ofString "len"), (Str.ofString "sum"), (Str.ofString "isinstance"), (Str.ofString "tuple"), (Str.ofString "bool"), (Str.ofString "all"), (Str.ofString "str"), (Str.ofString "enumerate"), (Str.ofString "zip")], true⟩
def fs : List F := dfs.map (·.f)
theorem chk : (dfs.all fun x => x.ok tab) = true := by decide +kernel
end K87
end
section
set_option Elab.async false
set_option linter.all false
set_option maxRecDepth 100000
set_option maxHeartbeats 0
namespace K87
open PySem EV
def cn (n : Nat) : Str := match n with | 0 => (Str.ofString "Game") | _ => Str.empty
def gs : List (Str × Gc) := [((Str.ofString "MOST_CHOICES"), .int (5)), ((Str.ofString "ZERO"), .tup [(0), (1)]), ((Str.ofString "MOST_STATES"), .int (6)), ((Str.ofString "ONE"), .tup [(1), (1)]), ((Str.ofString "MOST_ROUNDS"), .int (100))]
def fa : List He.Fa := faOf tab cn gs
def fn : List He.DefD := dfs.map (·.d)
abbrev Rw : PySem.W.OpenRow := PySem.W.OpenLaw.row PySem.Challenge.rw_strategybench_k87_whole_repeated_games_a
abbrev hk : PySem.W.Hook := hookW 4 fa fn (exOf tab gs)
def ob (s : PySem.W.SharedT) : AlW := obsW 4 fa fn (exOf tab gs) (HandSHeadRun.getT s)
theorem ob_eq (s : PySem.W.SharedT) : ob s = hk.obs s.abs := obsW_eq (HandSHeadRun.getT_eq s)
def names0 : List Str := [(Str.ofString "__name__"), (Str.ofString "GameError"), (Str.ofString "DividedByZero"), (Str.ofString "InvalidFactor"), (Str.ofString "InvalidMachine"), (Str.ofString "InvalidPair"), (Str.ofString "InvalidPlan"), (Str.ofString "InvalidPlayer"), (Str.ofString "InvalidRounds"), (Str.ofString "InvalidTable"), (Str.ofString "is_integer"), (Str.ofString "is_between"), (Str.ofString "is_tuple_of"), (Str.ofString "is_row"), (Str.ofString "ZERO"), (Str.ofString "ONE"), (Str.ofString "is_fraction"), (Str.ofString "lowest"), (Str.ofString "whole"), (Str.ofString "add"), (Str.ofString "subtract"), (Str.ofString "multiply"), (Str.ofString "divide"), (Str.ofString "compare"), (Str.ofString "is_less"), (Str.ofString "total"), (Str.ofString "dot"), (Str.ofString "greatest"), (Str.ofString "is_probability"), (Str.ofString "is_plan"), (Str.ofString "check_plan"), (Str.ofString "check_player"), (Str.ofString "is_matrix"), (Str.ofString "check_table"), (Str.ofString "transposed"), (Str.ofString "MOST_STATES"), (Str.ofString "MOST_ROUNDS"), (Str.ofString "is_state"), (Str.ofString "is_machine_of"), (Str.ofString "is_machine")]
def names1 : List Str := [(Str.ofString "check_machine"), (Str.ofString "check_machines"), (Str.ofString "check_factor"), (Str.ofString "choices_at"), (Str.ofString "states_behind"), (Str.ofString "walk"), (Str.ofString "play"), (Str.ofString "shortest"), (Str.ofString "cycle_of"), (Str.ofString "payoff_at"), (Str.ofString "folded"), (Str.ofString "endless_sum"), (Str.ofString "discounted_from"), (Str.ofString "discounted"), (Str.ofString "average_of"), (Str.ofString "worth_from"), (Str.ofString "worth_now"), (Str.ofString "better_choices"), (Str.ofString "best_answer"), (Str.ofString "changed"), (Str.ofString "gains_at"), (Str.ofString "one_step_gain"), (Str.ofString "punishment"), (Str.ofString "check_pair"), (Str.ofString "grim_machine"), (Str.ofString "grim"), (Str.ofString "least_factor"), (Str.ofString "grim_factor"), (Str.ofString "MOST_CHOICES"), (Str.ofString "Game"), (Str.ofString "against"), (Str.ofString "best_of"), (Str.ofString "best_replies"), (Str.ofString "pairs_of"), (Str.ofString "pure_equilibria"), (Str.ofString "_law_cell"), (Str.ofString "_law_box"), (Str.ofString "_law_take"), (Str.ofString "_law_same"), (Str.ofString "_law_gcd")]
def names2 : List Str := [(Str.ofString "_law_low"), (Str.ofString "_law_add"), (Str.ofString "_law_less"), (Str.ofString "_law_mul"), (Str.ofString "_law_div"), (Str.ofString "_law_below"), (Str.ofString "_law_table"), (Str.ofString "_law_game"), (Str.ofString "_law_frozen"), (Str.ofString "_law_make"), (Str.ofString "_law_greatest"), (Str.ofString "_law_single"), (Str.ofString "_law_machine"), (Str.ofString "_law_walk"), (Str.ofString "_law_cycle"), (Str.ofString "_law_shortest"), (Str.ofString "_law_raised"), (Str.ofString "_law_worth"), (Str.ofString "_law_factor"), (Str.ofString "_law_plays_right"), (Str.ofString "_law_step_right"), (Str.ofString "_law_answer_right"), (Str.ofString "_law_single_right"), (Str.ofString "_law_held_right")]
def names : List Str := names0 ++ names1 ++ names2
abbrev vw : Program := PySem.W.view Rw.prog [0, 113]
theorem run1 (w : World) : (HandSHeadRun.wholeF (fun p => HandSHeadRun.stepQ (HandSHeadRun.denQ HandSHeadRun.tabQ) p w) HandSHeadRun.fenceQ 7000 Rw.prog).map (fun x => HandSHeadRun.looksF Rw.prog x.1.heap x.2.abs) = some true := by kernel_rfl
theorem run2 (w : World) : (HandSHeadRun.wholeF (fun p => HandSHeadRun.stepQ (HandSHeadRun.denQ HandSHeadRun.tabQ) p w) HandSHeadRun.fenceQ 7000 Rw.prog).map (fun x => HandSHeadRun.seenQ vw names (importedModules Rw.prog.main.body) (fun s => PySem.W.xlAt vw [] s && PySem.W.recOk Rw.toRowW.records s) x.2.abs) = some (PySem.W.openGood vw names) := by kernel_rfl
theorem run3 (w : World) : (HandSHeadRun.wholeF (fun p => HandSHeadRun.stepQ (HandSHeadRun.denQ HandSHeadRun.tabQ) p w) HandSHeadRun.fenceQ 7000 Rw.prog).map (fun x => ob x.2) = some (hk.val w) := by kernel_rfl
theorem run (w : World) : HandSHeadRun.RunEqI Rw vw hk ob 7000 names w := opt3 (run1 w) (run2 w) (run3 w)
theorem bn0 : d0.bnd := fun _ _ _ _ _ _ us hl => match us, hl with | [_], _ => rfl
theorem bn1 : d1.bnd := fun _ _ _ _ _ _ us hl => match us, hl with | [_, _], _ => rfl
theorem bn2 : d2.bnd := fun _ _ _ _ _ _ us hl => match us, hl with | [_, _, _, _], _ => rfl
theorem bn3 : d3.bnd := fun _ _ _ _ _ _ us hl => match us, hl with | [_, _], _ => rfl
theorem bn4 : d4.bnd := fun _ _ _ _ _ _ us hl => match us, hl with | [_, _], _ => rfl
theorem bn5 : d5.bnd := fun _ _ _ _ _ _ us hl => match us, hl with | [_, _], _ => rfl
theorem bn6 : d6.bnd := fun _ _ _ _ _ _ us hl => match us, hl with | [_], _ => rfl
theorem bn7 : d7.bnd := fun _ _ _ _ _ _ us hl => match us, hl with | [_, _], _ => rfl
theorem bn8 : d8.bnd := fun _ _ _ _ _ _ us hl => match us, hl with | [_, _], _ => rfl
theorem bn9 : d9.bnd := fun _ _ _ _ _ _ us hl => match us, hl with | [_, _, _], _ => rfl
theorem bn10 : d10.bnd := fun _ _ _ _ _ _ us hl => match us, hl with | [_], _ => rfl
theorem bn11 : d11.bnd := fun _ _ _ _ _ _ us hl => match us, hl with | [_], _ => rfl
theorem bn12 : d12.bnd := fun _ _ _ _ _ _ us hl => match us, hl with | [_, _], _ => rfl
theorem bn13 : d13.bnd := fun _ _ _ _ _ _ us hl => match us, hl with | [_, _], _ => rfl
theorem bn14 : d14.bnd := fun _ _ _ _ _ _ us hl => match us, hl with | [_], _ => rfl
theorem bn15 : d15.bnd := fun _ _ _ _ _ _ us hl => match us, hl with | [_, _, _], _ => rfl
theorem bn16 : d16.bnd := fun _ _ _ _ _ _ us hl => match us, hl with | [_], _ => rfl
theorem bn17 : d17.bnd := fun _ _ _ _ _ _ us hl => match us, hl with | [_], _ => rfl
theorem bn18 : d18.bnd := fun _ _ _ _ _ _ us hl => match us, hl with | [_, _], _ => rfl
theorem bn19 : d19.bnd := fun _ _ _ _ _ _ us hl => match us, hl with | [_, _, _], _ => rfl
theorem bn20 : d20.bnd := fun _ _ _ _ _ _ us hl => match us, hl with | [_, _], _ => rfl
theorem bn21 : d21.bnd := fun _ _ _ _ _ _ us hl => match us, hl with | [_], _ => rfl
theorem bn22 : d22.bnd := fun _ _ _ _ _ _ us hl => match us, hl with | [_, _], _ => rfl
theorem bn23 : d23.bnd := fun _ _ _ _ _ _ us hl => match us, hl with | [_, _], _ => rfl
theorem bn24 : d24.bnd := fun _ _ _ _ _ _ us hl => match us, hl with | [_, _], _ => rfl
theorem bn25 : d25.bnd := fun _ _ _ _ _ _ us hl => match us, hl with | [_], _ => rfl
theorem bn26 : d26.bnd := fun _ _ _ _ _ _ us hl => match us, hl with | [_], _ => rfl
theorem bn27 : d27.bnd := fun _ _ _ _ _ _ us hl => match us, hl with | [_, _], _ => rfl
theorem bn28 : d28.bnd := fun _ _ _ _ _ _ us hl => match us, hl with | [_, _, _], _ => rfl
theorem bn29 : d29.bnd := fun _ _ _ _ _ _ us hl => match us, hl with | [_, _], _ => rfl
theorem bn30 : d30.bnd := fun _ _ _ _ _ _ us hl => match us, hl with | [_, _], _ => rfl
theorem bn31 : d31.bnd := fun _ _ _ _ _ _ us hl => match us, hl with | [_], _ => rfl
theorem bn32 : d32.bnd := fun _ _ _ _ _ _ us hl => match us, hl with | [_, _], _ => rfl
theorem bn33 : d33.bnd := fun _ _ _ _ _ _ us hl => match us, hl with | [_, _], _ => rfl
theorem bn34 : d34.bnd := fun _ _ _ _ _ _ us hl => match us, hl with | [_, _, _], _ => rfl
theorem bn35 : d35.bnd := fun _ _ _ _ _ _ us hl => match us, hl with | [_, _], _ => rfl
theorem bn36 : d36.bnd := fun _ _ _ _ _ _ us hl => match us, hl with | [_, _], _ => rfl
theorem bn37 : d37.bnd := fun _ _ _ _ _ _ us hl => match us, hl with | [_], _ => rfl
theorem bn38 : d38.bnd := fun _ _ _ _ _ _ us hl => match us, hl with | [_, _, _, _], _ => rfl
theorem bn39 : d39.bnd := fun _ _ _ _ _ _ us hl => match us, hl with | [_, _, _, _], _ => rfl
theorem bn40 : d40.bnd := fun _ _ _ _ _ _ us hl => match us, hl with | [_, _, _], _ => rfl
theorem bn41 : d41.bnd := fun _ _ _ _ _ _ us hl => match us, hl with | [_, _, _], _ => rfl
theorem bn42 : d42.bnd := fun _ _ _ _ _ _ us hl => match us, hl with | [_], _ => rfl
theorem bn43 : d43.bnd := fun _ _ _ _ _ _ us hl => match us, hl with | [_], _ => rfl
theorem bn44 : d44.bnd := fun _ _ _ _ _ _ us hl => match us, hl with | [_], _ => rfl
theorem bn45 : d45.bnd := fun _ _ _ _ _ _ us hl => match us, hl with | [_, _], _ => rfl
theorem bn46 : d46.bnd := fun _ _ _ _ _ _ us hl => match us, hl with | [_, _], _ => rfl
theorem bn47 : d47.bnd := fun _ _ _ _ _ _ us hl => match us, hl with | [_, _, _], _ => rfl
theorem bn48 : d48.bnd := fun _ _ _ _ _ _ us hl => match us, hl with | [_, _], _ => rfl
theorem bn49 : d49.bnd := fun _ _ _ _ _ _ us hl => match us, hl with | [_, _, _], _ => rfl
theorem bn50 : d50.bnd := fun _ _ _ _ _ _ us hl => match us, hl with | [_, _, _, _, _], _ => rfl
theorem bn51 : d51.bnd := fun _ _ _ _ _ _ us hl => match us, hl with | [_, _, _], _ => rfl
theorem bn52 : d52.bnd := fun _ _ _ _ _ _ us hl => match us, hl with | [_, _, _, _], _ => rfl
theorem bn53 : d53.bnd := fun _ _ _ _ _ _ us hl => match us, hl with | [_, _, _, _], _ => rfl
theorem bn54 : d54.bnd := fun _ _ _ _ _ _ us hl => match us, hl with | [_, _, _, _, _], _ => rfl
theorem bn55 : d55.bnd := fun _ _ _ _ _ _ us hl => match us, hl with | [_, _, _], _ => rfl
theorem bn56 : d56.bnd := fun _ _ _ _ _ _ us hl => match us, hl with | [_, _, _], _ => rfl
theorem bn57 : d57.bnd := fun _ _ _ _ _ _ us hl => match us, hl with | [_, _, _, _], _ => rfl
theorem bn58 : d58.bnd := fun _ _ _ _ _ _ us hl => match us, hl with | [_, _, _], _ => rfl
theorem bn59 : d59.bnd := fun _ _ _ _ _ _ us hl => match us, hl with | [_, _, _], _ => rfl
theorem bn60 : d60.bnd := fun _ _ _ _ _ _ us hl => match us, hl with | [_, _, _, _, _, _], _ => rfl
theorem bn61 : d61.bnd := fun _ _ _ _ _ _ us hl => match us, hl with | [_, _, _], _ => rfl
theorem bn62 : d62.bnd := fun _ _ _ _ _ _ us hl => match us, hl with | [_, _, _, _, _], _ => rfl
theorem bn63 : d63.bnd := fun _ _ _ _ _ _ us hl => match us, hl with | [_, _, _, _], _ => rfl
theorem bn64 : d64.bnd := fun _ _ _ _ _ _ us hl => match us, hl with | [_], _ => rfl
theorem bn65 : d65.bnd := fun _ _ _ _ _ _ us hl => match us, hl with | [_], _ => rfl
theorem bn66 : d66.bnd := fun _ _ _ _ _ _ us hl => match us, hl with | [_, _], _ => rfl
theorem bn67 : d67.bnd := fun _ _ _ _ _ _ us hl => match us, hl with | [_, _], _ => rfl
theorem bn68 : d68.bnd := fun _ _ _ _ _ _ us hl => match us, hl with | [_, _], _ => rfl
theorem bn69 : d69.bnd := fun _ _ _ _ _ _ us hl => match us, hl with | [_, _, _], _ => rfl
theorem bn70 : d70.bnd := fun _ _ _ _ _ _ us hl => match us, hl with | [_, _, _], _ => rfl
theorem bn71 : d71.bnd := fun _ _ _ _ _ _ us hl => match us, hl with | [_, _, _], _ => rfl
theorem bn72 : d72.bnd := fun _ _ _ _ _ _ us hl => match us, hl with | [_, _, _, _], _ => rfl
theorem bn73 : d73.bnd := fun _ _ _ _ _ _ us hl => match us, hl with | [_, _], _ => rfl
theorem bn74 : d74.bnd := fun _ _ _ _ _ _ us hl => match us, hl with | [_, _, _], _ => rfl
theorem bn75 : d75.bnd := fun _ _ _ _ _ _ us hl => match us, hl with | [_, _, _], _ => rfl
theorem bn76 : d76.bnd := fun _ _ _ _ _ _ us hl => match us, hl with | [_, _], _ => rfl
theorem bn77 : d77.bnd := fun _ _ _ _ _ _ us hl => match us, hl with | [_, _, _, _], _ => rfl
theorem bn78 : d78.bnd := fun _ _ _ _ _ _ us hl => match us, hl with | [_, _, _, _], _ => rfl
theorem bn79 : d79.bnd := fun _ _ _ _ _ _ us hl => match us, hl with | [_, _, _], _ => rfl
theorem bn80 : d80.bnd := fun _ _ _ _ _ _ us hl => match us, hl with | [_, _], _ => rfl
theorem bn81 : d81.bnd := fun _ _ _ _ _ _ us hl => match us, hl with | [_, _], _ => rfl
theorem bn82 : d82.bnd := fun _ _ _ _ _ _ us hl => match us, hl with | [_, _], _ => rfl
theorem bn83 : d83.bnd := fun _ _ _ _ _ _ us hl => match us, hl with | [_, _], _ => rfl
theorem bn84 : d84.bnd := fun _ _ _ _ _ _ us hl => match us, hl with | [_, _], _ => rfl
theorem bn85 : d85.bnd := fun _ _ _ _ _ _ us hl => match us, hl with | [_, _, _, _, _], _ => rfl
theorem bn86 : d86.bnd := fun _ _ _ _ _ _ us hl => match us, hl with | [_, _, _], _ => rfl
theorem bn87 : d87.bnd := fun _ _ _ _ _ _ us hl => match us, hl with | [_, _, _, _], _ => rfl
theorem bn88 : d88.bnd := fun _ _ _ _ _ _ us hl => match us, hl with | [_, _, _, _, _, _], _ => rfl
theorem bn89 : d89.bnd := fun _ _ _ _ _ _ us hl => match us, hl with | [_, _, _, _, _], _ => rfl
theorem bn90 : d90.bnd := fun _ _ _ _ _ _ us hl => match us, hl with | [_, _, _, _, _, _], _ => rfl
theorem bn91 : d91.bnd := fun _ _ _ _ _ _ us hl => match us, hl with | [_], _ => rfl
theorem bnds : Bnds dfs := ⟨bn0, bn1, bn2, bn3, bn4, bn5, bn6, bn7, bn8, bn9, bn10, bn11, bn12, bn13, bn14, bn15, bn16, bn17, bn18, bn19, bn20, bn21, bn22, bn23, bn24, bn25, bn26, bn27, bn28, bn29, bn30, bn31, bn32, bn33, bn34, bn35, bn36, bn37, bn38, bn39, bn40, bn41, bn42, bn43, bn44, bn45, bn46, bn47, bn48, bn49, bn50, bn51, bn52, bn53, bn54, bn55, bn56, bn57, bn58, bn59, bn60, bn61, bn62, bn63, bn64, bn65, bn66, bn67, bn68, bn69, bn70, bn71, bn72, bn73, bn74, bn75, bn76, bn77, bn78, bn79, bn80, bn81, bn82, bn83, bn84, bn85, bn86, bn87, bn88, bn89, bn90, bn91, trivial⟩
theorem kb0 : d32.kbnd [(Str.ofString "pair"), (Str.ofString "game")] [1, 0] := fun _ _ _ _ _ _ ws hl => match ws, hl with | [_, _], _ => rfl
theorem kb1 : d35.kbnd [(Str.ofString "pair"), (Str.ofString "game")] [1, 0] := fun _ _ _ _ _ _ ws hl => match ws, hl with | [_, _], _ => rfl
theorem kb2 : d27.kbnd [(Str.ofString "player"), (Str.ofString "game")] [1, 0] := fun _ _ _ _ _ _ ws hl => match ws, hl with | [_, _], _ => rfl
theorem kb3 : d86.kbnd [(Str.ofString "value"), (Str.ofString "player"), (Str.ofString "game")] [2, 1, 0] := fun _ _ _ _ _ _ ws hl => match ws, hl with | [_, _, _], _ => rfl
theorem kb4 : d75.kbnd [(Str.ofString "other"), (Str.ofString "one"), (Str.ofString "game")] [2, 1, 0] := fun _ _ _ _ _ _ ws hl => match ws, hl with | [_, _, _], _ => rfl
theorem kb5 : d72.kbnd [(Str.ofString "factor"), (Str.ofString "other"), (Str.ofString "one"), (Str.ofString "game")] [3, 2, 1, 0] := fun _ _ _ _ _ _ ws hl => match ws, hl with | [_, _, _, _], _ => rfl
theorem kb6 : d63.kbnd [(Str.ofString "factor"), (Str.ofString "other"), (Str.ofString "one"), (Str.ofString "game")] [3, 2, 1, 0] := fun _ _ _ _ _ _ ws hl => match ws, hl with | [_, _, _, _], _ => rfl
theorem kb7 : d53.kbnd [(Str.ofString "factor"), (Str.ofString "machine"), (Str.ofString "player"), (Str.ofString "game")] [3, 2, 1, 0] := fun _ _ _ _ _ _ ws hl => match ws, hl with | [_, _, _, _], _ => rfl
theorem kbnds : KBnds dfs tab.kws := ⟨fun _ e => by cases e; exact kb0, fun _ e => by cases e; exact kb1, fun _ e => by cases e; exact kb2, fun _ e => by cases e; exact kb3, fun _ e => by cases e; exact kb4, fun _ e => by cases e; exact kb5, fun _ e => by cases e; exact kb6, fun _ e => by cases e; exact kb7, trivial⟩
theorem tabok : tabOk dfs tab cn gs = true := by decide +kernel
theorem glok : gs.map (fun p => p.2.d) = gl := rfl
theorem finj : ∀ m n, tab.fN m = tab.fN n → m = n := fieldName_inj (names := fNames) (by decide +kernel) (by decide +kernel)
def LawTrue (lv : Nat) : Prop := ∀ is : List Int, is.length ≤ 63 → ∃ S, callF fs gl lv 91 [.sl (is.map D.int)] [] = .ok (.bl true) S
theorem facts {lv : Nat} (hT : LawTrue lv) {w : World} {K : PySem.W.Frag} {h : Heap} {mg : Str → Option Value} {f : Addr} (X : K.In h) (G : h.Ns mainGlobals mg) (hfa : mg ("law" : Str) = some (.ref f)) (c : He.SaysD fa fn K) (ex : exOf tab gs K = true) :
    ∃ (fd : FuncData) (sp : L2.Sp), (∀ (s : Shared) (v : Value), BindsTo s fd ⟨[v], []⟩ [(Str.ofString "script", v)]) ∧
      (∀ (H : L2.Hp) (a : Addr) (ns : List Int), ns.length ≤ 63 → L2.SqL K H a (ns.map L2.V.int) → sp [.ref a] H (fun v _ => v = .bl true) fun _ _ _ => False) ∧
      ∀ base : Heap, K.In base → base.Ns mainGlobals mg → L2.FnOk PySem.Challenge.pw_strategybench_k87_whole_repeated_games_a w K mg base L2.CX0 (2 * lv) f fd [Str.ofString "script"] sp := by
  have W := wd_of (P := PySem.Challenge.pw_strategybench_k87_whole_repeated_games_a) (w := w) X G c ex chk tabok bnds kbnds finj
  have hgl : mg ("law" : Str) = some (.ref (He.ga K "law")) := by
    obtain ⟨df, e1, e2⟩ := W.fns (Str.ofString "law") 91 (by decide +kernel)
    cases e1
    exact e2
  have hd : dfs[91]? = some d91 := rfl
  obtain ⟨fd, hf⟩ := W.defs d91 (List.mem_of_getElem? hd)
  have e : f = He.ga K "law" := by
    have := hfa.symm.trans hgl
    cases this
    rfl
  subst e
  refine ⟨fd, fun vs H Q _ => spF K ⟨PySem.Challenge.pw_strategybench_k87_whole_repeated_games_a, w, fun c => He.ga K (cn c), tab.fN⟩ (callF (dfs.map (·.f)) (gs.map fun p => p.2.d) lv 91) vs H Q fun _ _ _ => False, fun s v => ?_, fun H a ns hl hS => ?_, fun base _ _ => ?_⟩
  · exact L2.FunD.bindsA (ps := [Str.ofString "script"]) hf bn91 s [v] rfl
  · exact law_ok (n := lv) (x := d91) (fun is hl => by rw [glok]; exact hT is hl) hl hS
  · exact fn_calm (all_ok (base := base) ⟨rfl, rfl⟩ W lv 91 d91 fd hd hf)
end K87
open PySem PySem.W PySem.Calls PyProof.Rows
theorem holds_of {lv : Nat} (hlv : L2.Room (2 * lv) callerA) (hT : K87.LawTrue lv) : PySem.Challenge.rw_strategybench_k87_whole_repeated_games_a.Holds := by
  w_on; o_law
  refine HandSHeadRun.head_imp (r := OpenLaw.row PySem.Challenge.rw_strategybench_k87_whole_repeated_games_a) (q := K87.vw) (H := K87.hk) (ob := K87.ob) (M := 7000) (loose := K87.names) (d := HandSHeadRun.topDef (OpenLaw.row PySem.Challenge.rw_strategybench_k87_whole_repeated_games_a).prog 113) (kwd := []) K87.ob_eq
    K87.run (by kernel_rfl) (by kernel_rfl) (by kernel_rfl) (by rfl) (by first | assumption | decide +kernel) (by decide +kernel) ⟨rfl, rfl, rfl, rfl, rfl, by decide +kernel⟩ ?hw ?hc
  case hw => w_witness2
  case hc =>
    refine L2.walk_ofE (l := PySem.Challenge.rw_strategybench_k87_whole_repeated_games_a) (n := 63) (k := 2 * lv) (x := Str.ofString "script") (CX := L2.CX0) rfl (by decide) (by kernel_rfl) hlv ?F (fun _ _ _ _ z => z)
    intro w mg fa h Y G hmg0
    obtain ⟨K, KX, c, ex⟩ := Y
    have hmg : mg ("law" : PySem.Str) = some (.ref fa) := by
      have e : (HandSHeadRun.topDef (OpenLaw.row PySem.Challenge.rw_strategybench_k87_whole_repeated_games_a).prog 113).name = ("law" : PySem.Str) := by kernel_rfl
      rw [← e]
      exact hmg0
    obtain ⟨fd, sp, hb, hsp, hF⟩ := K87.facts hT (w := w) KX G hmg c ex
    exact ⟨K, fd, sp, KX, hb, fun H a ns hl _ hS => hsp H a ns hl hS, hF⟩
end
section
set_option Elab.async false
set_option linter.all false
set_option maxRecDepth 100000
set_option maxHeartbeats 4000000
/-! k87, part b: defs that read trees alone. -/
namespace EV
/-- the def f gives r for the trees ds, in any store -/
def Ev (cf : Nat → List D → M D) (f : Nat) (ds : List D) (r : D) : Prop := ∀ S, callR (cf f) ds S = .ok r S
theorem refs_rf : ∀ {ds : List D}, D.rfs ds = true → refsOf ds = [] ∧ ∀ k, lent k ds = some ds
  | [], _ => ⟨rfl, fun _ => rfl⟩
  | d :: ds, h => by
    rw [D.rfs, Bool.and_eq_true] at h
    obtain ⟨h1, h2⟩ := refs_rf h.2
    have e1 : refsOf (d :: ds) = refsOf ds := by
      cases d with
      | ref n => rw [D.rf] at h; cases h.1
      | _ => rfl
    have e2 : ∀ k, lent k (d :: ds) = if d.rf then (lent k ds).map (d :: ·) else none := fun k => by
      cases d with
      | ref n => rw [D.rf] at h; cases h.1
      | _ => rfl
    exact ⟨by rw [e1, h1], fun k => by rw [e2, if_pos h.1, h2]; rfl⟩
/-- a call over trees -/
theorem callR_rf {cf : List D → M D} {ds : List D} {r : D} {q : Store} (h : D.rfs ds = true) (e : cf ds [] = .ok r q) (hr : r.rf = true) (S : Store) : callR cf ds S = .ok r S := by
  obtain ⟨h1, h2⟩ := refs_rf h
  unfold callR
  rw [h1]
  simp only [noDup, takeO, h2, if_true, e, putO]
  cases r with
  | ref n => rw [D.rf] at hr; cases hr
  | _ => simp only [hr, if_true]
theorem runF_eq {call : Nat → List D → M D} {gl : List D} {f : F} {ds : List D} {S : Store} (h : ds.length = f.ps) : runF call gl f ds S = match evalSs call gl f.body (start f.ns ds) S with
    | .ok (.rt d) S' => .ok d S'
    | .ok (.nx _) S' => .ok .non S'
    | .exc c ns vs _ S' => .exc c ns vs S'
    | _ => .bad := by
  unfold runF
  rw [if_pos h]
  all_goals rfl
end EV
namespace K87
open EV
abbrev cl (n : Nat) : Nat → List D → M D := callF fs gl n
theorem cl_run {n f : Nat} {g : F} {ds : List D} (h : fs[f]? = some g) : cl (n + 1) f ds = runF (cl n) gl g ds := by
  show callF fs gl (n + 1) f ds = _
  rw [callF, h]
def fr (r : Rat) : D := .tup [.int r.num, .int r.den]
theorem ev_whole (n : Nat) (i : Int) : Ev (cl (n + 1)) 25 [.int i] (fr i) := fun S => by
  refine callR_rf (q := []) rfl ?_ rfl S
  rw [cl_run (g := f25) rfl, runF_eq rfl]
  simp [f25, evalSs, evalS, evalE, evalEs, lift, MS.then, M.seq, M.ret, M.opt, start, gl, MS.ok, line, fr]
end K87
namespace K87
open EV
/-- the steps of a def, for simp -/
theorem seq_ok' {α β : Type} (m : M α) (k : α → M β) (S : Store) : M.seq m k S = match m S with
  | .ok a S' => k a S'
  | .exc c ns vs S' => .exc c ns vs S'
  | .bad => .bad := rfl
theorem divInt_lowest (n d : Int) (hd : 0 < d) : (Rat.divInt n d).num = n / (Nat.gcd n.natAbs d.natAbs : Nat) ∧ ((Rat.divInt n d).den : Int) = d / (Nat.gcd n.natAbs d.natAbs : Nat) := by
  have h1 := Rat.num_divInt n d
  have h2 := Rat.den_divInt n d
  have hg : d.gcd n = Nat.gcd n.natAbs d.natAbs := by rw [Int.gcd_comm]; rfl
  rw [h1, h2, hg, Int.sign_eq_one_of_pos hd, Int.one_mul, if_neg (by omega)]
  refine ⟨rfl, ?_⟩
  rw [Int.natCast_ediv]
  congr 1
  omega
theorem ev_lowest (n : Nat) (a d : Int) (hd : 0 < d) (hs : big d < 9000) : Ev (cl (n + 1)) 23 [.int a, .int d] (fr (Rat.divInt a d)) := fun S => by
  obtain ⟨h1, h2⟩ := divInt_lowest a d hd
  have hg : 0 < Nat.gcd a.natAbs d.natAbs := Nat.gcd_pos_of_pos_right _ (by omega)
  have hb : big (Nat.gcd a.natAbs d.natAbs : Nat) < 9000 := by
    have hle : Nat.gcd a.natAbs d.natAbs ≤ d.natAbs := Nat.gcd_le_right _ (by omega)
    unfold big at hs ⊢
    rw [Int.natAbs_natCast]
    refine Nat.lt_of_le_of_lt ?_ hs
    exact (Nat.le_log2 (by omega)).mpr (Nat.le_trans (Nat.log2_self_le (by omega)) hle)
  refine callR_rf (q := []) rfl ?_ (by rfl) S
  rw [cl_run (g := f23) rfl, runF_eq rfl]
  have hd' : ¬ d < 0 := by omega
  simp [f23, evalSs, evalS, evalE, evalEs, lift, MS.then, M.seq, M.ret, M.opt, start, gl, MS.ok, line, fr, bi, T.bind, cm, blOf, op2, hd', hb, hg, h1, h2]
end K87
namespace K87
open EV
/-- numerator and denominator below 2^k -/
def Bd (k : Nat) (r : Rat) : Prop := r.num.natAbs < 2 ^ k ∧ r.den < 2 ^ k
theorem big_lt {i : Int} {k : Nat} (h : i.natAbs < 2 ^ k) : big i ≤ k := by
  unfold big
  by_cases h0 : i.natAbs = 0
  · rw [h0]; exact Nat.zero_le _
  · exact Nat.le_of_lt ((Nat.log2_lt h0).mpr h)
theorem rat_add (x y : Rat) : Rat.divInt (x.num * y.den + y.num * x.den) (x.den * y.den) = x + y := by
  have hx : (x.den : Int) ≠ 0 := by have := x.den_pos; omega
  have hy : (y.den : Int) ≠ 0 := by have := y.den_pos; omega
  rw [← Rat.divInt_add_divInt _ _ hx hy, Rat.num_divInt_den, Rat.num_divInt_den]
theorem rat_mul (x y : Rat) : Rat.divInt (x.num * y.num) (x.den * y.den) = x * y := by
  have hx : (x.den : Int) ≠ 0 := by have := x.den_pos; omega
  have hy : (y.den : Int) ≠ 0 := by have := y.den_pos; omega
  rw [← Rat.divInt_mul_divInt, Rat.num_divInt_den, Rat.num_divInt_den]
theorem ev_add (n a b : Nat) (x y : Rat) (hx : Bd a x) (hy : Bd b y) (hab : a + b < 8900) : Ev (cl (n + 2)) 46 [fr x, fr y] (fr (x + y)) := fun S => by
  have px : (0 : Int) < x.den := by have := x.den_pos; omega
  have py : (0 : Int) < y.den := by have := y.den_pos; omega
  have hd : (0 : Int) < (x.den : Int) * y.den := Int.mul_pos px py
  have b1 := big_lt hx.1
  have b2 := big_lt hy.1
  have b3 : big (x.den : Int) ≤ a := big_lt (by simpa using hx.2)
  have b4 : big (y.den : Int) ≤ b := big_lt (by simpa using hy.2)
  have b5 : big ((x.den : Int) * y.den) ≤ a + b := big_lt (by
    rw [Int.natAbs_mul, Int.natAbs_natCast, Int.natAbs_natCast, Nat.pow_add]
    exact Nat.mul_lt_mul_of_lt_of_le hx.2 (Nat.le_of_lt hy.2) (Nat.two_pow_pos b))
  have c1 : big x.num + big (y.den : Int) < 1000000 := by omega
  have c2 : big y.num + big (x.den : Int) < 1000000 := by omega
  have c3 : big (x.den : Int) + big (y.den : Int) < 1000000 := by omega
  have e := ev_lowest n (x.num * y.den + y.num * x.den) (x.den * y.den) hd (by omega)
  rw [rat_add] at e
  refine callR_rf (q := []) rfl ?_ (by rfl) S
  rw [cl_run (g := f46) rfl, runF_eq rfl]
  have e' := e []
  simp only [cl] at e'
  simp [f46, evalSs, evalS, evalE, evalEs, lift, MS.then, M.seq, M.ret, M.opt, start, gl, MS.ok, line, fr, op2, getI, isDict, nth, ix, c1, c2, c3, e']
end K87
namespace K87
open EV
theorem ev_mul (n a b : Nat) (x y : Rat) (hx : Bd a x) (hy : Bd b y) (hab : a + b < 8900) : Ev (cl (n + 2)) 45 [fr x, fr y] (fr (x * y)) := fun S => by
  have px : (0 : Int) < x.den := by have := x.den_pos; omega
  have py : (0 : Int) < y.den := by have := y.den_pos; omega
  have hd : (0 : Int) < (x.den : Int) * y.den := Int.mul_pos px py
  have b1 := big_lt hx.1
  have b2 := big_lt hy.1
  have b3 : big (x.den : Int) ≤ a := big_lt (by simpa using hx.2)
  have b4 : big (y.den : Int) ≤ b := big_lt (by simpa using hy.2)
  have b5 : big ((x.den : Int) * y.den) ≤ a + b := big_lt (by
    rw [Int.natAbs_mul, Int.natAbs_natCast, Int.natAbs_natCast, Nat.pow_add]
    exact Nat.mul_lt_mul_of_lt_of_le hx.2 (Nat.le_of_lt hy.2) (Nat.two_pow_pos b))
  have c1 : big x.num + big y.num < 1000000 := by omega
  have c3 : big (x.den : Int) + big (y.den : Int) < 1000000 := by omega
  have e := ev_lowest n (x.num * y.num) (x.den * y.den) hd (by omega)
  rw [rat_mul] at e
  refine callR_rf (q := []) rfl ?_ (by rfl) S
  rw [cl_run (g := f45) rfl, runF_eq rfl]
  have e' := e []
  simp only [cl] at e'
  simp [f45, evalSs, evalS, evalE, evalEs, lift, MS.then, M.seq, M.ret, M.opt, start, gl, MS.ok, line, fr, op2, getI, isDict, nth, ix, c1, c3, e']
theorem rat_sub (x y : Rat) : Rat.divInt (x.num * y.den - y.num * x.den) (x.den * y.den) = x - y := by
  have hx : (x.den : Int) ≠ 0 := by have := x.den_pos; omega
  have hy : (y.den : Int) ≠ 0 := by have := y.den_pos; omega
  rw [← Rat.divInt_sub_divInt _ _ hx hy, Rat.num_divInt_den, Rat.num_divInt_den]
theorem ev_sub (n a b : Nat) (x y : Rat) (hx : Bd a x) (hy : Bd b y) (hab : a + b < 8900) : Ev (cl (n + 2)) 48 [fr x, fr y] (fr (x - y)) := fun S => by
  have px : (0 : Int) < x.den := by have := x.den_pos; omega
  have py : (0 : Int) < y.den := by have := y.den_pos; omega
  have hd : (0 : Int) < (x.den : Int) * y.den := Int.mul_pos px py
  have b1 := big_lt hx.1
  have b2 := big_lt hy.1
  have b3 : big (x.den : Int) ≤ a := big_lt (by simpa using hx.2)
  have b4 : big (y.den : Int) ≤ b := big_lt (by simpa using hy.2)
  have b5 : big ((x.den : Int) * y.den) ≤ a + b := big_lt (by
    rw [Int.natAbs_mul, Int.natAbs_natCast, Int.natAbs_natCast, Nat.pow_add]
    exact Nat.mul_lt_mul_of_lt_of_le hx.2 (Nat.le_of_lt hy.2) (Nat.two_pow_pos b))
  have c1 : big x.num + big (y.den : Int) < 1000000 := by omega
  have c2 : big y.num + big (x.den : Int) < 1000000 := by omega
  have c3 : big (x.den : Int) + big (y.den : Int) < 1000000 := by omega
  have e := ev_lowest n (x.num * y.den - y.num * x.den) (x.den * y.den) hd (by omega)
  rw [rat_sub] at e
  refine callR_rf (q := []) rfl ?_ (by rfl) S
  rw [cl_run (g := f48) rfl, runF_eq rfl]
  have e' := e []
  simp only [cl] at e'
  simp [f48, evalSs, evalS, evalE, evalEs, lift, MS.then, M.seq, M.ret, M.opt, start, gl, MS.ok, line, fr, op2, getI, isDict, nth, ix, c1, c2, c3, e']
end K87
namespace K87
open EV
/-- compare: -1, 0, 1 -/
theorem ev_is_less (n a b : Nat) (x y : Rat) (hx : Bd a x) (hy : Bd b y) (hab : a + b < 8900) : Ev (cl (n + 2)) 30 [fr x, fr y] (.bl (decide (x < y))) := fun S => by
  have b1 := big_lt hx.1
  have b2 := big_lt hy.1
  have b3 : big (x.den : Int) ≤ a := big_lt (by simpa using hx.2)
  have b4 : big (y.den : Int) ≤ b := big_lt (by simpa using hy.2)
  have c1 : big x.num + big (y.den : Int) < 1000000 := by omega
  have c2 : big y.num + big (x.den : Int) < 1000000 := by omega
  have hl : (x < y) ↔ x.num * (y.den : Int) < y.num * (x.den : Int) := Rat.lt_iff x y
  have cmp : Ev (cl (n + 1)) 29 [fr x, fr y] (.int ((if y.num * (x.den : Int) < x.num * (y.den : Int) then 1 else 0) - (if x.num * (y.den : Int) < y.num * (x.den : Int) then 1 else 0))) := fun S => by
    refine callR_rf (q := []) rfl ?_ (by rfl) S
    rw [cl_run (g := f29) rfl, runF_eq rfl]
    simp [f29, evalSs, evalS, evalE, evalEs, lift, MS.then, M.seq, M.ret, M.opt, start, gl, MS.ok, line, fr, op2, getI, isDict, nth, ix, c1, c2, T.bind, cm, bi, blOf]
  refine callR_rf (q := []) rfl ?_ (by rfl) S
  rw [cl_run (g := f30) rfl, runF_eq rfl]
  have e' := cmp []
  simp only [cl] at e'
  simp [f30, evalSs, evalS, evalE, evalEs, lift, MS.then, M.seq, M.ret, M.opt, start, gl, MS.ok, e', cm]
  simp only [hl]
  by_cases h1 : x.num * (y.den : Int) < y.num * (x.den : Int)
  · have h2 : ¬ y.num * (x.den : Int) < x.num * (y.den : Int) := by omega
    simp [h1, h2]
  · by_cases h2 : y.num * (x.den : Int) < x.num * (y.den : Int)
    · simp [h1, h2]
    · simp [h1, h2]
end K87
namespace K87
open EV
theorem bd_divInt {n d : Int} {k : Nat} (hd : 0 < d) (h1 : n.natAbs < 2 ^ k) (h2 : d.natAbs < 2 ^ k) : Bd k (Rat.divInt n d) := by
  obtain ⟨e1, e2⟩ := divInt_lowest n d hd
  refine ⟨?_, ?_⟩
  · rw [e1]
    refine Nat.lt_of_le_of_lt ?_ h1
    have hg : (((Nat.gcd n.natAbs d.natAbs : Nat) : Int)) ∣ n := by
      rw [← Int.dvd_natAbs]
      exact Int.natCast_dvd_natCast.mpr (Nat.gcd_dvd_left _ _)
    obtain ⟨c, hc⟩ := hg
    have hp : 0 < Nat.gcd n.natAbs d.natAbs := Nat.gcd_pos_of_pos_right _ (by omega)
    have : n / ((Nat.gcd n.natAbs d.natAbs : Nat) : Int) = c := by
      conv => lhs; lhs; rw [hc]
      exact Int.mul_ediv_cancel_left _ (by omega)
    rw [this]
    conv => rhs; rw [hc]
    rw [Int.natAbs_mul]
    exact Nat.le_mul_of_pos_left _ (by simpa using hp)
  · have : ((Rat.divInt n d).den : Int) ≤ d := by
      rw [e2]
      exact Int.ediv_le_self _ (by omega)
    omega
theorem Bd.mono {j k : Nat} {r : Rat} (h : Bd j r) (hjk : j ≤ k) : Bd k r :=
  have := Nat.pow_le_pow_right (n := 2) (by omega) hjk
  ⟨Nat.lt_of_lt_of_le h.1 this, Nat.lt_of_lt_of_le h.2 this⟩
theorem bd_den {a b : Nat} {x y : Rat} (hx : Bd a x) (hy : Bd b y) : (x.den * y.den : Nat) < 2 ^ (a + b) := by
  rw [Nat.pow_add]
  exact Nat.mul_lt_mul_of_lt_of_le hx.2 (Nat.le_of_lt hy.2) (Nat.two_pow_pos b)
theorem bd_mul {a b : Nat} {x y : Rat} (hx : Bd a x) (hy : Bd b y) : Bd (a + b) (x * y) := by
  rw [← rat_mul]
  have px := x.den_pos
  have py := y.den_pos
  refine bd_divInt (Int.mul_pos (by omega) (by omega)) ?_ (by rw [Int.natAbs_mul, Int.natAbs_natCast, Int.natAbs_natCast]; exact bd_den hx hy)
  rw [Int.natAbs_mul, Nat.pow_add]
  exact Nat.mul_lt_mul_of_lt_of_le hx.1 (Nat.le_of_lt hy.1) (Nat.two_pow_pos b)
theorem bd_cross {a b : Nat} {x y : Rat} (hx : Bd a x) (hy : Bd b y) : (x.num * (y.den : Int)).natAbs < 2 ^ (a + b) ∧ (y.num * (x.den : Int)).natAbs < 2 ^ (a + b) := by
  rw [Int.natAbs_mul, Int.natAbs_mul, Int.natAbs_natCast, Int.natAbs_natCast, Nat.pow_add]
  exact ⟨Nat.mul_lt_mul_of_lt_of_le hx.1 (Nat.le_of_lt hy.2) (Nat.two_pow_pos b), by rw [Nat.mul_comm]; exact Nat.mul_lt_mul_of_lt_of_le hx.2 (Nat.le_of_lt hy.1) (Nat.two_pow_pos b)⟩
theorem bd_add {a b : Nat} {x y : Rat} (hx : Bd a x) (hy : Bd b y) : Bd (a + b + 1) (x + y) := by
  rw [← rat_add]
  have px := x.den_pos
  have py := y.den_pos
  obtain ⟨c1, c2⟩ := bd_cross hx hy
  have c3 := bd_den hx hy
  refine bd_divInt (Int.mul_pos (by omega) (by omega)) ?_ (by rw [Int.natAbs_mul, Int.natAbs_natCast, Int.natAbs_natCast, Nat.pow_succ]; omega)
  rw [Nat.pow_succ]
  omega
theorem bd_sub {a b : Nat} {x y : Rat} (hx : Bd a x) (hy : Bd b y) : Bd (a + b + 1) (x - y) := by
  rw [← rat_sub]
  have px := x.den_pos
  have py := y.den_pos
  obtain ⟨c1, c2⟩ := bd_cross hx hy
  have c3 := bd_den hx hy
  refine bd_divInt (Int.mul_pos (by omega) (by omega)) ?_ (by rw [Int.natAbs_mul, Int.natAbs_natCast, Int.natAbs_natCast, Nat.pow_succ]; omega)
  rw [Nat.pow_succ]
  omega
end K87
namespace K87
open EV
/-- Euclid's loop -/
theorem euclid {c : Env → M Bool} {f : Env → MS} (hc : ∀ (a b : Nat) S, c [some (.int a), some (.int b)] S = .ok (decide (b ≠ 0)) S)
    (hf : ∀ (a b : Nat) S, 0 < b → f [some (.int a), some (.int b)] S = .ok (.nx [some (.int b), some (.int (a % b : Nat))]) S) :
    ∀ (k a b m : Nat) (S : Store), b < 2 ^ k → 2 * k + 1 ≤ m → spin c f m [some (.int a), some (.int b)] S = .ok (.nx [some (.int (Nat.gcd a b : Nat)), some (.int 0)]) S := by
  have stop : ∀ (a m : Nat) (S : Store), 1 ≤ m → spin c f m [some (.int a), some (.int (0 : Nat))] S = .ok (.nx [some (.int (a : Nat)), some (.int 0)]) S := by
    intro a m S hm
    obtain ⟨m, rfl⟩ : ∃ j, m = j + 1 := ⟨m - 1, by omega⟩
    rw [spin]
    unfold lift
    rw [hc a 0 S]
    rfl
  have go : ∀ (a b m : Nat) (S : Store), 0 < b → spin c f (m + 1) [some (.int a), some (.int b)] S = spin c f m [some (.int b), some (.int (a % b : Nat))] S := by
    intro a b m S hb
    rw [spin]
    have : b ≠ 0 := by omega
    simp [lift, hc, hf a b S hb, this]
  intro k
  induction k with
  | zero =>
    intro a b m S hb hm
    have : b = 0 := by omega
    subst this
    rw [stop a m S (by omega), Nat.gcd_zero_right]
  | succ k ih =>
    intro a b m S hb hm
    by_cases h0 : b = 0
    · subst h0
      rw [stop a m S (by omega), Nat.gcd_zero_right]
    · obtain ⟨m, rfl⟩ : ∃ j, m = j + 1 := ⟨m - 1, by omega⟩
      rw [go a b m S (by omega)]
      have hr : a % b < b := Nat.mod_lt _ (by omega)
      by_cases h1 : a % b = 0
      · rw [h1, stop b m S (by omega)]
        have : Nat.gcd a b = b := by rw [Nat.gcd_comm]; exact Nat.gcd_eq_left (Nat.dvd_of_mod_eq_zero h1)
        rw [this]
      · obtain ⟨m, rfl⟩ : ∃ j, m = j + 1 := ⟨m - 1, by omega⟩
        rw [go b (a % b) m S (by omega), ih]
        · have : Nat.gcd a b = Nat.gcd (a % b) (b % (a % b)) := by
            rw [Nat.gcd_comm a b, Nat.gcd_rec b a, Nat.gcd_rec (a % b) b, Nat.gcd_comm]
          rw [this]
        · have h2 : b % (a % b) < a % b := Nat.mod_lt _ (by omega)
          have h3 : b % (a % b) + (a % b) ≤ b := by
            have := Nat.div_add_mod b (a % b)
            have hq : 1 ≤ b / (a % b) := (Nat.one_le_div_iff (by omega)).mpr (by omega)
            have : (a % b) * 1 ≤ (a % b) * (b / (a % b)) := Nat.mul_le_mul_left _ hq
            omega
          rw [Nat.pow_succ] at hb
          omega
        · omega
end K87
end
section
set_option Elab.async false
set_option linter.all false
set_option maxRecDepth 100000
set_option maxHeartbeats 4000000
/-! k87, part c: the law's own fractions. -/
namespace K87
open EV
theorem ev_gcd (n k : Nat) (a b : Int) (hb : b.natAbs < 2 ^ k) (hk : 2 * k + 1 ≤ 100000) : Ev (cl (n + 1)) 12 [.int a, .int b] (.int (Nat.gcd a.natAbs b.natAbs : Nat)) := fun S => by
  have h := euclid (c := fun r => M.seq (evalE (cl n) gl (.cmp .ne (.var 1) (.int 0)) r) blOf) (f := fun r => evalSs (cl n) gl (.cons (.asg (.pair (.name 0) (.name 1)) (.tup (.cons (.var 1) (.cons (.bin .mod (.var 0) (.var 1)) .nil)))) .nil) r)
    (fun a b S => by
      by_cases hb : b = 0
      · subst hb; simp [evalE, M.seq, M.ret, cm, blOf, D.deep, D.eq]
      · have : ¬ ((b : Int) = 0) := by omega
        simp [evalE, M.seq, M.ret, cm, blOf, D.deep, D.eq, this, hb])
    (fun a b S hb => by
      have : (0 : Int) < b := by omega
      simp [evalSs, evalS, evalE, evalEs, lift, MS.then, M.seq, M.ret, MS.ok, line, op2, T.bind, this, hb])
    k a.natAbs b.natAbs fuel [] hb hk
  refine callR_rf (q := []) rfl ?_ (by rfl) S
  rw [cl_run (g := f12) rfl, runF_eq rfl]
  have e1 : (if a < 0 then -a else a) = (a.natAbs : Int) := by split <;> omega
  have e2 : (if b < 0 then -b else b) = (b.natAbs : Int) := by split <;> omega
  have s1 : evalS (cl n) gl (.asg (.pair (.name 0) (.name 1)) (.tup (.cons (.bi .abs (.cons (.var 0) .nil)) (.cons (.bi .abs (.cons (.var 1) .nil)) .nil)))) (start 2 [.int a, .int b]) [] = .ok (.nx [some (.int (a.natAbs : Int)), some (.int (b.natAbs : Int))]) [] := by
    simp [evalS, evalE, evalEs, lift, M.seq, M.ret, start, bi, line, T.bind, MS.ok, e1, e2]
  show (match evalSs (cl n) gl f12.body (start 2 [.int a, .int b]) [] with | .ok (.rt d) S' => _ | .ok (.nx _) S' => _ | .exc c ns vs _ S' => _ | _ => _) = _
  have s2 : evalSs (cl n) gl f12.body (start 2 [.int a, .int b]) [] = .ok (.rt (.int (Nat.gcd a.natAbs b.natAbs : Nat))) [] := by
    show evalSs (cl n) gl (.cons _ (.cons (.while_ _ _) _)) _ _ = _
    rw [evalSs]
    unfold MS.then
    rw [s1]
    dsimp only
    rw [evalSs, evalS]
    unfold MS.then
    rw [h]
    simp [evalSs, evalS, evalE, lift, MS.then, M.ret, MS.ok]
  rw [s2]
end K87
namespace K87
open EV
theorem gcd_big {a d : Int} (hd : 0 < d) (hs : big d < 9000) : 0 < Nat.gcd a.natAbs d.natAbs ∧ big (Nat.gcd a.natAbs d.natAbs : Nat) < 9000 := by
  have hg : 0 < Nat.gcd a.natAbs d.natAbs := Nat.gcd_pos_of_pos_right _ (by omega)
  refine ⟨hg, ?_⟩
  have hle : Nat.gcd a.natAbs d.natAbs ≤ d.natAbs := Nat.gcd_le_right _ (by omega)
  unfold big at hs ⊢
  rw [Int.natAbs_natCast]
  refine Nat.lt_of_le_of_lt ?_ hs
  exact (Nat.le_log2 (by omega)).mpr (Nat.le_trans (Nat.log2_self_le (by omega)) hle)
theorem ev_llow (n k : Nat) (a d : Int) (hd : 0 < d) (hk : d.natAbs < 2 ^ k) (hk2 : k < 8900) : Ev (cl (n + 2)) 13 [.int a, .int d] (fr (Rat.divInt a d)) := fun S => by
  obtain ⟨h1, h2⟩ := divInt_lowest a d hd
  have hs : big d < 9000 := Nat.lt_of_le_of_lt (big_lt hk) (by omega)
  obtain ⟨hg, hb⟩ := gcd_big (a := a) hd hs
  have e := ev_gcd n k a d hk (by omega)
  refine callR_rf (q := []) rfl ?_ (by rfl) S
  rw [cl_run (g := f13) rfl, runF_eq rfl]
  have hd' : ¬ d < 0 := by omega
  have e' := e []
  simp only [cl] at e'
  simp [f13, evalSs, evalS, evalE, evalEs, lift, MS.then, M.seq, M.ret, M.opt, start, gl, MS.ok, line, fr, bi, T.bind, cm, blOf, op2, hd', hb, hg, h1, h2, e']
end K87
namespace K87
open EV
theorem ev_ladd (n a b : Nat) (x y : Rat) (hx : Bd a x) (hy : Bd b y) (hab : a + b < 8900) : Ev (cl (n + 3)) 83 [fr x, fr y] (fr (x + y)) := fun S => by
  have px : (0 : Int) < x.den := by have := x.den_pos; omega
  have py : (0 : Int) < y.den := by have := y.den_pos; omega
  have hd : (0 : Int) < (x.den : Int) * y.den := Int.mul_pos px py
  have b1 := big_lt hx.1
  have b2 := big_lt hy.1
  have b3 : big (x.den : Int) ≤ a := big_lt (by simpa using hx.2)
  have b4 : big (y.den : Int) ≤ b := big_lt (by simpa using hy.2)
  have c1 : big x.num + big (y.den : Int) < 1000000 := by omega
  have c2 : big y.num + big (x.den : Int) < 1000000 := by omega
  have c3 : big (x.den : Int) + big (y.den : Int) < 1000000 := by omega
  have e := ev_llow n (a + b) (x.num * y.den + y.num * x.den) (x.den * y.den) hd (by rw [Int.natAbs_mul, Int.natAbs_natCast, Int.natAbs_natCast]; exact bd_den hx hy) hab
  rw [rat_add] at e
  refine callR_rf (q := []) rfl ?_ (by rfl) S
  rw [cl_run (g := f83) rfl, runF_eq rfl]
  have e' := e []
  simp only [cl] at e'
  simp [f83, evalSs, evalS, evalE, evalEs, lift, MS.then, M.seq, M.ret, M.opt, start, gl, MS.ok, line, fr, op2, getI, isDict, nth, ix, c1, c2, c3, e']
theorem ev_lsub (n a b : Nat) (x y : Rat) (hx : Bd a x) (hy : Bd b y) (hab : a + b < 8900) : Ev (cl (n + 3)) 81 [fr x, fr y] (fr (x - y)) := fun S => by
  have px : (0 : Int) < x.den := by have := x.den_pos; omega
  have py : (0 : Int) < y.den := by have := y.den_pos; omega
  have hd : (0 : Int) < (x.den : Int) * y.den := Int.mul_pos px py
  have b1 := big_lt hx.1
  have b2 := big_lt hy.1
  have b3 : big (x.den : Int) ≤ a := big_lt (by simpa using hx.2)
  have b4 : big (y.den : Int) ≤ b := big_lt (by simpa using hy.2)
  have c1 : big x.num + big (y.den : Int) < 1000000 := by omega
  have c2 : big y.num + big (x.den : Int) < 1000000 := by omega
  have c3 : big (x.den : Int) + big (y.den : Int) < 1000000 := by omega
  have e := ev_llow n (a + b) (x.num * y.den - y.num * x.den) (x.den * y.den) hd (by rw [Int.natAbs_mul, Int.natAbs_natCast, Int.natAbs_natCast]; exact bd_den hx hy) hab
  rw [rat_sub] at e
  refine callR_rf (q := []) rfl ?_ (by rfl) S
  rw [cl_run (g := f81) rfl, runF_eq rfl]
  have e' := e []
  simp only [cl] at e'
  simp [f81, evalSs, evalS, evalE, evalEs, lift, MS.then, M.seq, M.ret, M.opt, start, gl, MS.ok, line, fr, op2, getI, isDict, nth, ix, c1, c2, c3, e']
theorem ev_lmul (n a b : Nat) (x y : Rat) (hx : Bd a x) (hy : Bd b y) (hab : a + b < 8900) : Ev (cl (n + 3)) 33 [fr x, fr y] (fr (x * y)) := fun S => by
  have px : (0 : Int) < x.den := by have := x.den_pos; omega
  have py : (0 : Int) < y.den := by have := y.den_pos; omega
  have hd : (0 : Int) < (x.den : Int) * y.den := Int.mul_pos px py
  have b1 := big_lt hx.1
  have b2 := big_lt hy.1
  have b3 : big (x.den : Int) ≤ a := big_lt (by simpa using hx.2)
  have b4 : big (y.den : Int) ≤ b := big_lt (by simpa using hy.2)
  have c1 : big x.num + big y.num < 1000000 := by omega
  have c3 : big (x.den : Int) + big (y.den : Int) < 1000000 := by omega
  have e := ev_llow n (a + b) (x.num * y.num) (x.den * y.den) hd (by rw [Int.natAbs_mul, Int.natAbs_natCast, Int.natAbs_natCast]; exact bd_den hx hy) hab
  rw [rat_mul] at e
  refine callR_rf (q := []) rfl ?_ (by rfl) S
  rw [cl_run (g := f33) rfl, runF_eq rfl]
  have e' := e []
  simp only [cl] at e'
  simp [f33, evalSs, evalS, evalE, evalEs, lift, MS.then, M.seq, M.ret, M.opt, start, gl, MS.ok, line, fr, op2, getI, isDict, nth, ix, c1, c3, e']
end K87
namespace K87
open EV
theorem ev_below (n a b : Nat) (x y : Rat) (hx : Bd a x) (hy : Bd b y) (hab : a + b < 8900) : Ev (cl (n + 1)) 36 [fr x, fr y] (.bl (decide (x < y))) := fun S => by
  have b1 := big_lt hx.1
  have b2 := big_lt hy.1
  have b3 : big (x.den : Int) ≤ a := big_lt (by simpa using hx.2)
  have b4 : big (y.den : Int) ≤ b := big_lt (by simpa using hy.2)
  have c1 : big x.num + big (y.den : Int) < 1000000 := by omega
  have c2 : big y.num + big (x.den : Int) < 1000000 := by omega
  have hl : (x < y) ↔ x.num * (y.den : Int) < y.num * (x.den : Int) := Rat.lt_iff x y
  refine callR_rf (q := []) rfl ?_ (by rfl) S
  rw [cl_run (g := f36) rfl, runF_eq rfl]
  simp [f36, evalSs, evalS, evalE, evalEs, lift, MS.then, M.seq, M.ret, M.opt, start, gl, MS.ok, line, fr, op2, getI, isDict, nth, ix, c1, c2, cm, hl]
end K87
namespace K87
open EV
theorem rat_div (x y : Rat) (hy : 0 < y.num) : Rat.divInt (x.num * y.den) (x.den * y.num) = x / y := by
  have hyi : y⁻¹ = Rat.divInt y.den y.num := by
    conv => lhs; rw [← Rat.num_divInt_den y]
    exact Rat.inv_divInt _ _
  rw [Rat.div_def, hyi, ← Rat.divInt_mul_divInt, Rat.num_divInt_den]
end K87
namespace K87
open EV
theorem ev_ldiv (n a b : Nat) (x y : Rat) (hx : Bd a x) (hy : Bd b y) (hp : 0 < y.num) (hab : a + b < 8900) : Ev (cl (n + 3)) 84 [fr x, fr y] (fr (x / y)) := fun S => by
  have px : (0 : Int) < x.den := by have := x.den_pos; omega
  have hd : (0 : Int) < (x.den : Int) * y.num := Int.mul_pos px hp
  have b1 := big_lt hx.1
  have b2 := big_lt hy.1
  have b3 : big (x.den : Int) ≤ a := big_lt (by simpa using hx.2)
  have b4 : big (y.den : Int) ≤ b := big_lt (by simpa using hy.2)
  have c1 : big x.num + big (y.den : Int) < 1000000 := by omega
  have c2 : big (x.den : Int) + big y.num < 1000000 := by omega
  have hlt : ((x.den : Int) * y.num).natAbs < 2 ^ (a + b) := by
    rw [Int.natAbs_mul, Int.natAbs_natCast, Nat.pow_add]
    exact Nat.mul_lt_mul_of_lt_of_le hx.2 (Nat.le_of_lt hy.1) (Nat.two_pow_pos b)
  have e := ev_llow n (a + b) (x.num * y.den) (x.den * y.num) hd hlt hab
  rw [rat_div x y hp] at e
  refine callR_rf (q := []) rfl ?_ (by rfl) S
  rw [cl_run (g := f84) rfl, runF_eq rfl]
  have e' := e []
  simp only [cl] at e'
  simp [f84, evalSs, evalS, evalE, evalEs, lift, MS.then, M.seq, M.ret, M.opt, start, gl, MS.ok, line, fr, op2, getI, isDict, nth, ix, c1, c2, e']
theorem ev_div (n a b : Nat) (x y : Rat) (hx : Bd a x) (hy : Bd b y) (hp : 0 < y.num) (hab : a + b < 8900) : Ev (cl (n + 2)) 24 [fr x, fr y] (fr (x / y)) := fun S => by
  have px : (0 : Int) < x.den := by have := x.den_pos; omega
  have hd : (0 : Int) < (x.den : Int) * y.num := Int.mul_pos px hp
  have b1 := big_lt hx.1
  have b2 := big_lt hy.1
  have b3 : big (x.den : Int) ≤ a := big_lt (by simpa using hx.2)
  have b4 : big (y.den : Int) ≤ b := big_lt (by simpa using hy.2)
  have c1 : big x.num + big (y.den : Int) < 1000000 := by omega
  have c2 : big (x.den : Int) + big y.num < 1000000 := by omega
  have hlt : ((x.den : Int) * y.num).natAbs < 2 ^ (a + b) := by
    rw [Int.natAbs_mul, Int.natAbs_natCast, Nat.pow_add]
    exact Nat.mul_lt_mul_of_lt_of_le hx.2 (Nat.le_of_lt hy.1) (Nat.two_pow_pos b)
  have hbl := big_lt hlt
  have e := ev_lowest n (x.num * y.den) (x.den * y.num) hd (by omega)
  rw [rat_div x y hp] at e
  have h0 : ¬ y.num = 0 := by omega
  refine callR_rf (q := []) rfl ?_ (by rfl) S
  rw [cl_run (g := f24) rfl, runF_eq rfl]
  have e' := e []
  simp only [cl] at e'
  simp [f24, evalSs, evalS, evalE, evalEs, lift, MS.then, M.seq, M.ret, M.opt, start, gl, MS.ok, line, fr, op2, getI, isDict, nth, ix, c1, c2, e', cm, D.deep, D.eq, blOf, h0]
end K87
end
section
set_option Elab.async false
set_option linter.all false
set_option maxRecDepth 100000
set_option maxHeartbeats 4000000
/-! k87, part d: sums along a walk that comes round (plain). -/
namespace K87
/-- x0 + f (x1 + f (.. + f last)) -/
def fold (f : Rat) : List Rat → Rat → Rat
  | [], last => last
  | x :: xs, last => x + f * fold f xs last
theorem fold_app (f : Rat) : ∀ (xs ys : List Rat) (l : Rat), fold f (xs ++ ys) l = fold f xs (fold f ys l)
  | [], ys, l => rfl
  | x :: xs, ys, l => by
    show x + f * fold f (xs ++ ys) l = x + f * fold f xs (fold f ys l)
    rw [fold_app f xs ys l]
theorem fold_lin (f : Rat) : ∀ (xs : List Rat) (l : Rat), fold f xs l = fold f xs 0 + f ^ xs.length * l
  | [], l => by simp [fold, Rat.pow_zero]; grind
  | x :: xs, l => by
    show x + f * fold f xs l = x + f * fold f xs 0 + f ^ (xs.length + 1) * l
    rw [fold_lin f xs l, Rat.pow_succ]
    grind
theorem pow_range {f : Rat} (h0 : 0 ≤ f) (h1 : f < 1) : ∀ n : Nat, 0 ≤ f ^ n ∧ f ^ n ≤ 1
  | 0 => by rw [Rat.pow_zero]; constructor <;> decide
  | n + 1 => by
    obtain ⟨a, b⟩ := pow_range h0 h1 n
    rw [Rat.pow_succ]
    refine ⟨Rat.mul_nonneg a h0, ?_⟩
    have := Rat.mul_le_mul_of_nonneg_right b h0
    grind
theorem pow_lt {f : Rat} (h0 : 0 ≤ f) (h1 : f < 1) {n : Nat} (hn : 1 ≤ n) : f ^ n < 1 := by
  obtain ⟨n, rfl⟩ : ∃ j, n = j + 1 := ⟨n - 1, by omega⟩
  obtain ⟨a, b⟩ := pow_range h0 h1 n
  rw [Rat.pow_succ]
  have := Rat.mul_le_mul_of_nonneg_right b h0
  grind
/-- what is at most f times the next one, and comes round, is at most 0 -/
theorem seq_le {f : Rat} (h0 : 0 ≤ f) (h1 : f < 1) {d : Nat → Rat} (hd : ∀ n, d n ≤ f * d (n + 1)) {a p : Nat} (hp : 1 ≤ p) (hr : d (a + p) = d a) : d 0 ≤ 0 := by
  have go : ∀ k n, d n ≤ f ^ k * d (n + k) := by
    intro k
    induction k with
    | zero => intro n; rw [Rat.pow_zero]; have : d n = d (n + 0) := rfl; grind
    | succ k ih =>
      intro n
      have h2 := ih n
      have h3 := Rat.mul_le_mul_of_nonneg_left (hd (n + k)) (pow_range h0 h1 k).1
      rw [Rat.pow_succ, Rat.mul_assoc]
      exact Rat.le_trans h2 h3
  have ha : d a ≤ 0 := by
    have h2 := go p a
    rw [hr] at h2
    have h3 := pow_lt h0 h1 hp
    rcases Rat.le_total (a := d a) (b := 0) with h | h
    · exact h
    · by_cases h4 : d a = 0
      · rw [h4]; exact Rat.le_refl
      · have h5 : 0 < d a := by grind
        have : f ^ p * d a < 1 * d a := Rat.mul_lt_mul_of_pos_right h3 h5
        grind
  have h2 := go a 0
  rw [Nat.zero_add] at h2
  have h3 := Rat.mul_le_mul_of_nonneg_left ha (pow_range h0 h1 a).1
  grind
theorem seq_ge {f : Rat} (h0 : 0 ≤ f) (h1 : f < 1) {d : Nat → Rat} (hd : ∀ n, f * d (n + 1) ≤ d n) {a p : Nat} (hp : 1 ≤ p) (hr : d (a + p) = d a) : 0 ≤ d 0 := by
  have := seq_le h0 h1 (d := fun n => - d n) (fun n => by have := hd n; show - d n ≤ f * - d (n + 1); grind) hp (by show - d (a + p) = - d a; rw [hr])
  have h : - d 0 ≤ 0 := this
  grind
theorem seq_eq {f : Rat} (h0 : 0 ≤ f) (h1 : f < 1) {d : Nat → Rat} (hd : ∀ n, d n = f * d (n + 1)) {a p : Nat} (hp : 1 ≤ p) (hr : d (a + p) = d a) : d 0 = 0 :=
  Rat.le_antisymm (seq_le h0 h1 (fun n => by rw [← hd n]; exact Rat.le_refl) hp hr) (seq_ge h0 h1 (fun n => by rw [← hd n]; exact Rat.le_refl) hp hr)
def us (u : Nat → Rat) : Nat → Nat → List Rat
  | _, 0 => []
  | a, n + 1 => u a :: us u (a + 1) n
theorem us_len (u : Nat → Rat) : ∀ (n a : Nat), (us u a n).length = n
  | 0, _ => rfl
  | n + 1, a => by rw [us, List.length_cons, us_len u n (a + 1)]
theorem us_snoc (u : Nat → Rat) : ∀ (n a : Nat), us u a (n + 1) = us u a n ++ [u (a + n)]
  | 0, a => rfl
  | n + 1, a => by
    rw [us, us_snoc u n (a + 1)]
    show _ = u a :: us u (a + 1) n ++ _
    rw [show a + 1 + n = a + (n + 1) by omega]; rfl
def cyc (f : Rat) (u : Nat → Rat) (a p : Nat) : Rat := fold f (us u a p) 0 / (1 - f ^ p)
def val (f : Rat) (u : Nat → Rat) (a p : Nat) : Rat := (1 - f) * fold f (us u 0 a) (cyc f u a p)
theorem cyc_rot {f : Rat} (h0 : 0 ≤ f) (h1 : f < 1) {u : Nat → Rat} {a p : Nat} (hp : 1 ≤ p) (h : u (a + p) = u a) : cyc f u a p = u a + f * cyc f u (a + 1) p := by
  have h3 := pow_lt h0 h1 hp
  obtain ⟨q, rfl⟩ : ∃ j, p = j + 1 := ⟨p - 1, by omega⟩
  unfold cyc
  have e1 : us u a (q + 1) = u a :: us u (a + 1) q := rfl
  have e2 := us_snoc u q (a + 1)
  rw [show a + 1 + q = a + (q + 1) by omega, h] at e2
  rw [e1, e2, fold_app, fold_lin f (us u (a + 1) q), us_len]
  show (u a + f * fold f (us u (a + 1) q) 0) / (1 - f ^ (q + 1)) = _
  simp only [fold]
  rw [Rat.pow_succ] at h3 ⊢
  generalize fold f (us u (a + 1) q) 0 = F
  generalize f ^ q = X at *
  have h4 : 1 - X * f ≠ 0 := by grind
  grind
theorem us_per {u : Nat → Rat} {a p : Nat} (h : ∀ n, a ≤ n → u (n + p) = u n) : ∀ (k n : Nat), a ≤ n → us u (n + p) k = us u n k
  | 0, _, _ => rfl
  | k + 1, n, hn => by
    rw [us, us, h n hn, show n + p + 1 = n + 1 + p by omega, us_per h k (n + 1) (by omega)]
/-- the worth from each place on -/
theorem val_seq {f : Rat} (h0 : 0 ≤ f) (h1 : f < 1) {u : Nat → Rat} {a p : Nat} (hp : 1 ≤ p) (h : ∀ n, a ≤ n → u (n + p) = u n) :
    ∃ v : Nat → Rat, (∀ n, v n = (1 - f) * u n + f * v (n + 1)) ∧ (∀ n, a ≤ n → v (n + p) = v n) ∧ v 0 = val f u a p := by
  refine ⟨fun n => (1 - f) * fold f (us u n (a - n)) (cyc f u (max a n) p), fun n => ?_, fun n hn => ?_, ?_⟩
  · by_cases hn : n < a
    · have e1 : a - n = (a - (n + 1)) + 1 := by omega
      have e2 : max a n = a := by omega
      have e3 : max a (n + 1) = a := by omega
      show (1 - f) * fold f (us u n (a - n)) (cyc f u (max a n) p) = (1 - f) * u n + f * ((1 - f) * fold f (us u (n + 1) (a - (n + 1))) (cyc f u (max a (n + 1)) p))
      rw [e1, e2, e3, us]
      simp only [fold]
      grind
    · have e1 : a - n = 0 := by omega
      have e2 : max a n = n := by omega
      have e3 : max a (n + 1) = n + 1 := by omega
      have e4 : a - (n + 1) = 0 := by omega
      show (1 - f) * fold f (us u n (a - n)) (cyc f u (max a n) p) = (1 - f) * u n + f * ((1 - f) * fold f (us u (n + 1) (a - (n + 1))) (cyc f u (max a (n + 1)) p))
      rw [e1, e2, e3, e4]
      simp only [us, fold]
      rw [cyc_rot h0 h1 hp (h n (by omega))]
      grind
  · have e1 : a - n = 0 := by omega
    have e2 : max a n = n := by omega
    have e3 : a - (n + p) = 0 := by omega
    have e4 : max a (n + p) = n + p := by omega
    show (1 - f) * fold f (us u (n + p) (a - (n + p))) (cyc f u (max a (n + p)) p) = (1 - f) * fold f (us u n (a - n)) (cyc f u (max a n) p)
    rw [e1, e2, e3, e4]
    unfold cyc
    rw [us_per h p n hn]
    rfl
  · show (1 - f) * fold f (us u 0 (a - 0)) (cyc f u (max a 0) p) = val f u a p
    rw [Nat.sub_zero, show max a 0 = a by omega]
    rfl
theorem per_mul {u : Nat → Rat} {a p : Nat} (h : ∀ n, a ≤ n → u (n + p) = u n) : ∀ (k n : Nat), a ≤ n → u (n + p * k) = u n
  | 0, _, _ => rfl
  | k + 1, n, hn => by rw [Nat.mul_succ, ← Nat.add_assoc, h _ (by omega), per_mul h k n hn]
/-- the shape does not matter -/
theorem val_indep {f : Rat} (h0 : 0 ≤ f) (h1 : f < 1) {u : Nat → Rat} {a p b q : Nat} (hp : 1 ≤ p) (h : ∀ n, a ≤ n → u (n + p) = u n) (hq : 1 ≤ q) (g : ∀ n, b ≤ n → u (n + q) = u n) : val f u a p = val f u b q := by
  obtain ⟨v, v1, v2, v3⟩ := val_seq h0 h1 hp h
  obtain ⟨w, w1, w2, w3⟩ := val_seq h0 h1 hq g
  have := seq_eq h0 h1 (d := fun n => v n - w n) (fun n => by show v n - w n = f * (v (n + 1) - w (n + 1)); rw [v1 n, w1 n]; grind) (a := max a b) (p := p * q) (Nat.mul_pos hp hq) (by
    show v (max a b + p * q) - w (max a b + p * q) = v (max a b) - w (max a b)
    rw [per_mul v2 q _ (by omega), Nat.mul_comm p q, per_mul w2 p _ (by omega)])
  have h2 : v 0 - w 0 = 0 := this
  rw [← v3, ← w3]
  grind
end K87
end
section
set_option Elab.async false
set_option linter.all false
set_option maxRecDepth 100000
set_option maxHeartbeats 4000000
/-! k87, part e: walks that come round, worths, policies (plain). -/
namespace K87
section orbits
variable {α : Type}
def it (s : α → α) : Nat → α → α
  | 0, x => x
  | n + 1, x => it s n (s x)
theorem it_succ (s : α → α) : ∀ (n : Nat) (x : α), it s (n + 1) x = s (it s n x)
  | 0, _ => rfl
  | n + 1, x => by rw [it, it_succ s n (s x)]; rfl
theorem it_add (s : α → α) (m : Nat) : ∀ (n : Nat) (x : α), it s (n + m) x = it s m (it s n x)
  | 0, x => by rw [Nat.zero_add]; rfl
  | n + 1, x => by rw [show n + 1 + m = n + m + 1 by omega, it, it_add s m n (s x)]; rfl
theorem it_per {s : α → α} {x : α} {a p : Nat} (h : it s (a + p) x = it s a x) (n : Nat) (hn : a ≤ n) : it s (n + p) x = it s n x := by
  obtain ⟨k, rfl⟩ : ∃ k, n = a + k := ⟨n - a, by omega⟩
  rw [show a + k + p = a + p + k by omega, it_add s k (a + p), h, ← it_add]
/-- the first time that something comes again -/
structure Rho (s : α → α) (x : α) (a p : Nat) : Prop where
  pos : 1 ≤ p
  back : it s (a + p) x = it s a x
  new : ∀ k l, k < l → l < a + p → it s k x ≠ it s l x
theorem pigeon : ∀ (N M : Nat) (c : Nat → Nat), (∀ k, k < M → c k < N) → (∀ k l, k < l → l < M → c k ≠ c l) → M ≤ N
  | 0, M, c, h, _ => by
    rcases Nat.eq_zero_or_pos M with h0 | h0
    · omega
    · have := h 0 h0; omega
  | N + 1, 0, c, _, _ => by omega
  | N + 1, M + 1, c, h, g => by
    have := pigeon N M (fun k => if c k < c M then c k else c k - 1) (fun k hk => by
      have h1 := h k (by omega)
      have h2 := h M (by omega)
      have h3 := g k M hk (by omega)
      show (if c k < c M then c k else c k - 1) < N
      split <;> omega) (fun k l hkl hl => by
      have h3 := g k M (by omega) (by omega)
      have h4 := g l M (by omega) (by omega)
      have h5 := g k l hkl (by omega)
      show (if c k < c M then c k else c k - 1) ≠ (if c l < c M then c l else c l - 1)
      split <;> split <;> omega)
    omega
theorem rho_ex {s : α → α} {x : α} (code : α → Nat) (N : Nat) (h : ∀ n, code (it s n x) < N) (inj : ∀ m n, code (it s m x) = code (it s n x) → it s m x = it s n x) :
    ∃ a p, Rho s x a p ∧ a + p ≤ N := by
  have go : ∀ M, (∀ k l, k < l → l < M → it s k x ≠ it s l x) ∨ ∃ a p, Rho s x a p ∧ a + p < M := by
    intro M
    induction M with
    | zero => exact .inl fun k l _ h => by omega
    | succ M ih =>
      rcases ih with ih | ⟨a, p, r, hr⟩
      · by_cases hk : ∃ k, k < M ∧ it s M x = it s k x
        · obtain ⟨k, hk, e⟩ := hk
          refine .inr ⟨k, M - k, ⟨by omega, by rw [show k + (M - k) = M by omega]; exact e, fun i j hij hj => ih i j hij (by omega)⟩, by omega⟩
        · refine .inl fun k l hkl hl e => ?_
          by_cases hM : l = M
          · subst hM; exact hk ⟨k, hkl, e.symm⟩
          · exact ih k l hkl (by omega) e
      · exact .inr ⟨a, p, r, by omega⟩
  rcases go (N + 1) with h1 | ⟨a, p, r, hr⟩
  · have := pigeon N (N + 1) (fun k => code (it s k x)) (fun k _ => h k) (fun k l hkl hl e => h1 k l hkl hl (inj k l e))
    omega
  · exact ⟨a, p, r, by omega⟩
open Classical in
/-- the discounted worth of an endless walk -/
noncomputable def wo (f : Rat) (s : α → α) (g : α → Rat) (x : α) : Rat :=
  if h : ∃ ap : Nat × Nat, 1 ≤ ap.2 ∧ it s (ap.1 + ap.2) x = it s ap.1 x then val f (fun n => g (it s n x)) h.choose.1 h.choose.2 else 0
variable {f : Rat} (h0 : 0 ≤ f) (h1 : f < 1) {s : α → α} {g : α → Rat}
include h0 h1
theorem wo_eq {x : α} {a p : Nat} (hp : 1 ≤ p) (h : it s (a + p) x = it s a x) : wo f s g x = val f (fun n => g (it s n x)) a p := by
  have hex : ∃ ap : Nat × Nat, 1 ≤ ap.2 ∧ it s (ap.1 + ap.2) x = it s ap.1 x := ⟨(a, p), hp, h⟩
  unfold wo
  rw [dif_pos hex]
  obtain ⟨q1, q2⟩ := hex.choose_spec
  exact val_indep h0 h1 q1 (fun n hn => by show g _ = g _; rw [it_per q2 n hn]) hp (fun n hn => by show g _ = g _; rw [it_per h n hn])
theorem wo_step {x : α} {a p : Nat} (hp : 1 ≤ p) (h : it s (a + p) x = it s a x) : wo f s g x = (1 - f) * g x + f * wo f s g (s x) := by
  have h' : it s (a + p) (s x) = it s a (s x) := by
    show it s (a + p + 1) x = it s (a + 1) x
    rw [it_succ, it_succ, h]
  have e1 := wo_eq h0 h1 (g := g) hp h
  have e2 := wo_eq h0 h1 (g := g) hp h'
  obtain ⟨v, v1, v2, v3⟩ := val_seq h0 h1 (u := fun n => g (it s n x)) hp (a := a) (fun n hn => by show g _ = g _; rw [it_per h n hn])
  obtain ⟨w, w1, w2, w3⟩ := val_seq h0 h1 (u := fun n => g (it s n (s x))) hp (a := a) (fun n hn => by show g _ = g _; rw [it_per h' n hn])
  have := seq_eq h0 h1 (d := fun n => v (n + 1) - w n) (fun n => by show v (n + 1) - w n = f * (v (n + 1 + 1) - w (n + 1)); rw [v1 (n + 1), w1 n]; show (1 - f) * g (it s n (s x)) + _ - _ = _; grind) (a := a) hp (by
    show v (a + p + 1) - w (a + p) = v (a + 1) - w a
    rw [show a + p + 1 = a + 1 + p by omega, v2 (a + 1) (by omega), w2 a (Nat.le_refl a)])
  have h2 : v 1 - w 0 = 0 := this
  rw [e1, e2, ← v3, ← w3, v1 0]
  show (1 - f) * g (it s 0 x) + f * v 1 = (1 - f) * g x + f * w 0
  have : g (it s 0 x) = g x := rfl
  grind
/-- no walk is worth more than what no single step betters -/
theorem wo_le {β : Type} {x : α} {a p : Nat} (hp : 1 ≤ p) (h : it s (a + p) x = it s a x) (V : β → Rat) (pr : α → β)
    (hV : ∀ n, (1 - f) * g (it s n x) + f * V (pr (it s (n + 1) x)) ≤ V (pr (it s n x))) : wo f s g x ≤ V (pr x) := by
  have := seq_le h0 h1 (d := fun n => wo f s g (it s n x) - V (pr (it s n x))) (fun n => by
    have hn : it s (a + p) (it s n x) = it s a (it s n x) := by rw [← it_add, ← it_add, show n + (a + p) = a + n + p by omega, it_per h _ (by omega), Nat.add_comm]
    have e := wo_step h0 h1 (g := g) hp hn
    have e2 := hV n
    rw [← it_succ s n x] at e
    show wo f s g (it s n x) - _ ≤ f * (wo f s g (it s (n + 1) x) - _)
    grind) (a := a) hp (by show wo f s g (it s (a + p) x) - V (pr (it s (a + p) x)) = wo f s g (it s a x) - V (pr (it s a x)); rw [h])
  have h2 : wo f s g (it s 0 x) - V (pr (it s 0 x)) ≤ 0 := this
  have h3 : it s 0 x = x := rfl
  rw [h3] at h2
  grind
theorem wo_ge {β : Type} {x : α} {a p : Nat} (hp : 1 ≤ p) (h : it s (a + p) x = it s a x) (V : β → Rat) (pr : α → β)
    (hV : ∀ n, V (pr (it s n x)) ≤ (1 - f) * g (it s n x) + f * V (pr (it s (n + 1) x))) : V (pr x) ≤ wo f s g x := by
  have := seq_ge h0 h1 (d := fun n => wo f s g (it s n x) - V (pr (it s n x))) (fun n => by
    have hn : it s (a + p) (it s n x) = it s a (it s n x) := by rw [← it_add, ← it_add, show n + (a + p) = a + n + p by omega, it_per h _ (by omega), Nat.add_comm]
    have e := wo_step h0 h1 (g := g) hp hn
    have e2 := hV n
    rw [← it_succ s n x] at e
    show f * (wo f s g (it s (n + 1) x) - _) ≤ wo f s g (it s n x) - _
    grind) (a := a) hp (by show wo f s g (it s (a + p) x) - V (pr (it s (a + p) x)) = wo f s g (it s a x) - V (pr (it s a x)); rw [h])
  have h2 : 0 ≤ wo f s g (it s 0 x) - V (pr (it s 0 x)) := this
  have h3 : it s 0 x = x := rfl
  rw [h3] at h2
  grind
end orbits
/-- states below S stay below S -/
theorem it_lt {S : Nat} {s : Nat → Nat} (h : ∀ j, j < S → s j < S) : ∀ (n j : Nat), j < S → it s n j < S
  | 0, _, hj => hj
  | n + 1, j, hj => it_lt h n (s j) (h j hj)
theorem rho_nat {S : Nat} {s : Nat → Nat} (h : ∀ j, j < S → s j < S) {j : Nat} (hj : j < S) : ∃ a p, Rho s j a p ∧ a + p ≤ S :=
  rho_ex id S (fun n => it_lt h n j hj) (fun _ _ e => e)
theorem it_lt2 {S T : Nat} {s : Nat × Nat → Nat × Nat} (h : ∀ x, x.1 < S → x.2 < T → (s x).1 < S ∧ (s x).2 < T) : ∀ (n : Nat) (x : Nat × Nat), x.1 < S → x.2 < T → (it s n x).1 < S ∧ (it s n x).2 < T
  | 0, _, h1, h2 => ⟨h1, h2⟩
  | n + 1, x, h1, h2 => it_lt2 h n (s x) (h x h1 h2).1 (h x h1 h2).2
theorem rho_pair {S T : Nat} {s : Nat × Nat → Nat × Nat} (h : ∀ x, x.1 < S → x.2 < T → (s x).1 < S ∧ (s x).2 < T) {x : Nat × Nat} (h1 : x.1 < S) (h2 : x.2 < T) : ∃ a p, Rho s x a p ∧ a + p ≤ S * T :=
  rho_ex (fun y => y.1 * T + y.2) (S * T) (fun n => by
    obtain ⟨a, b⟩ := it_lt2 h n x h1 h2
    show _ * T + _ < S * T
    have : ((it s n x).1 + 1) * T ≤ S * T := Nat.mul_le_mul_right T a
    rw [Nat.succ_mul] at this
    omega) (fun m n e => by
    obtain ⟨a, b⟩ := it_lt2 h m x h1 h2
    obtain ⟨c, d⟩ := it_lt2 h n x h1 h2
    have hT : 0 < T := by omega
    have e : (it s m x).1 * T + (it s m x).2 = (it s n x).1 * T + (it s n x).2 := e
    have e1 : (it s m x).1 = (it s n x).1 := by
      have q1 : ((it s m x).1 * T + (it s m x).2) / T = (it s m x).1 := by
        rw [Nat.mul_comm, Nat.mul_add_div hT, Nat.div_eq_of_lt b, Nat.add_zero]
      have q2 : ((it s n x).1 * T + (it s n x).2) / T = (it s n x).1 := by
        rw [Nat.mul_comm, Nat.mul_add_div hT, Nat.div_eq_of_lt d, Nat.add_zero]
      rw [← q1, ← q2, e]
    refine Prod.ext e1 ?_
    rw [e1] at e
    omega)
end K87
end
section
set_option Elab.async false
set_option linter.all false
set_option maxRecDepth 100000
set_option maxHeartbeats 4000000
/-! k87, part f: policies (plain). -/
namespace K87
def sm (V : Nat → Rat) : Nat → Rat
  | 0 => 0
  | n + 1 => sm V n + V n
theorem sm_le {V W : Nat → Rat} : ∀ {n : Nat}, (∀ j, j < n → V j ≤ W j) → sm V n ≤ sm W n
  | 0, _ => Rat.le_refl
  | n + 1, h => by
    have a := sm_le (n := n) fun j hj => h j (by omega)
    have b := h n (by omega)
    simp only [sm]
    grind
theorem sm_lt {V W : Nat → Rat} : ∀ {n : Nat}, (∀ j, j < n → V j ≤ W j) → (∃ j, j < n ∧ V j < W j) → sm V n < sm W n
  | 0, _, ⟨j, hj, _⟩ => by omega
  | n + 1, h, ⟨j, hj, g⟩ => by
    have b := h n (by omega)
    have a := sm_le (n := n) fun j hj => h j (by omega)
    simp only [sm]
    by_cases e : j = n
    · subst e; grind
    · have a := sm_lt (n := n) (fun j hj => h j (by omega)) ⟨j, by omega, g⟩
      grind
theorem sm_eq {V W : Nat → Rat} : ∀ {n : Nat}, (∀ j, j < n → V j = W j) → sm V n = sm W n
  | 0, _ => rfl
  | n + 1, h => by simp only [sm]; rw [sm_eq (n := n) fun j hj => h j (by omega), h n (by omega)]
def pols (K : Nat) : Nat → List (List Nat)
  | 0 => [[]]
  | n + 1 => (pols K n).flatMap fun p => (List.range K).map fun c => p ++ [c]
theorem pols_len (K : Nat) : ∀ n, (pols K n).length = K ^ n
  | 0 => rfl
  | n + 1 => by
    rw [pols, List.length_flatMap, Nat.pow_succ, ← pols_len K n]
    induction pols K n with
    | nil => simp
    | cons p ps ih => simp [Nat.succ_mul] at ih ⊢; omega
theorem pols_mem (K : Nat) {q : Nat → Nat} : ∀ {n : Nat}, (∀ j, j < n → q j < K) → (List.range n).map q ∈ pols K n
  | 0, _ => by simp [pols]
  | n + 1, h => by
    rw [pols, List.mem_flatMap]
    refine ⟨(List.range n).map q, pols_mem K fun j hj => h j (by omega), ?_⟩
    rw [List.mem_map]
    exact ⟨q n, by rw [List.mem_range]; exact h n (by omega), by rw [List.range_succ, List.map_append]; rfl⟩
def ofl (p : List Nat) (j : Nat) : Nat := p.getD j 0
theorem ofl_map {q : Nat → Nat} {n j : Nat} (h : j < n) : ofl ((List.range n).map q) j = q j := by
  unfold ofl
  simp [List.getD, h]
theorem countP_lt {γ : Type} {P Q : γ → Bool} : ∀ {l : List γ}, (∀ x, P x = true → Q x = true) → (∃ x, x ∈ l ∧ Q x = true ∧ P x = false) → l.countP P < l.countP Q
  | [], _, ⟨x, hx, _⟩ => by cases hx
  | y :: l, h, ⟨x, hx, q, p⟩ => by
    have mono : l.countP P ≤ l.countP Q := List.countP_mono_left fun x _ => h x
    rw [List.countP_cons, List.countP_cons]
    by_cases e : x = y
    · subst e
      rw [if_neg (by rw [p]; decide), if_pos q]
      omega
    · have := countP_lt (l := l) h ⟨x, by cases hx with | head => exact absurd rfl e | tail _ h => exact h, q, p⟩
      by_cases hp : P y = true
      · rw [if_pos hp, if_pos (h y hp)]; omega
      · rw [if_neg hp]; split <;> omega
section pol
variable (f : Rat) (S K : Nat) (m : Nat → Nat → Rat) (nx : Nat → Nat → Nat)
/-- the worth of a policy from a state on -/
noncomputable def pv (q : Nat → Nat) (j : Nat) : Rat := wo f (fun j => nx j (q j)) (fun j => m (q j) j) j
noncomputable def opt (q : Nat → Nat) (j c : Nat) : Rat := (1 - f) * m c j + f * pv f m nx q (nx j c)
/-- what a turn of the improvement makes -/
def Bet (q q' : Nat → Nat) : Prop := ∀ j, j < S → q' j < K ∧ ((pv f m nx q j < opt f m nx q j (q' j) ∧ ∀ c, c < K → opt f m nx q j c ≤ opt f m nx q j (q' j)) ∨ (q' j = q j ∧ ∀ c, c < K → opt f m nx q j c ≤ pv f m nx q j))
def PolOk (q : Nat → Nat) : Prop := ∀ j, j < S → q j < K
variable {f S K m nx} (h0 : 0 ≤ f) (h1 : f < 1) (hnx : ∀ j, j < S → ∀ c, c < K → nx j c < S)
include h0 h1 hnx
theorem pv_fix {q : Nat → Nat} (hq : PolOk S K q) {j : Nat} (hj : j < S) : pv f m nx q j = opt f m nx q j (q j) := by
  obtain ⟨a, p, r, _⟩ := rho_nat (s := fun j => nx j (q j)) (fun j hj => hnx j hj _ (hq j hj)) hj
  exact wo_step h0 h1 r.pos r.back
theorem pv_ge {q q' : Nat → Nat} (hq' : PolOk S K q') (h : ∀ j, j < S → pv f m nx q j ≤ opt f m nx q j (q' j)) {j : Nat} (hj : j < S) : pv f m nx q j ≤ pv f m nx q' j := by
  have hlt : ∀ j, j < S → (fun j => nx j (q' j)) j < S := fun j hj => hnx j hj _ (hq' j hj)
  obtain ⟨a, p, r, _⟩ := rho_nat hlt hj
  refine wo_ge h0 h1 r.pos r.back (pv f m nx q) id fun n => ?_
  rw [it_succ]
  exact h _ (it_lt hlt n j hj)
theorem pv_le {q q' : Nat → Nat} (hq' : PolOk S K q') (h : ∀ j, j < S → opt f m nx q j (q' j) ≤ pv f m nx q j) {j : Nat} (hj : j < S) : pv f m nx q' j ≤ pv f m nx q j := by
  have hlt : ∀ j, j < S → (fun j => nx j (q' j)) j < S := fun j hj => hnx j hj _ (hq' j hj)
  obtain ⟨a, p, r, _⟩ := rho_nat hlt hj
  refine wo_le h0 h1 r.pos r.back (pv f m nx q) id fun n => ?_
  rw [it_succ]
  exact h _ (it_lt hlt n j hj)
theorem pv_congr {q q' : Nat → Nat} (hq : PolOk S K q) (h : ∀ j, j < S → q' j = q j) {j : Nat} (hj : j < S) : pv f m nx q' j = pv f m nx q j := by
  have hq' : PolOk S K q' := fun j hj => by rw [h j hj]; exact hq j hj
  refine Rat.le_antisymm (pv_le h0 h1 hnx hq' (fun j hj => ?_) hj) (pv_ge h0 h1 hnx hq' (fun j hj => ?_) hj)
  · rw [h j hj, ← pv_fix h0 h1 hnx hq hj]; exact Rat.le_refl
  · rw [h j hj, ← pv_fix h0 h1 hnx hq hj]; exact Rat.le_refl
theorem Bet.ok {q q' : Nat → Nat} (b : Bet f S K m nx q q') : PolOk S K q' := fun j hj => (b j hj).1
theorem bet_ge {q q' : Nat → Nat} (hq : PolOk S K q) (b : Bet f S K m nx q q') {j : Nat} (hj : j < S) : pv f m nx q j ≤ pv f m nx q' j := by
  refine pv_ge h0 h1 hnx (fun j hj => (b j hj).1) (fun j hj => ?_) hj
  rcases (b j hj).2 with ⟨h, _⟩ | ⟨h, _⟩
  · exact Rat.le_of_lt h
  · rw [h, ← pv_fix h0 h1 hnx hq hj]; exact Rat.le_refl
theorem bet_lt {q q' : Nat → Nat} (hq : PolOk S K q) (b : Bet f S K m nx q q') {j : Nat} (hj : j < S) (hne : q' j ≠ q j) : pv f m nx q j < pv f m nx q' j := by
  have hq' : PolOk S K q' := fun j hj => (b j hj).1
  rw [pv_fix h0 h1 hnx hq' hj]
  rcases (b j hj).2 with ⟨h, _⟩ | ⟨h, _⟩
  · have h2 := bet_ge h0 h1 hnx hq b (hnx j hj _ (hq' j hj))
    have h3 := Rat.mul_le_mul_of_nonneg_left h2 h0
    unfold opt at h ⊢
    grind
  · exact absurd h hne
/-- how many policies are still better -/
noncomputable def left (f : Rat) (S K : Nat) (m : Nat → Nat → Rat) (nx : Nat → Nat → Nat) (q : Nat → Nat) : Nat :=
  (pols K S).countP fun p => decide (sm (pv f m nx q) S < sm (pv f m nx (ofl p)) S)
omit h0 h1 hnx in
theorem left_le (q : Nat → Nat) : left f S K m nx q ≤ K ^ S := by
  rw [← pols_len K S]; exact List.countP_le_length
theorem left_lt {q q' : Nat → Nat} (hq : PolOk S K q) (b : Bet f S K m nx q q') (hne : ∃ j, j < S ∧ q' j ≠ q j) : left f S K m nx q' < left f S K m nx q := by
  have hq' : PolOk S K q' := fun j hj => (b j hj).1
  obtain ⟨j, hj, e⟩ := hne
  have hlt : sm (pv f m nx q) S < sm (pv f m nx q') S := sm_lt (fun j hj => bet_ge h0 h1 hnx hq b hj) ⟨j, hj, bet_lt h0 h1 hnx hq b hj e⟩
  refine countP_lt (fun p hp => ?_) ⟨(List.range S).map q', pols_mem K hq', ?_⟩
  · rw [decide_eq_true_iff] at hp ⊢
    grind
  · have e2 : sm (pv f m nx (ofl ((List.range S).map q'))) S = sm (pv f m nx q') S := sm_eq fun j hj => pv_congr h0 h1 hnx hq' (fun j hj => ofl_map hj) hj
    rw [e2]
    refine ⟨decide_eq_true hlt, decide_eq_false ?_⟩
    grind
/-- where nothing is bettered any more -/
theorem bet_end {q q' : Nat → Nat} (hq : PolOk S K q) (b : Bet f S K m nx q q') (he : ∀ j, j < S → q' j = q j) {j : Nat} (hj : j < S) {c : Nat} (hc : c < K) : opt f m nx q j c ≤ pv f m nx q j := by
  rcases (b j hj).2 with ⟨h, _⟩ | ⟨_, h⟩
  · rw [he j hj, ← pv_fix h0 h1 hnx hq hj] at h
    exact absurd h (by grind)
  · exact h c hc
end pol
end K87
end
section
set_option Elab.async false
set_option linter.all false
set_option maxRecDepth 100000
set_option maxHeartbeats 4000000
/-! k87, part g: steps of the evaluator, for simp. -/
namespace EW
open EV
def tb (n : Nat) (F : Nat → D) : D := .tup ((List.range n).map F)
def ls (n : Nat) (F : Nat → D) : D := .fl ((List.range n).map F)
theorem ev_eq {cf : Nat → List D → M D} {f : Nat} {ds : List D} {r : D} (h : Ev cf f ds r) : callR (cf f) ds = M.ret r := funext h
@[simp] theorem calm_ret {α : Type} (a : α) : M.calm (M.ret a) = M.ret a := rfl
@[simp] theorem opt_some {α : Type} (a : α) : M.opt (some a) = M.ret a := rfl
@[simp] theorem lift_ret {α : Type} (a : α) (r : Env) (k : α → MS) : lift (M.ret a) r k = k a := rfl
@[simp] theorem ite_ret {α : Type} (c : Prop) [Decidable c] (a b : α) : (if c then M.ret a else M.ret b) = M.ret (if c then a else b) := by split <;> rfl
theorem seq_opt {α β : Type} (o : Option α) (k : α → M β) (a : α) (h : o = some a) : M.seq (M.opt o) k = k a := by rw [h]; rfl
theorem ret_app {α : Type} (a : α) (S : Store) : M.ret a S = .ok a S := rfl
/-- what follows a statement -/
def bnd (m : RS) (k : Env → Store → RS) : RS := match m with
  | .ok (.nx r) S => k r S
  | x => x
@[simp] theorem bnd_nx (r : Env) (S : Store) (k : Env → Store → RS) : bnd (.ok (.nx r) S) k = k r S := rfl
@[simp] theorem bnd_rt (d : D) (S : Store) (k : Env → Store → RS) : bnd (.ok (.rt d) S) k = .ok (.rt d) S := rfl
section
variable {call : Nat → List D → M D} {gl : List D}
theorem zz_cons (s : S) (ss : Ss) (r : Env) (S : Store) : evalSs call gl (.cons s ss) r S = bnd (evalS call gl s r S) (fun r S => evalSs call gl ss r S) := by
  rw [evalSs]
  unfold MS.then bnd
  cases evalS call gl s r S with
  | ok f S' => cases f <;> rfl
  | _ => rfl
theorem zz_nil (r : Env) (S : Store) : evalSs call gl .nil r S = .ok (.nx r) S := by rw [evalSs]; rfl
end
/-- the end of a run -/
def Pst (m : RS) (Q : Fl → Store → Prop) : Prop := ∃ f S, m = .ok f S ∧ Q f S
theorem Pst.ok {f : Fl} {S : Store} {Q : Fl → Store → Prop} (h : Q f S) : Pst (.ok f S) Q := ⟨f, S, rfl, h⟩
theorem Pst.bnd {m : RS} {k : Env → Store → RS} {Q : Fl → Store → Prop} (h : Pst m fun f S => match f with | .nx r => Pst (k r S) Q | f => Q f S) : Pst (bnd m k) Q := by
  obtain ⟨f, S, e, h⟩ := h
  rw [e]
  cases f with
  | nx r => exact h
  | _ => exact ⟨_, _, rfl, h⟩
theorem Pst.mono {m : RS} {P Q : Fl → Store → Prop} (h : Pst m P) (g : ∀ f S, P f S → Q f S) : Pst m Q := by
  obtain ⟨f, S, e, p⟩ := h
  exact ⟨f, S, e, g f S p⟩
theorem Pst.loopL {g : D → Env → MS} {Q : Fl → Store → Prop} : ∀ {xs : List D} {r : Env} {S : Store} (I : List D → Env → Store → Prop), I xs r S →
    (∀ x xs r S, I (x :: xs) r S → Pst (g x r S) fun f S' => match f with | .nx r' => I xs r' S' | .ct r' => I xs r' S' | .bk _ => False | .rt d => Q (.rt d) S') →
    (∀ r S, I [] r S → Q (.nx r) S) → Pst (loop g xs r S) Q
  | [], r, S, I, h0, hs, hn => ⟨_, _, rfl, hn r S h0⟩
  | x :: xs, r, S, I, h0, hs, hn => by
    obtain ⟨f, S', e, h⟩ := hs x xs r S h0
    cases f with
    | nx r' =>
      have := Pst.loopL (g := g) (Q := Q) (xs := xs) I h hs hn
      obtain ⟨f2, S2, e2, q⟩ := this
      exact ⟨f2, S2, by rw [loop]; dsimp only; rw [e]; exact e2, q⟩
    | ct r' =>
      have := Pst.loopL (g := g) (Q := Q) (xs := xs) I h hs hn
      obtain ⟨f2, S2, e2, q⟩ := this
      exact ⟨f2, S2, by rw [loop]; dsimp only; rw [e]; exact e2, q⟩
    | bk r' => cases h
    | rt d => exact ⟨_, _, by rw [loop]; dsimp only; rw [e], h⟩
/-- a loop over the images of a list -/
theorem Pst.loopM {γ : Type} {g : D → Env → MS} {Q : Fl → Store → Prop} {emb : γ → D} : ∀ {xs : List γ} {r : Env} {S : Store} (I : List γ → Env → Store → Prop), I xs r S →
    (∀ x xs r S, I (x :: xs) r S → Pst (g (emb x) r S) fun f S' => match f with | .nx r' => I xs r' S' | .ct r' => I xs r' S' | .bk _ => False | .rt d => Q (.rt d) S') →
    (∀ r S, I [] r S → Q (.nx r) S) → Pst (EV.loop g (xs.map emb) r S) Q
  | [], r, S, I, h0, hs, hn => ⟨_, _, rfl, hn r S h0⟩
  | x :: xs, r, S, I, h0, hs, hn => by
    obtain ⟨f, S', e, h⟩ := hs x xs r S h0
    cases f with
    | nx r' =>
      obtain ⟨f2, S2, e2, q⟩ := Pst.loopM (g := g) (Q := Q) (xs := xs) I h hs hn
      exact ⟨f2, S2, by rw [List.map_cons, EV.loop]; dsimp only; rw [e]; exact e2, q⟩
    | ct r' =>
      obtain ⟨f2, S2, e2, q⟩ := Pst.loopM (g := g) (Q := Q) (xs := xs) I h hs hn
      exact ⟨f2, S2, by rw [List.map_cons, EV.loop]; dsimp only; rw [e]; exact e2, q⟩
    | bk r' => cases h
    | rt d => exact ⟨_, _, by rw [List.map_cons, EV.loop]; dsimp only; rw [e], h⟩
/-- a loop over so many items, by its number -/
theorem Pst.loop {g : D → Env → MS} {Q : Fl → Store → Prop} {n : Nat} {F : Nat → D} {r : Env} {S : Store} (I : Nat → Env → Store → Prop) (h0 : I 0 r S)
    (hs : ∀ i, i < n → ∀ r S, I i r S → Pst (g (F i) r S) fun f S' => match f with | .nx r' => I (i + 1) r' S' | .ct r' => I (i + 1) r' S' | .bk _ => False | .rt d => Q (.rt d) S')
    (hn : ∀ r S, I n r S → Q (.nx r) S) : Pst (loop g ((List.range n).map F) r S) Q := by
  have go : ∀ (k i : Nat) (r : Env) (S : Store), i + k = n → I i r S → Pst (EV.loop g ((List.range' i k).map F) r S) Q := by
    intro k
    induction k with
    | zero => intro i r S hi h; exact ⟨_, _, rfl, hn r S (by rw [Nat.add_zero] at hi; rw [← hi]; exact h)⟩
    | succ k ih =>
      intro i r S hi h
      obtain ⟨f, S', e, q⟩ := hs i (by omega) r S h
      rw [List.range'_succ, List.map_cons]
      cases f with
      | nx r' =>
        obtain ⟨f2, S2, e2, q2⟩ := ih (i + 1) r' S' (by omega) q
        exact ⟨f2, S2, by rw [EV.loop]; dsimp only; rw [e]; exact e2, q2⟩
      | ct r' =>
        obtain ⟨f2, S2, e2, q2⟩ := ih (i + 1) r' S' (by omega) q
        exact ⟨f2, S2, by rw [EV.loop]; dsimp only; rw [e]; exact e2, q2⟩
      | bk r' => cases q
      | rt d => exact ⟨_, _, by rw [EV.loop]; dsimp only; rw [e], q⟩
  rw [List.range_eq_range']
  exact go n 0 r S (by omega) h0
/-- a while loop with a count of what is left -/
theorem Pst.spin {c : Env → M Bool} {g : Env → MS} {Q : Fl → Store → Prop} (I : Nat → Env → Store → Prop) :
    ∀ (k m : Nat) (r : Env) (S : Store), k < m → I k r S →
    (∀ k r S, I k r S → (c r S = .ok false S ∧ Q (.nx r) S) ∨ (c r S = .ok true S ∧ Pst (g r S) fun f S' => match f with | .nx r' => ∃ j, j < k ∧ I j r' S' | _ => False)) → Pst (spin c g m r S) Q := by
  intro k
  induction k using Nat.strongRecOn with
  | _ k ih =>
    intro m r S hm h0 hs
    obtain ⟨m, rfl⟩ : ∃ j, m = j + 1 := ⟨m - 1, by omega⟩
    rcases hs k r S h0 with ⟨e, q⟩ | ⟨e, f, S', e2, q⟩
    · refine ⟨_, _, ?_, q⟩
      rw [EV.spin]
      unfold lift
      rw [e]
      rfl
    · cases f with
      | nx r' =>
        obtain ⟨j, hj, hI⟩ := q
        obtain ⟨f2, S2, e3, q2⟩ := ih j hj m r' S' (by omega) hI hs
        refine ⟨f2, S2, ?_, q2⟩
        rw [EV.spin]
        unfold lift
        rw [e]
        simp only [if_true, e2]
        exact e3
      | _ => cases q
/-! comprehensions by the number of the item -/
def colL (g : Nat → M (Option D)) : List Nat → M (List D)
  | [] => .ret []
  | x :: xs => M.seq (g x) fun o => M.seq (colL g xs) fun ys => .ret (match o with | some y => y :: ys | none => ys)
theorem colL_ext {g h : Nat → M (Option D)} : ∀ {l : List Nat}, (∀ i, i ∈ l → g i = h i) → colL g l = colL h l
  | [], _ => rfl
  | x :: xs, e => by rw [colL, colL, e x (by simp), colL_ext fun i hi => e i (by simp [hi])]
/-- each turn knows that its number is below the count -/
def colN (n : Nat) (g : (i : Nat) → i < n → M (Option D)) : M (List D) := colL (fun i => if h : i < n then g i h else .no) (List.range n)
theorem colN_L (n : Nat) (g : Nat → M (Option D)) : colN n (fun i _ => g i) = colL g (List.range n) := colL_ext fun i hi => dif_pos (List.mem_range.mp hi)
theorem collect_L (g : D → M (Option D)) (F : Nat → D) : ∀ l : List Nat, collect g (l.map F) = colL (fun i => g (F i)) l
  | [] => rfl
  | x :: xs => by rw [List.map_cons, collect, collect_L g F xs]; rfl
theorem colL_ret (G : Nat → D) : ∀ l : List Nat, colL (fun i => M.ret (some (G i))) l = M.ret (l.map G)
  | [] => rfl
  | x :: xs => by rw [colL, colL_ret G xs]; rfl
theorem colL_if (P : Nat → Prop) [DecidablePred P] (G : Nat → D) : ∀ l : List Nat, colL (fun i => M.ret (if P i then some (G i) else none)) l = M.ret ((l.filter fun i => decide (P i)).map G)
  | [] => rfl
  | x :: xs => by
    rw [colL, colL_if P G xs, List.filter_cons]
    by_cases h : P x
    · simp [h]
    · simp [h]
theorem collect_N (g : D → M (Option D)) (n : Nat) (F : Nat → D) : collect g ((List.range n).map F) = colN n fun i _ => g (F i) := by
  rw [colN_L n fun i => g (F i), collect_L]
@[simp] theorem colN_ret (n : Nat) (G : Nat → D) : colN n (fun i _ => M.ret (some (G i))) = M.ret ((List.range n).map G) := by
  rw [colN_L n fun i => M.ret (some (G i)), colL_ret]
@[simp] theorem colN_if (n : Nat) (P : Nat → Prop) [DecidablePred P] (G : Nat → D) : colN n (fun i _ => M.ret (if P i then some (G i) else none)) = M.ret (((List.range n).filter fun i => decide (P i)).map G) := by
  rw [colN_L n fun i => M.ret (if P i then some (G i) else none), colL_if]
@[simp] theorem colN_ifn (n : Nat) (P : Nat → Prop) [DecidablePred P] (G : Nat → D) : colN n (fun i _ => M.ret (if P i then none else some (G i))) = M.ret (((List.range n).filter fun i => !decide (P i)).map G) := by
  rw [colN_L n fun i => M.ret (if P i then none else some (G i))]
  induction List.range n with
  | nil => rfl
  | cons x xs ih =>
    rw [colL, ih, List.filter_cons]
    by_cases h : P x
    · simp [h]
    · simp [h]
@[simp] theorem colN_none (n : Nat) : colN n (fun _ _ => M.ret none) = M.ret [] := by
  rw [colN_L n fun _ => M.ret none]
  induction List.range n with
  | nil => rfl
  | cons x xs ih => rw [colL, ih]; rfl
/-- over the chosen items of a count -/
def colF (n : Nat) (P : Nat → Bool) (g : (i : Nat) → i < n → M (Option D)) : M (List D) := colL (fun i => if h : i < n then g i h else .no) ((List.range n).filter P)
theorem colF_L (n : Nat) (P : Nat → Bool) (g : Nat → M (Option D)) : colF n P (fun i _ => g i) = colL g ((List.range n).filter P) := colL_ext fun i hi => dif_pos (List.mem_range.mp (List.mem_filter.mp hi).1)
theorem collect_F (g : D → M (Option D)) (n : Nat) (P : Nat → Bool) (F : Nat → D) : collect g (((List.range n).filter P).map F) = colF n P fun i _ => g (F i) := by
  rw [colF_L n P fun i => g (F i), collect_L]
@[simp] theorem colF_ret (n : Nat) (Q : Nat → Bool) (G : Nat → D) : colF n Q (fun i _ => M.ret (some (G i))) = M.ret (((List.range n).filter Q).map G) := by
  rw [colF_L n Q fun i => M.ret (some (G i)), colL_ret]
@[simp] theorem colF_if (n : Nat) (Q : Nat → Bool) (P : Nat → Prop) [DecidablePred P] (G : Nat → D) : colF n Q (fun i _ => M.ret (if P i then some (G i) else none)) = M.ret (((List.range n).filter fun i => decide (P i) && Q i).map G) := by
  rw [colF_L n Q fun i => M.ret (if P i then some (G i) else none), colL_if, List.filter_filter]
def colT {γ : Type} (g : γ → M (Option D)) : List γ → M (List D)
  | [] => .ret []
  | x :: xs => M.seq (g x) fun o => M.seq (colT g xs) fun ys => .ret (match o with | some y => y :: ys | none => ys)
theorem colT_map {γ δ : Type} (g : γ → M (Option D)) (h : δ → γ) : ∀ l : List δ, colT g (l.map h) = colT (fun x => g (h x)) l
  | [] => rfl
  | x :: xs => by rw [List.map_cons, colT, colT_map g h xs]; rfl
def colG {γ : Type} (l : List γ) (g : (x : γ) → x ∈ l → M (Option D)) : M (List D) := colT (fun x : {x : γ // x ∈ l} => g x.1 x.2) l.attach
theorem colG_T {γ : Type} (l : List γ) (g : γ → M (Option D)) : colG l (fun x _ => g x) = colT g l := by
  show colT (fun x : {x : γ // x ∈ l} => g x.1) l.attach = _
  rw [← colT_map g Subtype.val, List.attach_map_subtype_val]
theorem collect_G {γ : Type} (g : D → M (Option D)) (l : List γ) (F : γ → D) : collect g (l.map F) = colG l fun i _ => g (F i) := by
  rw [colG_T l fun i => g (F i)]
  induction l with
  | nil => rfl
  | cons x xs ih => rw [List.map_cons, collect, ih]; rfl
@[simp] theorem colG_ret {γ : Type} (l : List γ) (G : γ → D) : colG l (fun i _ => M.ret (some (G i))) = M.ret (l.map G) := by
  rw [colG_T l fun i => M.ret (some (G i))]
  induction l with
  | nil => rfl
  | cons x xs ih => rw [colT, ih]; rfl
def col2L (g : Nat → M (List D)) : List Nat → M (List D)
  | [] => .ret []
  | x :: xs => M.seq (g x) fun o => M.seq (col2L g xs) fun ys => .ret (o ++ ys)
theorem col2L_ext {g h : Nat → M (List D)} : ∀ {l : List Nat}, (∀ i, i ∈ l → g i = h i) → col2L g l = col2L h l
  | [], _ => rfl
  | x :: xs, e => by rw [col2L, col2L, e x (by simp), col2L_ext fun i hi => e i (by simp [hi])]
def col2N (n : Nat) (g : (i : Nat) → i < n → M (List D)) : M (List D) := col2L (fun i => if h : i < n then g i h else .no) (List.range n)
theorem col2N_L (n : Nat) (g : Nat → M (List D)) : col2N n (fun i _ => g i) = col2L g (List.range n) := col2L_ext fun i hi => dif_pos (List.mem_range.mp hi)
theorem collect2_N (g : D → M (List D)) (n : Nat) (F : Nat → D) : collect2 g ((List.range n).map F) = col2N n fun i _ => g (F i) := by
  rw [col2N_L n fun i => g (F i)]
  induction List.range n with
  | nil => rfl
  | cons x xs ih => rw [List.map_cons, collect2, ih]; rfl
@[simp] theorem col2N_ret (n : Nat) (G : Nat → List D) : col2N n (fun i _ => M.ret (G i)) = M.ret ((List.range n).flatMap G) := by
  rw [col2N_L n fun i => M.ret (G i)]
  induction List.range n with
  | nil => rfl
  | cons x xs ih => rw [col2L, ih]; rfl
@[simp] theorem ok_1000 {α : Sort _} {n : Nat} {a b : α} (h : n ≤ 1000) : (if n ≤ 1000 then a else b) = a := if_pos h
theorem count_range (n : Nat) : count 0 1 n = (List.range n).map fun (i : Nat) => D.int i := by
  have go : ∀ (k n : Nat), count (k : Int) 1 n = (List.range' k n).map fun (i : Nat) => D.int i := by
    intro k n
    induction n generalizing k with
    | zero => rfl
    | succ n ih => rw [count, List.range'_succ, List.map_cons, ← ih (k + 1)]; rfl
  rw [List.range_eq_range', ← go]; rfl
theorem numbered_range (n : Nat) (F : Nat → D) : numbered 0 ((List.range n).map F) = (List.range n).map fun (i : Nat) => D.tup [.int i, F i] := by
  have go : ∀ (k n : Nat), numbered (k : Int) ((List.range' k n).map F) = (List.range' k n).map fun (i : Nat) => D.tup [.int i, F i] := by
    intro k n
    induction n generalizing k with
    | zero => rfl
    | succ n ih => rw [List.range'_succ, List.map_cons, List.map_cons, numbered, ← ih (k + 1)]; rfl
  rw [List.range_eq_range', ← go]; rfl
theorem pairs_range (n : Nat) (F G : Nat → D) : pairs ((List.range n).map F) ((List.range n).map G) = (List.range n).map fun (i : Nat) => D.tup [F i, G i] := by
  induction List.range n with
  | nil => rfl
  | cons x xs ih => rw [List.map_cons, List.map_cons, List.map_cons, pairs, ih]
@[simp] theorem seqOf_tb (n : Nat) (F : Nat → D) : seqOf (tb n F) = M.ret ((List.range n).map F) := rfl
@[simp] theorem seqOf_ls (n : Nat) (F : Nat → D) : seqOf (ls n F) = M.ret ((List.range n).map F) := rfl
@[simp] theorem seqOf_fl (xs : List D) : seqOf (.fl xs) = M.ret xs := rfl
@[simp] theorem seqOf_tup (xs : List D) : seqOf (.tup xs) = M.ret xs := rfl
@[simp] theorem tfOf_tb (n : Nat) (F : Nat → D) : tfOf (tb n F) = M.ret ((List.range n).map F) := rfl
@[simp] theorem tfOf_ls (n : Nat) (F : Nat → D) : tfOf (ls n F) = M.ret ((List.range n).map F) := rfl
@[simp] theorem nth_nat {α : Type} (xs : List α) (i : Nat) : nth xs (i : Int) = xs[i]? := by
  unfold nth ix
  by_cases h : i < xs.length
  · simp [h]
  · simp [h]
@[simp high] theorem nth_last {α : Type} (xs : List α) (y : α) : nth (xs ++ [y]) (-1) = some y := by
  unfold nth ix
  have h1 : ¬ (0 : Int) ≤ -1 := by omega
  have h2 : -((xs ++ [y]).length : Int) ≤ -1 := by simp; omega
  rw [if_neg h1, if_pos h2]
  have h3 : (-1 + ((xs ++ [y]).length : Int)).toNat = xs.length := by simp; omega
  rw [Option.bind_some, h3]
  simp
@[simp] theorem nth_c0 {α : Type} (a : α) (xs : List α) : nth (a :: xs) 0 = some a := by
  have := nth_nat (a :: xs) 0
  simpa using this
@[simp] theorem nth_c1 {α : Type} (a b : α) (xs : List α) : nth (a :: b :: xs) 1 = some b := by
  have := nth_nat (a :: b :: xs) 1
  simpa using this
@[simp] theorem nth_c2 {α : Type} (a b c : α) (xs : List α) : nth (a :: b :: c :: xs) 2 = some c := by
  have := nth_nat (a :: b :: c :: xs) 2
  simpa using this
@[simp] theorem nth_c3 {α : Type} (a b c d : α) (xs : List α) : nth (a :: b :: c :: d :: xs) 3 = some d := by
  have := nth_nat (a :: b :: c :: d :: xs) 3
  simpa using this
@[simp] theorem op2_pow {i : Int} {k : Nat} (h : i.natAbs < 18446744073709551616) (h2 : k ≤ 1000) : op2 .pow (.int i) (.int k) = M.ret (.int (i ^ k)) := by
  show (if (0 : Int) ≤ (k : Int) ∧ (k : Int) ≤ 1000 ∧ i.natAbs < 2 ^ 64 then M.ret (D.int (i ^ (k : Int).toNat)) else .no) = _
  rw [if_pos ⟨by omega, by omega, h⟩, Int.toNat_natCast]
@[simp] theorem getI_tup (xs : List D) (j : Int) : getI (.tup xs) (.int j) = M.opt (nth xs j) := rfl
@[simp] theorem getI_fl (xs : List D) (j : Int) : getI (.fl xs) (.int j) = M.opt (nth xs j) := rfl
@[simp] theorem getI_tb {n i : Nat} (F : Nat → D) (h : i < n) : getI (tb n F) (.int i) = M.ret (F i) := by
  unfold tb
  rw [getI_tup, nth_nat]
  simp [h]
@[simp] theorem getI_ls {n i : Nat} (F : Nat → D) (h : i < n) : getI (ls n F) (.int i) = M.ret (F i) := by
  unfold ls
  rw [getI_fl, nth_nat]
  simp [h]
@[simp] theorem getI_tb0 {n : Nat} (F : Nat → D) (h : 0 < n) : getI (tb n F) (.int 0) = M.ret (F 0) := getI_tb F h
@[simp] theorem getI_ls0 {n : Nat} (F : Nat → D) (h : 0 < n) : getI (ls n F) (.int 0) = M.ret (F 0) := getI_ls F h
@[simp] theorem getI_tb1 {n : Nat} (F : Nat → D) (h : 1 < n) : getI (tb n F) (.int 1) = M.ret (F 1) := getI_tb F h
@[simp] theorem len_tb (n : Nat) (F : Nat → D) : bi .len [tb n F] = M.ret (.int n) := by
  show M.ret _ = _
  simp
@[simp] theorem len_ls (n : Nat) (F : Nat → D) : bi .len [ls n F] = M.ret (.int n) := by
  show M.ret _ = _
  simp
@[simp] theorem len_tup (xs : List D) : bi .len [.tup xs] = M.ret (.int xs.length) := rfl
@[simp] theorem len_fl (xs : List D) : bi .len [.fl xs] = M.ret (.int xs.length) := rfl
theorem rfs_map {F : Nat → D} (h : ∀ i, (F i).rf = true) (l : List Nat) : D.rfs (l.map F) = true := by
  induction l with
  | nil => rfl
  | cons x xs ih => rw [List.map_cons, D.rfs, h, ih]; rfl
theorem rf_tb {n : Nat} {F : Nat → D} (h : ∀ i, (F i).rf = true) : (tb n F).rf = true := rfs_map h _
theorem rf_ls {n : Nat} {F : Nat → D} (h : ∀ i, (F i).rf = true) : (ls n F).rf = true := rfs_map h _
theorem deeps_map {n : Nat} {F : Nat → D} (h : ∀ i, D.deep n (F i) = true) (l : List Nat) : D.deeps n (l.map F) = true := by
  induction l with
  | nil => rfl
  | cons x xs ih => rw [List.map_cons, D.deeps, h, ih]; rfl
theorem deep_tb {n k : Nat} {F : Nat → D} (h : ∀ i, D.deep n (F i) = true) : D.deep (n + 1) (tb k F) = true := deeps_map h _
theorem deep_ls {n k : Nat} {F : Nat → D} (h : ∀ i, D.deep n (F i) = true) : D.deep (n + 1) (ls k F) = true := deeps_map h _
@[simp] theorem isTy_tb (n : Nat) (F : Nat → D) (t : Ty) : isTy t (tb n F) = M.ret (.bl (isSub .tuple t)) := rfl
@[simp] theorem isTy_ls (n : Nat) (F : Nat → D) (t : Ty) : isTy t (ls n F) = M.ret (.bl (isSub .list t)) := rfl
@[simp] theorem isTy_tup (xs : List D) (t : Ty) : isTy t (.tup xs) = M.ret (.bl (isSub .tuple t)) := rfl
@[simp] theorem isTy_fl (xs : List D) (t : Ty) : isTy t (.fl xs) = M.ret (.bl (isSub .list t)) := rfl
@[simp] theorem isTy_int (i : Int) (t : Ty) : isTy t (.int i) = M.ret (.bl (isSub .int t)) := rfl
@[simp] theorem isTy_bl (i : Bool) (t : Ty) : isTy t (.bl i) = M.ret (.bl (isSub .bool t)) := rfl
@[simp] theorem isTy_non (t : Ty) : isTy t .non = M.ret (.bl (isSub .none t)) := rfl
/-- a run that returns d -/
def Ret (d : D) (f : Fl) (S : Store) : Prop := f = .rt d ∨ (d = .non ∧ ∃ e, f = .nx e)
theorem ret_rt {d e : D} {S : Store} (h : e = d) : Pst (.ok (.rt e) S) (Ret d) := ⟨_, _, rfl, .inl (by rw [h])⟩
theorem ret_nx {r : Env} {S : Store} : Pst (.ok (.nx r) S) (Ret .non) := ⟨_, _, rfl, .inr ⟨rfl, r, rfl⟩⟩
theorem ev_of {fs : List F} {gl : List D} {n f : Nat} {ds : List D} {r : D} (g : F) (hf : fs[f]? = some g) (hl : ds.length = g.ps) (hd : D.rfs ds = true) (hr : r.rf = true)
    (h : Pst (evalSs (callF fs gl n) gl g.body (start g.ns ds) []) (Ret r)) : callR (callF fs gl (n + 1) f) ds = M.ret r := funext fun S => by
  obtain ⟨fl, q, e, h⟩ := h
  refine callR_rf (q := q) hd ?_ hr S
  rw [callF, hf]
  show runF _ _ _ _ _ = _
  rw [runF_eq hl, e]
  rcases h with h | ⟨h, r', h2⟩
  · subst h; rfl
  · subst h; subst h2; rfl
end EW
namespace EW
open EV
@[simp] theorem blOf_bl (b : Bool) : blOf (.bl b) = M.ret b := rfl
@[simp] theorem intOf_int (b : Int) : intOf (.int b) = M.ret b := rfl
@[simp] theorem ite_bl (P : Prop) [Decidable P] (a b : Bool) : (if P then D.bl a else D.bl b) = D.bl (if P then a else b) := by split <;> rfl
@[simp] theorem ite_int (P : Prop) [Decidable P] (a b : Int) : (if P then D.int a else D.int b) = D.int (if P then a else b) := by split <;> rfl
@[simp] theorem ite_some (P : Prop) [Decidable P] (a b : D) : (if P then some a else some b) = some (if P then a else b) := by split <;> rfl
@[simp] theorem calm_no {α : Type} : M.calm (M.no : M α) = M.no := rfl
@[simp] theorem cm_lt (i j : Int) : cm .lt (.int i) (.int j) = M.ret (.bl (decide (i < j))) := rfl
@[simp] theorem cm_le (i j : Int) : cm .le (.int i) (.int j) = M.ret (.bl (decide (i ≤ j))) := rfl
@[simp] theorem cm_gt (i j : Int) : cm .gt (.int i) (.int j) = M.ret (.bl (decide (j < i))) := rfl
@[simp] theorem cm_ge (i j : Int) : cm .ge (.int i) (.int j) = M.ret (.bl (decide (j ≤ i))) := rfl
@[simp] theorem cm_eq_int (i j : Int) : cm .eq (.int i) (.int j) = M.ret (.bl (decide (i = j))) := rfl
@[simp] theorem cm_ne_int (i j : Int) : cm .ne (.int i) (.int j) = M.ret (.bl (!decide (i = j))) := rfl
@[simp] theorem cm_eq_bl (i j : Bool) : cm .eq (.bl i) (.bl j) = M.ret (.bl (i == j)) := rfl
@[simp] theorem cm_ne_bl (i j : Bool) : cm .ne (.bl i) (.bl j) = M.ret (.bl (!(i == j))) := rfl
@[simp] theorem cm_isN_non : cm .isN .non .non = M.ret (.bl true) := rfl
@[simp] theorem cm_isN_int (i : Int) : cm .isN (.int i) .non = M.ret (.bl false) := rfl
@[simp] theorem cm_isN_bl (i : Bool) : cm .isN (.bl i) .non = M.ret (.bl false) := rfl
@[simp] theorem cm_isN_tup (xs : List D) : cm .isN (.tup xs) .non = M.ret (.bl false) := rfl
@[simp] theorem cm_isN_fl (xs : List D) : cm .isN (.fl xs) .non = M.ret (.bl false) := rfl
@[simp] theorem cm_isN_tb (n : Nat) (F : Nat → D) : cm .isN (tb n F) .non = M.ret (.bl false) := rfl
@[simp] theorem cm_isN_ls (n : Nat) (F : Nat → D) : cm .isN (ls n F) .non = M.ret (.bl false) := rfl
@[simp] theorem cm_notN_non : cm .notN .non .non = M.ret (.bl false) := rfl
@[simp] theorem cm_notN_tup (xs : List D) : cm .notN (.tup xs) .non = M.ret (.bl true) := rfl
@[simp] theorem cm_isT (b : Bool) : cm .isT (.bl b) (.bl true) = M.ret (.bl b) := rfl
@[simp] theorem cm_notT (b : Bool) : cm .notT (.bl b) (.bl true) = M.ret (.bl (!b)) := rfl
theorem cm_eq {x y : D} (hx : D.deep 30 x = true) (hy : D.deep 30 y = true) : cm .eq x y = M.ret (.bl (D.eq x y)) := by
  show (if D.deep 30 x && D.deep 30 y then M.ret (D.bl (D.eq x y)) else M.no) = _
  rw [hx, hy]; rfl
theorem cm_ne {x y : D} (hx : D.deep 30 x = true) (hy : D.deep 30 y = true) : cm .ne x y = M.ret (.bl (!D.eq x y)) := by
  show (if D.deep 30 x && D.deep 30 y then M.ret (D.bl (!D.eq x y)) else M.no) = _
  rw [hx, hy]; rfl
theorem cm_mem_tb {x : D} {n : Nat} {F : Nat → D} (hx : D.deep 30 x = true) (hy : ∀ i, D.deep 30 (F i) = true) : cm .mem x (tb n F) = M.ret (.bl (memD x ((List.range n).map F))) := by
  have : D.deeps 30 ((List.range n).map F) = true := deeps_map hy _
  show (M.seq (M.ret ((List.range n).map F)) fun ys => if D.deep 30 x && D.deeps 30 ys then M.ret (D.bl (memD x ys)) else M.no) = _
  rw [M.seq_ret, hx, this]; rfl
theorem cm_mem_fl {x : D} {xs : List D} (hx : D.deep 30 x = true) (hy : D.deeps 30 xs = true) : cm .mem x (.fl xs) = M.ret (.bl (memD x xs)) := by
  show (M.seq (M.ret xs) fun ys => if D.deep 30 x && D.deeps 30 ys then M.ret (D.bl (memD x ys)) else M.no) = _
  rw [M.seq_ret, hx, hy]; rfl
theorem cm_mem_tup {x : D} {xs : List D} (hx : D.deep 30 x = true) (hy : D.deeps 30 xs = true) : cm .mem x (.tup xs) = M.ret (.bl (memD x xs)) := by
  show (M.seq (M.ret xs) fun ys => if D.deep 30 x && D.deeps 30 ys then M.ret (D.bl (memD x ys)) else M.no) = _
  rw [M.seq_ret, hx, hy]; rfl
@[simp] theorem get0 {α : Type} (x : α) (xs : List α) : (x :: xs)[0]? = some x := rfl
@[simp] theorem get1 {α : Type} (x : α) (xs : List α) (n : Nat) : (x :: xs)[n + 1]? = xs[n]? := rfl
theorem big_small {i : Int} (h : i.natAbs < 18446744073709551616) : big i < 64 := by
  unfold big
  by_cases h0 : i.natAbs = 0
  · rw [h0]; decide
  · exact (Nat.log2_lt h0).mpr h
@[simp] theorem op2_add (i j : Int) : op2 .add (.int i) (.int j) = M.ret (.int (i + j)) := rfl
@[simp] theorem op2_sub (i j : Int) : op2 .sub (.int i) (.int j) = M.ret (.int (i - j)) := rfl
@[simp] theorem op2_mul {i j : Int} (h : i.natAbs < 18446744073709551616) (h2 : j.natAbs < 18446744073709551616) : op2 .mul (.int i) (.int j) = M.ret (.int (i * j)) :=
  if_pos (by have := big_small h; have := big_small h2; omega)
@[simp] theorem op2_mod {i j : Int} (h : 0 < j) : op2 .mod (.int i) (.int j) = M.ret (.int (i % j)) := if_pos h
@[simp] theorem op2_fdiv {i j : Int} (h : 0 < j) (h2 : j.natAbs < 18446744073709551616) : op2 .fdiv (.int i) (.int j) = M.ret (.int (i / j)) :=
  if_pos ⟨h, by have := big_small h2; omega⟩
@[simp] theorem op2_add_fl {x y : List D} (h : x.length + y.length ≤ 16000000) : op2 .add (.fl x) (.fl y) = M.ret (.fl (x ++ y)) := if_pos h
@[simp] theorem op2_rep_fl {x : List D} {k : Nat} (h : k < 1000) (h2 : x.length ≤ 1000) : op2 .mul (.fl x) (.int k) = M.ret (.fl (List.replicate k x).flatten) := by
  show (if (0 : Int) ≤ (k : Int) ∧ (k : Int) < 1000 ∧ x.length ≤ 1000 then M.ret (D.fl (List.replicate (k : Int).toNat x).flatten) else .no) = _
  rw [if_pos ⟨by omega, by omega, h2⟩, Int.toNat_natCast]
@[simp] theorem op2_rep_tup1 (x : D) {k : Nat} (h : 1 ≤ k) (h2 : k ≤ 1000) : op2 .mul (.tup [x]) (.int k) = M.ret (tb k fun _ => x) := by
  have e : tb k (fun _ => x) = .tup (List.replicate k x) := by
    unfold tb
    rw [List.map_const', List.length_range]
  rw [e]
  show (if 2 ≤ (k : Int) ∧ (k : Int) ≤ 1000 ∧ [x].length ≤ 1000 ∧ [x] ≠ [] then M.ret (D.tup (List.replicate (k : Int).toNat [x]).flatten) else if (k : Int) = 1 then M.ret (.tup [x]) else .no) = _
  by_cases h1 : k = 1
  · subst h1
    rw [if_neg (by omega), if_pos (by rfl)]
    rfl
  · rw [if_pos ⟨by omega, by omega, by simp, by simp⟩, Int.toNat_natCast]
    congr 1
    have : ∀ k : Nat, (List.replicate k [x]).flatten = List.replicate k x := by
      intro k
      induction k with
      | zero => rfl
      | succ k ih => rw [List.replicate_succ, List.flatten_cons, ih]; rfl
    rw [this]
@[simp] theorem line_ok {α : Sort _} {n : Nat} {a b : α} (h : n ≤ 16000000) : (if n ≤ 16000000 then a else b) = a := if_pos h
@[simp] theorem line_lt {α : Sort _} {n : Nat} {a b : α} (h : n < 16000000) : (if n < 16000000 then a else b) = a := if_pos h
@[simp] theorem line_okI {α : Sort _} {n : Int} {a b : α} (h : n ≤ 16000000) : (if n ≤ 16000000 then a else b) = a := if_pos h
@[simp] theorem line_ok2 {α : Sort _} {n m : Nat} {a b : α} (h : n + m ≤ 16000000) : (if n + m ≤ 16000000 then a else b) = a := if_pos h
@[simp] theorem rf_int (i : Int) : (D.int i).rf = true := rfl
@[simp] theorem rf_bl (i : Bool) : (D.bl i).rf = true := rfl
@[simp] theorem rf_non : D.non.rf = true := rfl
@[simp] theorem rf_tup (xs : List D) : (D.tup xs).rf = D.rfs xs := rfl
@[simp] theorem rf_fl (xs : List D) : (D.fl xs).rf = D.rfs xs := rfl
@[simp] theorem rfs_nil : D.rfs [] = true := rfl
@[simp] theorem rfs_cons (x : D) (xs : List D) : D.rfs (x :: xs) = (x.rf && D.rfs xs) := rfl
@[simp] theorem deep_int (n : Nat) (i : Int) : D.deep (n + 1) (D.int i) = true := rfl
@[simp] theorem deep_bl (n : Nat) (i : Bool) : D.deep (n + 1) (D.bl i) = true := rfl
@[simp] theorem deep_non (n : Nat) : D.deep (n + 1) D.non = true := rfl
@[simp] theorem deep_tup (n : Nat) (xs : List D) : D.deep (n + 1) (D.tup xs) = D.deeps n xs := rfl
@[simp] theorem deep_fl (n : Nat) (xs : List D) : D.deep (n + 1) (D.fl xs) = D.deeps n xs := rfl
@[simp] theorem deeps_nil (n : Nat) : D.deeps n [] = true := by cases n <;> rfl
@[simp] theorem deeps_cons (n : Nat) (x : D) (xs : List D) : D.deeps n (x :: xs) = (D.deep n x && D.deeps n xs) := by cases n <;> rfl
theorem rfs_all (F : Nat → D) (l : List Nat) : D.rfs (l.map F) = l.all fun i => (F i).rf := by
  induction l with
  | nil => rfl
  | cons x xs ih => rw [List.map_cons, D.rfs, ih]; rfl
@[simp] theorem rf_tbg (n : Nat) (F : Nat → D) : (tb n F).rf = (List.range n).all fun i => (F i).rf := rfs_all F _
@[simp] theorem rf_lsg (n : Nat) (F : Nat → D) : (ls n F).rf = (List.range n).all fun i => (F i).rf := rfs_all F _
theorem deeps_all (n : Nat) (F : Nat → D) (l : List Nat) : D.deeps n (l.map F) = l.all fun i => D.deep n (F i) := by
  induction l with
  | nil => simp
  | cons x xs ih => rw [List.map_cons, deeps_cons, ih]; rfl
@[simp] theorem deep_tbg (n m : Nat) (F : Nat → D) : D.deep (n + 1) (tb m F) = (List.range m).all fun i => D.deep n (F i) := deeps_all n F _
@[simp] theorem deep_lsg (n m : Nat) (F : Nat → D) : D.deep (n + 1) (ls m F) = (List.range m).all fun i => D.deep n (F i) := deeps_all n F _
@[simp] theorem fl_map (n : Nat) (G : Nat → D) : D.fl ((List.range n).map G) = ls n G := rfl
@[simp] theorem tup_map (n : Nat) (G : Nat → D) : D.tup ((List.range n).map G) = tb n G := rfl
@[simp] theorem bi_tuple_ls (n : Nat) (G : Nat → D) : bi .tuple [ls n G] = M.ret (tb n G) := rfl
@[simp] theorem bi_tuple_tb (n : Nat) (G : Nat → D) : bi .tuple [tb n G] = M.ret (tb n G) := rfl
@[simp] theorem bi_tuple_fl (xs : List D) : bi .tuple [.fl xs] = M.ret (.tup xs) := rfl
@[simp] theorem bi_tuple_tup (xs : List D) : bi .tuple [.tup xs] = M.ret (.tup xs) := rfl
@[simp] theorem bi_int_int (i : Int) : bi .int [.int i] = M.ret (.int i) := rfl
@[simp] theorem bi_int_bl (b : Bool) : bi .int [.bl b] = M.ret (.int (if b then 1 else 0)) := rfl
@[simp] theorem bi_abs (i : Int) : bi .abs [.int i] = M.ret (.int (if i < 0 then -i else i)) := rfl
@[simp] theorem bi_gcd (i j : Int) : bi .gcd [.int i, .int j] = M.ret (.int (Nat.gcd i.natAbs j.natAbs : Nat)) := rfl
@[simp] theorem bi_max2 (i j : Int) : bi .max2 [.int i, .int j] = M.ret (.int (if j > i then j else i)) := rfl
@[simp] theorem bi_min2 (i j : Int) : bi .min2 [.int i, .int j] = M.ret (.int (if j < i then j else i)) := rfl
theorem all_map {P : Nat → Bool} {l : List Nat} (h : ∀ i, i ∈ l → P i = true) : bi .all [.fl (l.map fun i => D.bl (P i))] = M.ret (.bl true) := by
  have : ∀ l : List Nat, (∀ i, i ∈ l → P i = true) → ∃ bs, blsOf (l.map fun i => D.bl (P i)) = some bs ∧ bs.all id = true := by
    intro l
    induction l with
    | nil => intro _; exact ⟨[], rfl, rfl⟩
    | cons x xs ih =>
      intro h
      obtain ⟨bs, e, a⟩ := ih fun i hi => h i (by simp [hi])
      exact ⟨P x :: bs, by rw [List.map_cons, blsOf, e]; rfl, by simp [h x (by simp)]; simpa using a⟩
  obtain ⟨bs, e, a⟩ := this l h
  show (match blsOf (l.map fun i => D.bl (P i)) with | some bs => M.ret (D.bl (bs.all id)) | none => M.no) = _
  rw [e]
  dsimp only
  rw [a]
theorem all_ls {n : Nat} {P : Nat → Bool} (h : ∀ i, i < n → P i = true) : bi .all [ls n fun i => D.bl (P i)] = M.ret (.bl true) := all_map fun i hi => h i (List.mem_range.mp hi)
theorem all_gen {P : Nat → Bool} (l : List Nat) : bi .all [.fl (l.map fun i => D.bl (P i))] = M.ret (.bl (l.all P)) := by
  have : ∀ l : List Nat, blsOf (l.map fun i => D.bl (P i)) = some (l.map P) := by
    intro l
    induction l with
    | nil => rfl
    | cons x xs ih => rw [List.map_cons, blsOf, ih]; rfl
  show (match blsOf (l.map fun i => D.bl (P i)) with | some bs => M.ret (D.bl (bs.all id)) | none => M.no) = _
  rw [this]
  simp [List.all_map]
@[simp] theorem all_lsg (n : Nat) (P : Nat → Bool) : bi .all [ls n fun i => D.bl (P i)] = M.ret (.bl ((List.range n).all P)) := all_gen _
@[simp] theorem all_fl (bs : List Bool) : bi .all [.fl (bs.map D.bl)] = M.ret (.bl (bs.all id)) := by
  have : blsOf (bs.map D.bl) = some bs := by
    induction bs with
    | nil => rfl
    | cons x xs ih => rw [List.map_cons, blsOf, ih]; rfl
  show (match blsOf (bs.map D.bl) with | some bs => M.ret (D.bl (bs.all id)) | none => M.no) = _
  rw [this]
end EW
namespace EW
end EW
namespace EW
open EV
/-- a loop over the images of a list, then the rest -/
theorem lpM {γ : Type} {g : D → Env → MS} {Q : Fl → Store → Prop} {emb : γ → D} {k : Env → Store → RS} {xs : List γ} {r : Env} {S : Store} (I : List γ → Env → Store → Prop) (h0 : I xs r S)
    (hs : ∀ x xs r S (P : Fl → Store → Prop), I (x :: xs) r S → (∀ r' S', I xs r' S' → P (.nx r') S') → (∀ r' S', I xs r' S' → P (.ct r') S') → (∀ d S', Q (.rt d) S' → P (.rt d) S') → Pst (g (emb x) r S) P)
    (hn : ∀ r S, I [] r S → Pst (k r S) Q) : Pst (bnd (EV.loop g (xs.map emb) r S) k) Q := by
  refine Pst.bnd (Pst.loopM I h0 (fun x xs r S h => hs x xs r S _ h ?_ ?_ ?_) hn)
  · exact fun r' S' h => h
  · exact fun r' S' h => h
  · exact fun d S' h => h
/-- a loop over a count, then the rest -/
theorem lpN {g : D → Env → MS} {Q : Fl → Store → Prop} {n : Nat} {F : Nat → D} {k : Env → Store → RS} {r : Env} {S : Store} (I : Nat → Env → Store → Prop) (h0 : I 0 r S)
    (hs : ∀ i, i < n → ∀ r S (P : Fl → Store → Prop), I i r S → (∀ r' S', I (i + 1) r' S' → P (.nx r') S') → (∀ r' S', I (i + 1) r' S' → P (.ct r') S') → (∀ d S', Q (.rt d) S' → P (.rt d) S') → Pst (g (F i) r S) P)
    (hn : ∀ r S, I n r S → Pst (k r S) Q) : Pst (bnd (EV.loop g ((List.range n).map F) r S) k) Q := by
  refine Pst.bnd (Pst.loop I h0 (fun i hi r S h => hs i hi r S _ h ?_ ?_ ?_) hn)
  · exact fun r' S' h => h
  · exact fun r' S' h => h
  · exact fun d S' h => h
/-- a while loop, then the rest -/
theorem spW {c : Env → M Bool} {g : Env → MS} {Q : Fl → Store → Prop} {k : Env → Store → RS} {m : Nat} {r : Env} {S : Store} (I : Nat → Env → Store → Prop) (j : Nat) (hj : j < m) (h0 : I j r S)
    (hs : ∀ j r S, I j r S → (c r S = .ok false S ∧ Pst (k r S) Q) ∨ (c r S = .ok true S ∧ ∀ P : Fl → Store → Prop, (∀ i r' S', i < j → I i r' S' → P (.nx r') S') → Pst (g r S) P)) :
    Pst (bnd (EV.spin c g m r S) k) Q := by
  refine Pst.bnd (Pst.spin I j m r S hj h0 (fun j r S h => ?_))
  rcases hs j r S h with ⟨e, q⟩ | ⟨e, q⟩
  · exact .inl ⟨e, q⟩
  · exact .inr ⟨e, q _ fun i r' S' hi h => ⟨i, hi, h⟩⟩
end EW
namespace EW
open EV
def idxD (x : D) (m : M D) : M D := match x with
  | .fl xs => M.seq m fun y => if D.deep 30 y && D.deeps 30 xs then .opt ((xs.findIdx? fun z => D.eq z y).map fun (k : Nat) => D.int k) else .no
  | _ => .no
@[simp ↓ high] theorem evalE_index (call : Nat → List D → M D) (gl : List D) (a e : E) (r : Env) : evalE call gl (.index a e) r = M.seq (evalE call gl a r) fun x => idxD x (evalE call gl e r) := by
  rw [evalE]; rfl
theorem idxD_ls {n i : Nat} {F : Nat → D} {y : D} (hy : D.deep 30 y = true) (hF : ∀ i, D.deep 30 (F i) = true) (h : D.eq (F i) y = true) (hi : i < n) (hn : ∀ j, j < i → D.eq (F j) y = false) : idxD (ls n F) (M.ret y) = M.ret (.int i) := by
  show (M.seq (M.ret y) fun y => if D.deep 30 y && D.deeps 30 ((List.range n).map F) then M.opt ((((List.range n).map F).findIdx? fun z => D.eq z y).map fun (k : Nat) => D.int k) else .no) = _
  have : ((List.range n).map F).findIdx? (fun z => D.eq z y) = some i := by
    rw [List.findIdx?_eq_some_iff_getElem]
    refine ⟨by simpa using hi, by simpa using h, fun j hj => ?_⟩
    simp [hn j hj]
  rw [M.seq_ret, hy, deeps_map hF, this]
  rfl
end EW
end
section
set_option Elab.async false
set_option linter.all false
set_option maxRecDepth 100000
set_option maxHeartbeats 4000000
/-! k87, part i: checks. -/
namespace K87
open EV EW
theorem x_int (n : Nat) (i : Int) : callR (callF fs gl (n + 1) 6) [.int i] = M.ret (.bl true) := ev_of f6 rfl rfl rfl rfl (by
  dsimp only [f6, start]
  (rw [zz_cons]; simp -implicitDefEqProofs (disch := first | assumption | omega) [evalS, evalE, evalEs, evalL, evalI, evalC, EV.T.bind, wipe, MS.ok, M.seq_ret, line, isSub, ret_app, count_range, numbered_range, pairs_range, collect_N, collect_F, collect2_N, collect, zz_nil])
  exact ret_rt (by first | rfl | simp))
theorem x_between (n : Nat) (i a b : Int) : callR (callF fs gl (n + 2) 19) [.int i, .int a, .int b] = M.ret (.bl (decide (a ≤ i ∧ i ≤ b))) := ev_of f19 rfl rfl rfl rfl (by
  dsimp only [f19, start]
  (rw [zz_cons]; simp -implicitDefEqProofs (disch := first | assumption | omega) [evalS, evalE, evalEs, evalL, evalI, evalC, EV.T.bind, wipe, MS.ok, M.seq_ret, line, isSub, ret_app, count_range, numbered_range, pairs_range, collect_N, collect_F, collect2_N, collect, zz_nil, x_int])
  exact ret_rt (by first | rfl | simp))
/-! games -/
structure Gm where
  r : Nat
  c : Nat
  A : Nat → Nat → Int
  B : Nat → Nat → Int
structure Gm.ok (G : Gm) : Prop where
  r1 : 1 ≤ G.r
  r5 : G.r ≤ 5
  c1 : 1 ≤ G.c
  c5 : G.c ≤ 5
  a : ∀ i j, (G.A i j).natAbs ≤ 100
  b : ∀ i j, (G.B i j).natAbs ≤ 100
def tI (r c : Nat) (A : Nat → Nat → Int) : D := tb r fun i => tb c fun j => .int (A i j)
def lI (r c : Nat) (A : Nat → Nat → Int) : D := ls r fun i => ls c fun j => .int (A i j)
def oD (G : Gm) : D := .obj 0 [2, 1, 0] [tI G.r G.c G.A, tI G.r G.c G.B, .tup [.int G.r, .int G.c]]
@[simp] theorem getI_tI {r c i : Nat} (A : Nat → Nat → Int) (h : i < r) : getI (tI r c A) (.int i) = M.ret (tb c fun j => .int (A i j)) := getI_tb _ h
@[simp] theorem getI_tI0 {r c : Nat} (A : Nat → Nat → Int) (h : 0 < r) : getI (tI r c A) (.int 0) = M.ret (tb c fun j => .int (A 0 j)) := getI_tb _ h
@[simp] theorem getI_lI {r c i : Nat} (A : Nat → Nat → Int) (h : i < r) : getI (lI r c A) (.int i) = M.ret (ls c fun j => .int (A i j)) := getI_ls _ h
@[simp] theorem getI_lI0 {r c : Nat} (A : Nat → Nat → Int) (h : 0 < r) : getI (lI r c A) (.int 0) = M.ret (ls c fun j => .int (A 0 j)) := getI_ls _ h
@[simp] theorem len_tI (r c : Nat) (A : Nat → Nat → Int) : bi .len [tI r c A] = M.ret (.int r) := len_tb _ _
@[simp] theorem len_lI (r c : Nat) (A : Nat → Nat → Int) : bi .len [lI r c A] = M.ret (.int r) := len_ls _ _
@[simp] theorem seqOf_tI (r c : Nat) (A : Nat → Nat → Int) : seqOf (tI r c A) = M.ret ((List.range r).map fun i => tb c fun j => .int (A i j)) := rfl
@[simp] theorem seqOf_lI (r c : Nat) (A : Nat → Nat → Int) : seqOf (lI r c A) = M.ret ((List.range r).map fun i => ls c fun j => .int (A i j)) := rfl
/-- the law's own game -/
def gD (G : Gm) : D := .fl [lI G.r G.c G.A, lI G.r G.c G.B]
@[simp] theorem rf_tI (r c : Nat) (A : Nat → Nat → Int) : (tI r c A).rf = true := rf_tb fun _ => rf_tb fun _ => rfl
@[simp] theorem rf_lI (r c : Nat) (A : Nat → Nat → Int) : (lI r c A).rf = true := rf_ls fun _ => rf_ls fun _ => rfl
@[simp] theorem rf_oD (G : Gm) : (oD G).rf = true := by simp [oD, D.rf]
@[simp] theorem rf_gD (G : Gm) : (gD G).rf = true := by simp [gD]
@[simp] theorem cls_oD (G : Gm) : clsOf (oD G) 0 = M.ret () := by funext S; simp [oD, clsOf, M.ret]
@[simp] theorem fld_oD0 (G : Gm) : fldOf (oD G) 0 = M.ret (.tup [.int G.r, .int G.c]) := by funext S; simp [oD, fldOf, getF, M.ret, M.opt]
@[simp] theorem fld_oD1 (G : Gm) : fldOf (oD G) 1 = M.ret (tI G.r G.c G.B) := by funext S; simp [oD, fldOf, getF, M.ret, M.opt]
@[simp] theorem fld_oD2 (G : Gm) : fldOf (oD G) 2 = M.ret (tI G.r G.c G.A) := by funext S; simp [oD, fldOf, getF, M.ret, M.opt]
@[simp] theorem meth_oD3 (G : Gm) : methOf (oD G) 0 3 = M.ret () := by funext S; simp [oD, methOf, M.ret]
@[simp] theorem meth_oD4 (G : Gm) : methOf (oD G) 0 4 = M.ret () := by funext S; simp [oD, methOf, M.ret]
def Gm.num (G : Gm) (p : Nat) : Nat := if p = 0 then G.r else G.c
def Gm.pay (G : Gm) (p : Nat) : Nat → Nat → Int := if p = 0 then G.A else G.B
/-- own choice, the other's choice -/
def Gm.mat (G : Gm) (p : Nat) : Nat → Nat → Int := fun i j => if p = 0 then G.A i j else G.B j i
theorem x_tup (n : Nat) (xs : List D) (k : Int) (h : D.rfs xs = true) : callR (callF fs gl (n + 1) 5) [.tup xs, .int k] = M.ret (.bl (decide ((xs.length : Int) = k))) :=
  ev_of f5 rfl rfl (by simp [h]) rfl (by
  dsimp only [f5, start]
  (rw [zz_cons]; simp -implicitDefEqProofs (disch := first | assumption | omega) [evalS, evalE, evalEs, evalL, evalI, evalC, EV.T.bind, wipe, MS.ok, M.seq_ret, line, isSub, ret_app, count_range, numbered_range, pairs_range, collect_N, collect_F, collect2_N, collect, zz_nil])
  exact ret_rt (by first | rfl | simp))
theorem x_tupb (n m : Nat) (F : Nat → D) (k : Int) (h : ∀ i, (F i).rf = true) : callR (callF fs gl (n + 1) 5) [tb m F, .int k] = M.ret (.bl (decide ((m : Int) = k))) := by
  rw [tb, x_tup _ _ _ (rfs_map h _)]; simp
theorem x_tupi (n m : Nat) (f : Nat → Int) (k : Int) : callR (callF fs gl (n + 1) 5) [tb m fun j => .int (f j), .int k] = M.ret (.bl (decide ((m : Int) = k))) := x_tupb n m _ k fun _ => rfl
theorem x_matrix (n : Nat) (r c : Nat) (A : Nat → Nat → Int) (hr : 1 ≤ r) (hr5 : r ≤ 5) (hc : 1 ≤ c) (hc5 : c ≤ 5) : callR (callF fs gl (n + 2) 7) [tI r c A, .int 5] = M.ret (.bl true) :=
  ev_of f7 rfl rfl (by simp) rfl (by
  dsimp only [f7, start]
  (rw [zz_cons]; simp -implicitDefEqProofs (disch := first | assumption | omega) [evalS, evalE, evalEs, evalL, evalI, evalC, EV.T.bind, wipe, MS.ok, M.seq_ret, line, isSub, ret_app, count_range, numbered_range, pairs_range, collect_N, collect_F, collect2_N, collect, zz_nil, tI, if_neg, if_pos])
  (rw [zz_cons]; simp -implicitDefEqProofs (disch := first | assumption | omega) [evalS, evalE, evalEs, evalL, evalI, evalC, EV.T.bind, wipe, MS.ok, M.seq_ret, line, isSub, ret_app, count_range, numbered_range, pairs_range, collect_N, collect_F, collect2_N, collect, zz_nil])
  (rw [zz_cons]; simp -implicitDefEqProofs (disch := first | assumption | omega) [evalS, evalE, evalEs, evalL, evalI, evalC, EV.T.bind, wipe, MS.ok, M.seq_ret, line, isSub, ret_app, count_range, numbered_range, pairs_range, collect_N, collect_F, collect2_N, collect, zz_nil, if_neg, if_pos])
  (rw [zz_cons]; simp -implicitDefEqProofs (disch := first | assumption | omega) [evalS, evalE, evalEs, evalL, evalI, evalC, EV.T.bind, wipe, MS.ok, M.seq_ret, line, isSub, ret_app, count_range, numbered_range, pairs_range, collect_N, collect_F, collect2_N, collect, zz_nil, x_tupi, x_int])
  exact ret_rt (by first | rfl | simp))
end K87
namespace K87
open EV EW
theorem x_check_table (n : Nat) (r c : Nat) (A : Nat → Nat → Int) (hr : 1 ≤ r) (hr5 : r ≤ 5) (hc : 1 ≤ c) (hc5 : c ≤ 5) : callR (callF fs gl (n + 3) 8) [tI r c A, .int 5] = M.ret .non :=
  ev_of f8 rfl rfl (by simp) rfl (by
  dsimp only [f8, start]
  (rw [zz_cons]; simp -implicitDefEqProofs (disch := first | assumption | omega) [evalS, evalE, evalEs, evalL, evalI, evalC, EV.T.bind, wipe, MS.ok, M.seq_ret, line, isSub, ret_app, count_range, numbered_range, pairs_range, collect_N, collect_F, collect2_N, collect, zz_nil, x_matrix (n := n) r c A hr hr5 hc hc5])
  exact ret_nx)
@[simp] theorem gl_0 : gl[0]? = some (.int 5) := rfl
@[simp] theorem gl_1 : gl[1]? = some (fr 0) := rfl
@[simp] theorem gl_2 : gl[2]? = some (.int 6) := rfl
@[simp] theorem gl_3 : gl[3]? = some (fr 1) := rfl
@[simp] theorem gl_4 : gl[4]? = some (.int 100) := rfl
/-! machines -/
structure Mach where
  s : Nat
  ch : Nat → Nat
  nx : Nat → Nat → Nat
structure Mach.ok (mc : Mach) (own oth : Nat) : Prop where
  s1 : 1 ≤ mc.s
  s6 : mc.s ≤ 6
  c : ∀ k, k < mc.s → mc.ch k < own
  n : ∀ k, k < mc.s → ∀ j, j < oth → mc.nx k j < mc.s
def stD (o : Nat) (mc : Mach) (k : Nat) : D := .tup [.int (mc.ch k), tb o fun j => .int (mc.nx k j)]
def mD (o : Nat) (mc : Mach) : D := tb mc.s fun k => stD o mc k
@[simp] theorem rf_stD (o : Nat) (mc : Mach) (k : Nat) : (stD o mc k).rf = true := by simp [stD]
@[simp] theorem rf_mD (o : Nat) (mc : Mach) : (mD o mc).rf = true := rf_tb fun _ => by simp
@[simp] theorem getI_mD {o : Nat} {mc : Mach} {k : Nat} (h : k < mc.s) : getI (mD o mc) (.int k) = M.ret (stD o mc k) := getI_tb _ h
@[simp] theorem getI_stD0 (o : Nat) (mc : Mach) (k : Nat) : getI (stD o mc k) (.int 0) = M.ret (.int (mc.ch k)) := rfl
@[simp] theorem getI_stD1 (o : Nat) (mc : Mach) (k : Nat) : getI (stD o mc k) (.int 1) = M.ret (tb o fun j => .int (mc.nx k j)) := rfl
@[simp] theorem len_mD (o : Nat) (mc : Mach) : bi .len [mD o mc] = M.ret (.int mc.s) := len_tb _ _
@[simp] theorem isTy_mD (o : Nat) (mc : Mach) (t : Ty) : isTy t (mD o mc) = M.ret (.bl (isSub .tuple t)) := rfl
@[simp] theorem seqOf_mD (o : Nat) (mc : Mach) : seqOf (mD o mc) = M.ret ((List.range mc.s).map fun k => stD o mc k) := rfl
theorem x_row (n m : Nat) (f : Nat → Nat) (a b : Int) (h : ∀ j, j < m → a ≤ f j ∧ (f j : Int) ≤ b) (hm : m ≤ 6) : callR (callF fs gl (n + 3) 38) [tb m fun j => .int (f j), .int m, .int a, .int b] = M.ret (.bl true) :=
  ev_of f38 rfl rfl (by simp) rfl (by
  dsimp only [f38, start]
  (rw [zz_cons]; simp -implicitDefEqProofs (disch := first | assumption | omega) [evalS, evalE, evalEs, evalL, evalI, evalC, EV.T.bind, wipe, MS.ok, M.seq_ret, line, isSub, ret_app, count_range, numbered_range, pairs_range, collect_N, collect_F, collect2_N, collect, zz_nil, x_tupi, x_between])
  refine ret_rt ?_
  simp
  exact h)
theorem x_state (n : Nat) (own oth : Nat) (mc : Mach) (k : Nat) (h : mc.ok own oth) (hk : k < mc.s) (ho : oth ≤ 5) : callR (callF fs gl (n + 4) 39) [.int mc.s, .int own, .int oth, stD oth mc k] = M.ret (.bl true) :=
  ev_of f39 rfl rfl (by simp) rfl (by
  have h1 := h.c k hk
  have h2 := x_row n oth (mc.nx k) 0 ((mc.s : Int) - 1) (fun j hj => by have := h.n k hk j hj; omega) (by omega)
  have h3 : callR (callF fs gl (n + 3) 5) [stD oth mc k, .int 2] = M.ret (.bl true) := by rw [stD, x_tup]; rfl; simp
  dsimp only [f39, start]
  (rw [zz_cons]; simp -implicitDefEqProofs (disch := first | assumption | omega) [evalS, evalE, evalEs, evalL, evalI, evalC, EV.T.bind, wipe, MS.ok, M.seq_ret, line, isSub, ret_app, count_range, numbered_range, pairs_range, collect_N, collect_F, collect2_N, collect, zz_nil, h3, x_between, if_neg, if_pos])
  (rw [zz_cons]; simp -implicitDefEqProofs (disch := first | assumption | omega) [evalS, evalE, evalEs, evalL, evalI, evalC, EV.T.bind, wipe, MS.ok, M.seq_ret, line, isSub, ret_app, count_range, numbered_range, pairs_range, collect_N, collect_F, collect2_N, collect, zz_nil, h2])
  exact ret_rt (by first | rfl | simp))
@[simp] theorem num0 (G : Gm) : G.num 0 = G.r := rfl
@[simp] theorem num1 (G : Gm) : G.num 1 = G.c := rfl
theorem x_machine_of (n : Nat) (G : Gm) (hG : G.ok) (mc : Mach) (p : Nat) (hp : p = 0 ∨ p = 1) (h : mc.ok (G.num p) (G.num (1 - p))) : callR (callF fs gl (n + 5) 40) [oD G, .int p, mD (G.num (1 - p)) mc] = M.ret (.bl true) :=
  ev_of f40 rfl rfl (by simp) rfl (by
  have a1 := h.s1
  have a2 := h.s6
  have a3 := hG.r5
  have a4 := hG.c5
  have hs := fun k hk => x_state n _ _ mc k h hk (by rcases hp with e | e <;> subst e <;> simp <;> omega)
  rcases hp with rfl | rfl
  all_goals
    simp at hs
    dsimp only [f40, start]
    (rw [zz_cons]; simp -implicitDefEqProofs (disch := first | assumption | omega) [evalS, evalE, evalEs, evalL, evalI, evalC, EV.T.bind, wipe, MS.ok, M.seq_ret, line, isSub, ret_app, count_range, numbered_range, pairs_range, collect_N, collect_F, collect2_N, collect, zz_nil, if_neg])
    (rw [zz_cons]; simp -implicitDefEqProofs (disch := first | assumption | omega) [evalS, evalE, evalEs, evalL, evalI, evalC, EV.T.bind, wipe, MS.ok, M.seq_ret, line, isSub, ret_app, count_range, numbered_range, pairs_range, collect_N, collect_F, collect2_N, collect, zz_nil, if_neg])
    (rw [zz_cons]; simp -implicitDefEqProofs (disch := first | assumption | omega) [evalS, evalE, evalEs, evalL, evalI, evalC, EV.T.bind, wipe, MS.ok, M.seq_ret, line, isSub, ret_app, count_range, numbered_range, pairs_range, collect_N, collect_F, collect2_N, collect, zz_nil, hs])
    exact ret_rt (by first | rfl | simp))
end K87
end
section
set_option Elab.async false
set_option linter.all false
set_option maxRecDepth 100000
set_option maxHeartbeats 4000000
/-! k87, part j: more checks, small defs. -/
namespace K87
open EV EW
theorem x_check_machine (n : Nat) (G : Gm) (hG : G.ok) (mc : Mach) (p : Nat) (hp : p = 0 ∨ p = 1) (h : mc.ok (G.num p) (G.num (1 - p))) : callR (callF fs gl (n + 6) 41) [oD G, .int p, mD (G.num (1 - p)) mc] = M.ret .non :=
  ev_of f41 rfl rfl (by simp) rfl (by
  dsimp only [f41, start]
  (rw [zz_cons]; simp -implicitDefEqProofs (disch := first | assumption | omega) [evalS, evalE, evalEs, evalL, evalI, evalC, EV.T.bind, wipe, MS.ok, M.seq_ret, line, isSub, ret_app, count_range, numbered_range, pairs_range, collect_N, collect_F, collect2_N, collect, zz_nil, x_machine_of n G hG mc p hp h])
  exact ret_nx)
theorem x_check_machines (n : Nat) (G : Gm) (hG : G.ok) (m1 m2 : Mach) (h1 : m1.ok G.r G.c) (h2 : m2.ok G.c G.r) : callR (callF fs gl (n + 7) 55) [oD G, mD G.c m1, mD G.r m2] = M.ret .non :=
  ev_of f55 rfl rfl (by simp) rfl (by
  have e1 := x_check_machine n G hG m1 0 (.inl rfl) h1
  have e2 := x_check_machine n G hG m2 1 (.inr rfl) h2
  simp at e1 e2
  dsimp only [f55, start]
  (rw [zz_cons]; simp -implicitDefEqProofs (disch := first | assumption | omega) [evalS, evalE, evalEs, evalL, evalI, evalC, EV.T.bind, wipe, MS.ok, M.seq_ret, line, isSub, ret_app, count_range, numbered_range, pairs_range, collect_N, collect_F, collect2_N, collect, zz_nil, e1])
  (rw [zz_cons]; simp -implicitDefEqProofs (disch := first | assumption | omega) [evalS, evalE, evalEs, evalL, evalI, evalC, EV.T.bind, wipe, MS.ok, M.seq_ret, line, isSub, ret_app, count_range, numbered_range, pairs_range, collect_N, collect_F, collect2_N, collect, zz_nil, e2])
  exact ret_nx)
theorem x_check_player (n : Nat) (p : Nat) (hp : p = 0 ∨ p = 1) : callR (callF fs gl (n + 3) 26) [.int p] = M.ret .non :=
  ev_of f26 rfl rfl (by simp) rfl (by
  dsimp only [f26, start]
  rcases hp with rfl | rfl
  all_goals
    (rw [zz_cons]; simp -implicitDefEqProofs (disch := first | assumption | omega) [evalS, evalE, evalEs, evalL, evalI, evalC, EV.T.bind, wipe, MS.ok, M.seq_ret, line, isSub, ret_app, count_range, numbered_range, pairs_range, collect_N, collect_F, collect2_N, collect, zz_nil, x_between])
    exact ret_nx)
theorem x_is_machine (n : Nat) (G : Gm) (hG : G.ok) (mc : Mach) (p : Nat) (hp : p = 0 ∨ p = 1) (h : mc.ok (G.num p) (G.num (1 - p))) : callR (callF fs gl (n + 6) 86) [oD G, .int p, mD (G.num (1 - p)) mc] = M.ret (.bl true) :=
  ev_of f86 rfl rfl (by simp) rfl (by
  dsimp only [f86, start]
  (rw [zz_cons]; simp -implicitDefEqProofs (disch := first | assumption | omega) [evalS, evalE, evalEs, evalL, evalI, evalC, EV.T.bind, wipe, MS.ok, M.seq_ret, line, isSub, ret_app, count_range, numbered_range, pairs_range, collect_N, collect_F, collect2_N, collect, zz_nil, x_check_player (n + 2) p hp])
  (rw [zz_cons]; simp -implicitDefEqProofs (disch := first | assumption | omega) [evalS, evalE, evalEs, evalL, evalI, evalC, EV.T.bind, wipe, MS.ok, M.seq_ret, line, isSub, ret_app, count_range, numbered_range, pairs_range, collect_N, collect_F, collect2_N, collect, zz_nil, x_machine_of n G hG mc p hp h])
  exact ret_rt (by first | rfl | simp))
theorem x_is_machine_fl (n : Nat) (G : Gm) (xs : List D) (hx : D.rfs xs = true) : callR (callF fs gl (n + 5) 86) [oD G, .int 0, .fl xs] = M.ret (.bl false) :=
  ev_of f86 rfl rfl (by simp [hx]) rfl (by
  have e1 : callR (callF fs gl (n + 4) 40) [oD G, .int 0, .fl xs] = M.ret (.bl false) := ev_of f40 rfl rfl (by simp [hx]) rfl (by
    dsimp only [f40, start]
    (rw [zz_cons]; simp -implicitDefEqProofs (disch := first | assumption | omega) [evalS, evalE, evalEs, evalL, evalI, evalC, EV.T.bind, wipe, MS.ok, M.seq_ret, line, isSub, ret_app, count_range, numbered_range, pairs_range, collect_N, collect_F, collect2_N, collect, zz_nil])
    exact ret_rt (by first | rfl | simp))
  have e2 := x_check_player (n + 1) 0 (.inl rfl)
  simp at e2
  dsimp only [f86, start]
  (rw [zz_cons]; simp -implicitDefEqProofs (disch := first | assumption | omega) [evalS, evalE, evalEs, evalL, evalI, evalC, EV.T.bind, wipe, MS.ok, M.seq_ret, line, isSub, ret_app, count_range, numbered_range, pairs_range, collect_N, collect_F, collect2_N, collect, zz_nil, e2])
  (rw [zz_cons]; simp -implicitDefEqProofs (disch := first | assumption | omega) [evalS, evalE, evalEs, evalL, evalI, evalC, EV.T.bind, wipe, MS.ok, M.seq_ret, line, isSub, ret_app, count_range, numbered_range, pairs_range, collect_N, collect_F, collect2_N, collect, zz_nil, e1])
  exact ret_rt (by first | rfl | simp))
theorem x_is_machine_nil (n : Nat) (G : Gm) : callR (callF fs gl (n + 5) 86) [oD G, .int 0, .tup []] = M.ret (.bl false) :=
  ev_of f86 rfl rfl (by simp) rfl (by
  have e1 : callR (callF fs gl (n + 4) 40) [oD G, .int 0, .tup []] = M.ret (.bl false) := ev_of f40 rfl rfl (by simp) rfl (by
    dsimp only [f40, start]
    (rw [zz_cons]; simp -implicitDefEqProofs (disch := first | assumption | omega) [evalS, evalE, evalEs, evalL, evalI, evalC, EV.T.bind, wipe, MS.ok, M.seq_ret, line, isSub, ret_app, count_range, numbered_range, pairs_range, collect_N, collect_F, collect2_N, collect, zz_nil])
    exact ret_rt (by first | rfl | simp))
  have e2 := x_check_player (n + 1) 0 (.inl rfl)
  simp at e2
  dsimp only [f86, start]
  (rw [zz_cons]; simp -implicitDefEqProofs (disch := first | assumption | omega) [evalS, evalE, evalEs, evalL, evalI, evalC, EV.T.bind, wipe, MS.ok, M.seq_ret, line, isSub, ret_app, count_range, numbered_range, pairs_range, collect_N, collect_F, collect2_N, collect, zz_nil, e2])
  (rw [zz_cons]; simp -implicitDefEqProofs (disch := first | assumption | omega) [evalS, evalE, evalEs, evalL, evalI, evalC, EV.T.bind, wipe, MS.ok, M.seq_ret, line, isSub, ret_app, count_range, numbered_range, pairs_range, collect_N, collect_F, collect2_N, collect, zz_nil, e1])
  exact ret_rt (by first | rfl | simp))
@[simp] theorem getI_fr0 (x : Rat) : getI (fr x) (.int 0) = M.ret (.int x.num) := rfl
@[simp] theorem getI_fr1 (x : Rat) : getI (fr x) (.int 1) = M.ret (.int x.den) := rfl
@[simp] theorem rf_fr (x : Rat) : (fr x).rf = true := by simp [fr]
@[simp] theorem deep_fr (n : Nat) (x : Rat) : D.deep (n + 2) (fr x) = true := by simp [fr]
@[simp] theorem seqOf_fr (x : Rat) : seqOf (fr x) = M.ret [.int x.num, .int x.den] := rfl
@[simp] theorem isTy_fr (x : Rat) (t : Ty) : isTy t (fr x) = M.ret (.bl (isSub .tuple t)) := rfl
@[simp] theorem all2 (a b : Bool) : bi .all [.fl [.bl a, .bl b]] = M.ret (.bl (a && b)) := by
  show M.ret _ = _
  simp
theorem fr_inj {x y : Rat} (h : fr x = fr y) : x = y := by
  simp [fr] at h
  exact Rat.ext h.1 (by omega)
theorem eq_fr (x y : Rat) : D.eq (fr x) (fr y) = decide (x = y) := by
  simp only [fr, D.eq, D.eqs, Bool.and_true]
  by_cases h : x = y
  · subst h; simp
  · rw [decide_eq_false h]
    by_cases h1 : x.num = y.num
    · by_cases h2 : (x.den : Int) = y.den
      · exact absurd (Rat.ext h1 (by omega)) h
      · simp [h2]
    · simp [h1]
@[simp] theorem cm_eq_fr (x y : Rat) : cm .eq (fr x) (fr y) = M.ret (.bl (decide (x = y))) := by
  rw [cm_eq (deep_fr _ _) (deep_fr _ _), eq_fr]
@[simp] theorem cm_ne_fr (x y : Rat) : cm .ne (fr x) (fr y) = M.ret (.bl (!decide (x = y))) := by
  rw [cm_ne (deep_fr _ _) (deep_fr _ _), eq_fr]
theorem x_is_fraction (n : Nat) (x : Rat) : callR (callF fs gl (n + 3) 42) [fr x] = M.ret (.bl true) :=
  ev_of f42 rfl rfl (by simp) rfl (by
  have e1 : callR (callF fs gl (n + 2) 5) [fr x, .int 2] = M.ret (.bl true) := by rw [fr, x_tup]; rfl; rfl
  have hp : (0 : Int) < x.den := by have := x.den_pos; omega
  have hr : Nat.gcd x.num.natAbs x.den = 1 := x.reduced
  dsimp only [f42, start]
  (rw [zz_cons]; simp -implicitDefEqProofs (disch := first | assumption | omega) [evalS, evalE, evalEs, evalL, evalI, evalC, EV.T.bind, wipe, MS.ok, M.seq_ret, line, isSub, ret_app, count_range, numbered_range, pairs_range, collect_N, collect_F, collect2_N, collect, zz_nil, e1, x_int])
  have hp' := x.den_pos
  (rw [zz_cons]; simp -implicitDefEqProofs (disch := first | assumption | omega) [evalS, evalE, evalEs, evalL, evalI, evalC, EV.T.bind, wipe, MS.ok, M.seq_ret, line, isSub, ret_app, count_range, numbered_range, pairs_range, collect_N, collect_F, collect2_N, collect, zz_nil, hp, hr])
  exact ret_rt (by simp [hp']))
theorem x_is_prob (n : Nat) (x : Rat) (h0 : 0 ≤ x) (h1 : x < 1) : callR (callF fs gl (n + 4) 43) [fr x] = M.ret (.bl true) :=
  ev_of f43 rfl rfl (by simp) rfl (by
  have a1 : 0 ≤ x.num := Rat.num_nonneg.mpr h0
  have a2 : x.num < x.den := by
    have := (Rat.lt_iff x 1).mp h1
    have e1 : (1 : Rat).den = 1 := rfl
    have e2 : (1 : Rat).num = 1 := rfl
    rw [e1, e2] at this
    omega
  dsimp only [f43, start]
  (rw [zz_cons]; simp -implicitDefEqProofs (disch := first | assumption | omega) [evalS, evalE, evalEs, evalL, evalI, evalC, EV.T.bind, wipe, MS.ok, M.seq_ret, line, isSub, ret_app, count_range, numbered_range, pairs_range, collect_N, collect_F, collect2_N, collect, zz_nil, x_is_fraction, a1])
  refine ret_rt ?_
  simp
  omega)
theorem x_check_factor (n : Nat) (x : Rat) (h0 : 0 ≤ x) (h1 : x < 1) : callR (callF fs gl (n + 5) 44) [fr x] = M.ret .non :=
  ev_of f44 rfl rfl (by simp) rfl (by
  have hne : ¬ x = 1 := fun e => by subst e; exact absurd h1 (by decide)
  dsimp only [f44, start]
  (rw [zz_cons]; simp -implicitDefEqProofs (disch := first | assumption | omega) [evalS, evalE, evalEs, evalL, evalI, evalC, EV.T.bind, wipe, MS.ok, M.seq_ret, line, isSub, ret_app, count_range, numbered_range, pairs_range, collect_N, collect_F, collect2_N, collect, zz_nil, x_is_prob (n := n) x h0 h1, hne])
  exact ret_nx)
def prD (i j : Nat) : D := .tup [.int i, .int j]
@[simp] theorem getI_prD0 (i j : Nat) : getI (prD i j) (.int 0) = M.ret (.int i) := rfl
@[simp] theorem getI_prD1 (i j : Nat) : getI (prD i j) (.int 1) = M.ret (.int j) := rfl
@[simp] theorem rf_prD (i j : Nat) : (prD i j).rf = true := by simp [prD]
@[simp] theorem isTy_prD (i j : Nat) (t : Ty) : isTy t (prD i j) = M.ret (.bl (isSub .tuple t)) := rfl
theorem x_check_pair (n : Nat) (G : Gm) (i j : Nat) (hi : i < G.r) (hj : j < G.c) : callR (callF fs gl (n + 3) 20) [oD G, prD i j] = M.ret .non :=
  ev_of f20 rfl rfl (by simp) rfl (by
  have e1 : callR (callF fs gl (n + 2) 5) [prD i j, .int 2] = M.ret (.bl true) := by rw [prD, x_tup]; rfl; simp
  have hi' : (i : Int) ≤ G.r - 1 := by omega
  have hj' : (j : Int) ≤ G.c - 1 := by omega
  dsimp only [f20, start]
  (rw [zz_cons]; simp -implicitDefEqProofs (disch := first | assumption | omega) [evalS, evalE, evalEs, evalL, evalI, evalC, EV.T.bind, wipe, MS.ok, M.seq_ret, line, isSub, ret_app, count_range, numbered_range, pairs_range, collect_N, collect_F, collect2_N, collect, zz_nil, e1, x_between, hi', hj'])
  exact ret_nx)
theorem x_frozen (n : Nat) (r c : Nat) (A : Nat → Nat → Int) (hr : r ≤ 5) : callR (callF fs gl (n + 1) 10) [lI r c A] = M.ret (tI r c A) :=
  ev_of f10 rfl rfl (by simp) (by simp) (by
  dsimp only [f10, start]
  (rw [zz_cons]; simp -implicitDefEqProofs (disch := first | assumption | omega) [evalS, evalE, evalEs, evalL, evalI, evalC, EV.T.bind, wipe, MS.ok, M.seq_ret, line, isSub, ret_app, count_range, numbered_range, pairs_range, collect_N, collect_F, collect2_N, collect, zz_nil, lI])
  exact ret_rt (by first | rfl | simp))
theorem x_make (n : Nat) (G : Gm) (hG : G.ok) : callR (callF fs gl (n + 5) 11) [gD G] = M.ret (oD G) :=
  ev_of f11 rfl rfl (by simp) (by simp) (by
  obtain ⟨r1, r5, c1, c5, _, _⟩ := hG
  have e0 : callF fs gl (n + 4) 9 [.ref 0, tI G.r G.c G.A, tI G.r G.c G.B] [.ins 0 [] []] = .ok .non [.ins 0 [2, 1, 0] [tI G.r G.c G.A, tI G.r G.c G.B, .tup [.int G.r, .int G.c]]] := by
    rw [callF, show fs[9]? = some f9 from rfl]
    dsimp only
    rw [runF_eq rfl]
    dsimp only [f9, start]
    (rw [zz_cons]; simp -implicitDefEqProofs (disch := first | assumption | omega) [evalS, evalE, evalEs, evalL, evalI, evalC, EV.T.bind, wipe, MS.ok, M.seq_ret, line, isSub, ret_app, count_range, numbered_range, pairs_range, collect_N, collect_F, collect2_N, collect, zz_nil, x_check_table n _ _ _ r1 r5 c1 c5])
    (rw [zz_cons]; simp -implicitDefEqProofs (disch := first | assumption | omega) [evalS, evalE, evalEs, evalL, evalI, evalC, EV.T.bind, wipe, MS.ok, M.seq_ret, line, isSub, ret_app, count_range, numbered_range, pairs_range, collect_N, collect_F, collect2_N, collect, zz_nil, x_matrix (n := n + 1) _ _ _ r1 r5 c1 c5])
    (rw [zz_cons]; simp -implicitDefEqProofs (disch := first | assumption | omega) [evalS, evalE, evalEs, evalL, evalI, evalC, EV.T.bind, wipe, MS.ok, M.seq_ret, line, isSub, ret_app, count_range, numbered_range, pairs_range, collect_N, collect_F, collect2_N, collect, zz_nil, lift, M.seq, M.ret, setF])
    (rw [zz_cons]; simp -implicitDefEqProofs (disch := first | assumption | omega) [evalS, evalE, evalEs, evalL, evalI, evalC, EV.T.bind, wipe, MS.ok, M.seq_ret, line, isSub, ret_app, count_range, numbered_range, pairs_range, collect_N, collect_F, collect2_N, collect, zz_nil, lift, M.seq, M.ret, setF])
    (rw [zz_cons]; simp -implicitDefEqProofs (disch := first | assumption | omega) [evalS, evalE, evalEs, evalL, evalI, evalC, EV.T.bind, wipe, MS.ok, M.seq_ret, line, isSub, ret_app, count_range, numbered_range, pairs_range, collect_N, collect_F, collect2_N, collect, zz_nil, lift, M.seq, setF])
  have e1 : makeR (callF fs gl (n + 4) 9) 0 [tI G.r G.c G.A, tI G.r G.c G.B] = M.ret (oD G) := by
    funext S
    unfold makeR
    simp [e0]
    rfl
  dsimp only [f11, start]
  (rw [zz_cons]; simp -implicitDefEqProofs (disch := first | assumption | omega) [evalS, evalE, evalEs, evalL, evalI, evalC, EV.T.bind, wipe, MS.ok, M.seq_ret, line, isSub, ret_app, count_range, numbered_range, pairs_range, collect_N, collect_F, collect2_N, collect, zz_nil, gD, x_frozen, e1])
  exact ret_rt (by first | rfl | simp))
end K87
end
section
set_option Elab.async false
set_option linter.all false
set_option maxRecDepth 100000
set_option maxHeartbeats 4000000
/-! k87, part k: sums and greatest ones. -/
namespace K87
open EV EW
theorem num_pos {y : Rat} (h : 0 < y) : 0 < y.num := by
  have := (Rat.lt_iff 0 y).mp h
  have e1 : (0 : Rat).num = 0 := rfl
  have e2 : (0 : Rat).den = 1 := rfl
  rw [e1, e2] at this
  omega
theorem x_whole (n : Nat) (i : Int) : callR (callF fs gl (n + 1) 25) [.int i] = M.ret (fr i) := ev_eq (ev_whole n i)
theorem x_add (n : Nat) {a b : Nat} {x y : Rat} (hx : Bd a x) (hy : Bd b y) (hab : a + b < 8900) : callR (callF fs gl (n + 2) 46) [fr x, fr y] = M.ret (fr (x + y)) := ev_eq (ev_add n a b x y hx hy hab)
theorem x_mul (n : Nat) {a b : Nat} {x y : Rat} (hx : Bd a x) (hy : Bd b y) (hab : a + b < 8900) : callR (callF fs gl (n + 2) 45) [fr x, fr y] = M.ret (fr (x * y)) := ev_eq (ev_mul n a b x y hx hy hab)
theorem x_sub (n : Nat) {a b : Nat} {x y : Rat} (hx : Bd a x) (hy : Bd b y) (hab : a + b < 8900) : callR (callF fs gl (n + 2) 48) [fr x, fr y] = M.ret (fr (x - y)) := ev_eq (ev_sub n a b x y hx hy hab)
theorem x_div (n : Nat) {a b : Nat} {x y : Rat} (hx : Bd a x) (hy : Bd b y) (hab : a + b < 8900) (hp : 0 < y) : callR (callF fs gl (n + 2) 24) [fr x, fr y] = M.ret (fr (x / y)) := ev_eq (ev_div n a b x y hx hy (num_pos hp) hab)
theorem x_less (n : Nat) {a b : Nat} {x y : Rat} (hx : Bd a x) (hy : Bd b y) (hab : a + b < 8900) : callR (callF fs gl (n + 2) 30) [fr x, fr y] = M.ret (.bl (decide (x < y))) := ev_eq (ev_is_less n a b x y hx hy hab)
theorem y_add (n : Nat) {a b : Nat} {x y : Rat} (hx : Bd a x) (hy : Bd b y) (hab : a + b < 8900) : callR (callF fs gl (n + 3) 83) [fr x, fr y] = M.ret (fr (x + y)) := ev_eq (ev_ladd n a b x y hx hy hab)
theorem y_mul (n : Nat) {a b : Nat} {x y : Rat} (hx : Bd a x) (hy : Bd b y) (hab : a + b < 8900) : callR (callF fs gl (n + 3) 33) [fr x, fr y] = M.ret (fr (x * y)) := ev_eq (ev_lmul n a b x y hx hy hab)
theorem y_sub (n : Nat) {a b : Nat} {x y : Rat} (hx : Bd a x) (hy : Bd b y) (hab : a + b < 8900) : callR (callF fs gl (n + 3) 81) [fr x, fr y] = M.ret (fr (x - y)) := ev_eq (ev_lsub n a b x y hx hy hab)
theorem y_div (n : Nat) {a b : Nat} {x y : Rat} (hx : Bd a x) (hy : Bd b y) (hab : a + b < 8900) (hp : 0 < y) : callR (callF fs gl (n + 3) 84) [fr x, fr y] = M.ret (fr (x / y)) := ev_eq (ev_ldiv n a b x y hx hy (num_pos hp) hab)
theorem y_below (n : Nat) {a b : Nat} {x y : Rat} (hx : Bd a x) (hy : Bd b y) (hab : a + b < 8900) : callR (callF fs gl (n + 1) 36) [fr x, fr y] = M.ret (.bl (decide (x < y))) := ev_eq (ev_below n a b x y hx hy hab)
theorem y_low (n k : Nat) (a d : Int) (hd : 0 < d) (hk : d.natAbs < 2 ^ k) (hk2 : k < 8900) : callR (callF fs gl (n + 2) 13) [.int a, .int d] = M.ret (fr (Rat.divInt a d)) := ev_eq (ev_llow n k a d hd hk hk2)
theorem bd_one : Bd 1 1 := ⟨by decide, by decide⟩
theorem bd_zero : Bd 1 0 := ⟨by decide, by decide⟩
theorem bd_int {i : Int} (h : i.natAbs ≤ 100) : Bd 8 (i : Rat) := ⟨by show (Rat.num (i : Rat)).natAbs < _; rw [Rat.num_intCast]; omega, by show Rat.den (i : Rat) < _; rw [Rat.den_intCast]; decide⟩
theorem bd_div {a b : Nat} {x y : Rat} (hx : Bd a x) (hy : Bd b y) (hp : 0 < y) : Bd (a + b) (x / y) := by
  have hp' : 0 < y.num := num_pos hp
  rw [← rat_div x y hp']
  have px := x.den_pos
  refine bd_divInt (Int.mul_pos (by omega) hp') ?_ ?_
  · rw [Int.natAbs_mul, Int.natAbs_natCast, Nat.pow_add]
    exact Nat.mul_lt_mul_of_lt_of_le hx.1 (Nat.le_of_lt hy.2) (Nat.two_pow_pos b)
  · rw [Int.natAbs_mul, Int.natAbs_natCast, Nat.pow_add]
    exact Nat.mul_lt_mul_of_lt_of_le hx.2 (Nat.le_of_lt hy.1) (Nat.two_pow_pos b)
theorem bd_pow {a : Nat} {x : Rat} (hx : Bd a x) : ∀ n : Nat, Bd (a * n + 1) (x ^ n)
  | 0 => by rw [Rat.pow_zero]; exact bd_one
  | n + 1 => by
    rw [Rat.pow_succ]
    exact (bd_mul (bd_pow hx n) hx).mono (by rw [Nat.mul_succ]; omega)
/-- a list of fractions -/
def rl (xs : List Rat) : D := .fl (xs.map fr)
theorem rfs_frs (xs : List Rat) : D.rfs (xs.map fr) = true := by
  induction xs with
  | nil => rfl
  | cons x xs ih => rw [List.map_cons, D.rfs, ih, rf_fr]; rfl
@[simp] theorem rf_rl (xs : List Rat) : (rl xs).rf = true := rfs_frs xs
@[simp] theorem seqOf_rl (xs : List Rat) : seqOf (rl xs) = M.ret (xs.map fr) := rfl
@[simp] theorem len_rl (xs : List Rat) : bi .len [rl xs] = M.ret (.int xs.length) := by
  rw [rl, len_fl]; simp
theorem fold_rev (f : Rat) : ∀ (xs : List Rat) (l : Rat), fold f xs l = xs.reverse.foldl (fun l y => y + f * l) l
  | [], _ => rfl
  | x :: xs, l => by rw [List.reverse_cons, List.foldl_append, ← fold_rev f xs l]; rfl
theorem bd_fold {f : Rat} {a k : Nat} (hf : Bd a f) : ∀ {xs : List Rat} {l : Rat} {b : Nat}, (∀ x, x ∈ xs → Bd k x) → Bd b l → Bd (b + (k + a + 1) * xs.length) (fold f xs l)
  | [], l, b, _, h => h
  | x :: xs, l, b, hx, h => by
    have := bd_fold hf (fun y hy => hx y (by simp [hy])) h (xs := xs)
    refine (bd_add (hx x (by simp)) (bd_mul hf this)).mono ?_
    rw [List.length_cons, Nat.mul_succ]; omega
theorem x_folded (n : Nat) {f l0 : Rat} {a b k : Nat} (hf : Bd a f) (hl : Bd b l0) (xs : List Rat) (hx : ∀ x, x ∈ xs → Bd k x) (hs : b + (k + a + 1) * xs.length + a + k < 8900) :
    callR (callF fs gl (n + 3) 47) [rl xs, fr f, fr l0] = M.ret (fr (fold f xs l0)) :=
  ev_of f47 rfl rfl (by simp) (by simp) (by
  dsimp only [f47, start]
  (rw [zz_cons]; simp -implicitDefEqProofs (disch := first | assumption | omega) [evalS, evalE, evalEs, evalL, evalI, evalC, EV.T.bind, wipe, MS.ok, M.seq_ret, line, isSub, ret_app, count_range, numbered_range, pairs_range, collect_N, collect_F, collect2_N, collect, zz_nil, rl, ← List.map_reverse])
  refine lpM (I := fun (ys : List Rat) r S => ∃ l v b, r = [some (D.fl (xs.map fr)), some (fr f), some (fr l), v] ∧ ys.foldl (fun l y => y + f * l) l = fold f xs l0 ∧ Bd b l ∧ (∀ y, y ∈ ys → Bd k y) ∧ b + (k + a + 1) * ys.length + a + k < 8900) ?_ ?_ ?_
  · exact ⟨l0, _, b, rfl, (fold_rev f xs l0).symm, hl, fun y hy => hx y (by simpa using hy), by simpa using hs⟩
  · rintro y ys r S P ⟨l, v, b, rfl, e, hb, hy, hs⟩ hP _ _
    rw [List.length_cons, Nat.mul_succ] at hs
    have q1 := x_mul n hf hb (by omega)
    have q2 := x_add n (hy y (by simp)) (bd_mul hf hb) (by omega)
    simp only [EV.T.bind, List.length_cons, List.length_nil, List.set_cons_succ, List.set_cons_zero, Nat.reduceAdd, Nat.reduceLT, if_true, ite_true, Option.bind_some]
    (rw [zz_cons]; simp -implicitDefEqProofs (disch := first | assumption | omega) [evalS, evalE, evalEs, evalL, evalI, evalC, EV.T.bind, wipe, MS.ok, M.seq_ret, line, isSub, ret_app, count_range, numbered_range, pairs_range, collect_N, collect_F, collect2_N, collect, zz_nil, q1, q2])
    exact Pst.ok (hP _ _ ⟨_, _, _, rfl, e, bd_add (hy y (by simp)) (bd_mul hf hb), fun y h => hy y (by simp [h]), by omega⟩)
  · rintro r S ⟨l, v, b, rfl, e, _⟩
    (rw [zz_cons]; simp -implicitDefEqProofs (disch := first | assumption | omega) [evalS, evalE, evalEs, evalL, evalI, evalC, EV.T.bind, wipe, MS.ok, M.seq_ret, line, isSub, ret_app, count_range, numbered_range, pairs_range, collect_N, collect_F, collect2_N, collect, zz_nil])
    exact ret_rt (by rw [← e]; rfl))
theorem x_endless (n : Nat) {f : Rat} {a : Nat} (h0 : 0 ≤ f) (h1 : f < 1) (hf : Bd a f) (ha : 1 ≤ a) (xs ys : List Rat) (hx : ∀ x, x ∈ xs → Bd 8 x) (hy : ∀ x, x ∈ ys → Bd 8 x) (h1y : 1 ≤ ys.length) (hs : (a + 9) * (xs.length + ys.length) + a * ys.length + 2 * a < 8000) :
    callR (callF fs gl (n + 4) 49) [rl xs, rl ys, fr f] = M.ret (fr ((1 - f) * fold f xs (fold f ys 0 / (1 - f ^ ys.length)))) ∧
    Bd ((a + 9) * (xs.length + ys.length) + a * ys.length + a + 10) ((1 - f) * fold f xs (fold f ys 0 / (1 - f ^ ys.length))) := by
  have p1 : 0 < 1 - f ^ ys.length := by have := pow_lt h0 h1 h1y; grind
  rw [Nat.mul_add] at hs ⊢
  have b1 := bd_fold hf hy bd_zero (xs := ys)
  have b2 := bd_sub bd_one (bd_pow hf ys.length)
  have b3 := bd_div b1 b2 p1
  have b4 := bd_fold hf hx b3 (xs := xs)
  have b5 := bd_sub bd_one hf
  have e8 : 8 + a + 1 = a + 9 := by omega
  rw [e8] at b1 b3 b4
  refine ⟨ev_of f49 rfl rfl (by simp) (by simp) ?_, (bd_mul b5 b4).mono (by omega)⟩
  dsimp only [f49, start]
  (rw [zz_cons]; simp -implicitDefEqProofs (disch := first | assumption | omega) [evalS, evalE, evalEs, evalL, evalI, evalC, EV.T.bind, wipe, MS.ok, M.seq_ret, line, isSub, ret_app, count_range, numbered_range, pairs_range, collect_N, collect_F, collect2_N, collect, zz_nil])
  (rw [zz_cons]; simp -implicitDefEqProofs (disch := first | assumption | omega) [evalS, evalE, evalEs, evalL, evalI, evalC, EV.T.bind, wipe, MS.ok, M.seq_ret, line, isSub, ret_app, count_range, numbered_range, pairs_range, collect_N, collect_F, collect2_N, collect, zz_nil, rl])
  refine lpM (I := fun (zs : List Rat) r S => ∃ t m v, r = [some (D.fl (xs.map fr)), some (D.fl (ys.map fr)), some (fr f), some (fr t), v, none] ∧ t = f ^ m ∧ m + zs.length = ys.length) ?_ ?_ ?_
  · exact ⟨1, 0, _, rfl, (Rat.pow_zero f).symm, by omega⟩
  · rintro z zs r S P ⟨t, m, v, rfl, rfl, hm⟩ hP _ _
    rw [List.length_cons] at hm
    have := Nat.mul_le_mul_left a (show m ≤ ys.length by omega)
    have q1 := x_mul (n + 1) (bd_pow hf m) hf (by omega)
    simp only [EV.T.bind, List.length_cons, List.length_nil, List.set_cons_succ, List.set_cons_zero, Nat.reduceAdd, Nat.reduceLT, if_true, ite_true, Option.bind_some]
    (rw [zz_cons]; simp -implicitDefEqProofs (disch := first | assumption | omega) [evalS, evalE, evalEs, evalL, evalI, evalC, EV.T.bind, wipe, MS.ok, M.seq_ret, line, isSub, ret_app, count_range, numbered_range, pairs_range, collect_N, collect_F, collect2_N, collect, zz_nil, q1])
    exact Pst.ok (hP _ _ ⟨_, m + 1, _, rfl, by rw [Rat.pow_succ], by omega⟩)
  · rintro r S ⟨t, m, v, rfl, rfl, hm⟩
    have hm : m = ys.length := by simpa using hm
    subst hm
    have q1 := x_folded n hf bd_zero ys hy (by rw [e8]; omega)
    have q2 := x_sub (n + 1) bd_one (bd_pow hf ys.length) (by omega)
    have q3 := x_div (n + 1) b1 b2 (by omega) p1
    have q4 := x_folded n hf b3 xs hx (by rw [e8]; omega)
    have q5 := x_sub (n + 1) bd_one hf (by omega)
    have q6 := x_mul (n + 1) b5 b4 (by omega)
    simp only [rl] at q1 q4
    (rw [zz_cons]; simp -implicitDefEqProofs (disch := first | assumption | omega) [evalS, evalE, evalEs, evalL, evalI, evalC, EV.T.bind, wipe, MS.ok, M.seq_ret, line, isSub, ret_app, count_range, numbered_range, pairs_range, collect_N, collect_F, collect2_N, collect, zz_nil, q1, q2, q3])
    (rw [zz_cons]; simp -implicitDefEqProofs (disch := first | assumption | omega) [evalS, evalE, evalEs, evalL, evalI, evalC, EV.T.bind, wipe, MS.ok, M.seq_ret, line, isSub, ret_app, count_range, numbered_range, pairs_range, collect_N, collect_F, collect2_N, collect, zz_nil, q4, q5, q6])
    exact ret_rt (by first | rfl | simp)
theorem x_worth_now (n : Nat) {f w : Rat} {a b : Nat} {p : Int} (hf : Bd a f) (hw : Bd b w) (hp : p.natAbs ≤ 100) (hs : 2 * a + b + 20 < 8000) :
    callR (callF fs gl (n + 3) 51) [.int p, fr f, fr w] = M.ret (fr ((1 - f) * p + f * w)) ∧ Bd (2 * a + b + 20) ((1 - f) * p + f * w) := by
  have b1 := bd_sub bd_one hf
  have b2 := bd_mul b1 (bd_int hp)
  have b3 := bd_mul hf hw
  refine ⟨ev_of f51 rfl rfl (by simp) (by simp) ?_, (bd_add b2 b3).mono (by omega)⟩
  have q1 := x_sub n bd_one hf (by omega)
  have q2 := x_mul n b1 (bd_int hp) (by omega)
  have q3 := x_mul n hf hw (by omega)
  have q4 := x_add n b2 b3 (by omega)
  dsimp only [f51, start]
  (rw [zz_cons]; simp -implicitDefEqProofs (disch := first | assumption | omega) [evalS, evalE, evalEs, evalL, evalI, evalC, EV.T.bind, wipe, MS.ok, M.seq_ret, line, isSub, ret_app, count_range, numbered_range, pairs_range, collect_N, collect_F, collect2_N, collect, zz_nil, q1, q2, q3, q4, x_whole])
  exact ret_rt (by first | rfl | simp)
/-- the greatest of some -/
def gm (x : Nat → Rat) : Nat → Rat
  | 0 => x 0
  | n + 1 => if gm x n < x n then x n else gm x n
theorem gm_ge (x : Nat → Rat) : ∀ {n j : Nat}, j < n → x j ≤ gm x n
  | n + 1, j, h => by
    rw [gm]
    by_cases e : j = n
    · subst e; split
      · exact Rat.le_refl
      · grind
    · have := gm_ge x (n := n) (j := j) (by omega)
      split
      · grind
      · exact this
theorem gm_mem (x : Nat → Rat) : ∀ {n : Nat}, 1 ≤ n → ∃ i, i < n ∧ gm x n = x i
  | 1, _ => ⟨0, by omega, by simp [gm]⟩
  | n + 2, _ => by
    obtain ⟨i, hi, e⟩ := gm_mem x (n := n + 1) (by omega)
    rw [gm]
    split
    · exact ⟨n + 1, by omega, rfl⟩
    · exact ⟨i, by omega, e⟩
theorem gm_bd {x : Nat → Rat} {b n : Nat} (h1 : 1 ≤ n) (h : ∀ i, i < n → Bd b (x i)) : ∀ m, m ≤ n → Bd b (gm x m)
  | 0, _ => h 0 (by omega)
  | m + 1, hm => by
    rw [gm]
    split
    · exact h m (by omega)
    · exact gm_bd h1 h m (by omega)
theorem x_greatest (n m b : Nat) (x : Nat → Rat) (h1 : 1 ≤ m) (h : ∀ i, i < m → Bd b (x i)) (hb : 2 * b < 8900) (d : D) (hd : d = ls m (fun i => fr (x i)) ∨ d = tb m (fun i => fr (x i))) :
    callR (callF fs gl (n + 3) 31) [d] = M.ret (fr (gm x m)) := by
  have e1 : getI d (.int 0) = M.ret (fr (x 0)) := by rcases hd with e | e <;> subst e <;> first | exact getI_ls0 _ h1 | exact getI_tb0 _ h1
  have e2 : seqOf d = M.ret ((List.range m).map fun i => fr (x i)) := by rcases hd with e | e <;> subst e <;> rfl
  have e3 : d.rf = true := by rcases hd with e | e <;> subst e <;> simp
  refine ev_of f31 rfl rfl (by simp [e3]) (by simp) ?_
  dsimp only [f31, start]
  (rw [zz_cons]; simp -implicitDefEqProofs (disch := first | assumption | omega) [evalS, evalE, evalEs, evalL, evalI, evalC, EV.T.bind, wipe, MS.ok, M.seq_ret, line, isSub, ret_app, count_range, numbered_range, pairs_range, collect_N, collect_F, collect2_N, collect, zz_nil, e1])
  (rw [zz_cons]; simp -implicitDefEqProofs (disch := first | assumption | omega) [evalS, evalE, evalEs, evalL, evalI, evalC, EV.T.bind, wipe, MS.ok, M.seq_ret, line, isSub, ret_app, count_range, numbered_range, pairs_range, collect_N, collect_F, collect2_N, collect, zz_nil, e2])
  refine lpN (I := fun i r S => ∃ v, r = [some d, some (fr (gm x i)), v]) ?_ ?_ ?_
  · exact ⟨_, rfl⟩
  · rintro i hi r S P ⟨v, rfl⟩ hP _ _
    have q1 := x_less n (gm_bd h1 h i (by omega)) (h i hi) (by omega)
    simp only [EV.T.bind, List.length_cons, List.length_nil, List.set_cons_succ, List.set_cons_zero, Nat.reduceAdd, Nat.reduceLT, if_true, ite_true, Option.bind_some]
    (rw [zz_cons]; simp -implicitDefEqProofs (disch := first | assumption | omega) [evalS, evalE, evalEs, evalL, evalI, evalC, EV.T.bind, wipe, MS.ok, M.seq_ret, line, isSub, ret_app, count_range, numbered_range, pairs_range, collect_N, collect_F, collect2_N, collect, zz_nil, q1])
    refine Pst.ok (hP _ _ ⟨some (fr (x i)), ?_⟩)
    rw [gm]
    split <;> rfl
  · rintro r S ⟨v, rfl⟩
    (rw [zz_cons]; simp -implicitDefEqProofs (disch := first | assumption | omega) [evalS, evalE, evalEs, evalL, evalI, evalC, EV.T.bind, wipe, MS.ok, M.seq_ret, line, isSub, ret_app, count_range, numbered_range, pairs_range, collect_N, collect_F, collect2_N, collect, zz_nil])
    exact ret_rt (by first | rfl | simp)
theorem y_greatest (n m b : Nat) (x : Nat → Rat) (h1 : 1 ≤ m) (h : ∀ i, i < m → Bd b (x i)) (hb : 2 * b < 8900) :
    callR (callF fs gl (n + 2) 37) [ls m (fun i => fr (x i))] = M.ret (fr (gm x m)) := by
  refine ev_of f37 rfl rfl (by simp) (by simp) ?_
  dsimp only [f37, start]
  (rw [zz_cons]; simp -implicitDefEqProofs (disch := first | assumption | omega) [evalS, evalE, evalEs, evalL, evalI, evalC, EV.T.bind, wipe, MS.ok, M.seq_ret, line, isSub, ret_app, count_range, numbered_range, pairs_range, collect_N, collect_F, collect2_N, collect, zz_nil])
  (rw [zz_cons]; simp -implicitDefEqProofs (disch := first | assumption | omega) [evalS, evalE, evalEs, evalL, evalI, evalC, EV.T.bind, wipe, MS.ok, M.seq_ret, line, isSub, ret_app, count_range, numbered_range, pairs_range, collect_N, collect_F, collect2_N, collect, zz_nil])
  refine lpN (I := fun i r S => ∃ v, r = [some (ls m (fun i => fr (x i))), some (fr (gm x i)), v]) ?_ ?_ ?_
  · exact ⟨_, rfl⟩
  · rintro i hi r S P ⟨v, rfl⟩ hP _ _
    have q1 := y_below n (gm_bd h1 h i (by omega)) (h i hi) (by omega)
    simp only [EV.T.bind, List.length_cons, List.length_nil, List.set_cons_succ, List.set_cons_zero, Nat.reduceAdd, Nat.reduceLT, if_true, ite_true, Option.bind_some]
    (rw [zz_cons]; simp -implicitDefEqProofs (disch := first | assumption | omega) [evalS, evalE, evalEs, evalL, evalI, evalC, EV.T.bind, wipe, MS.ok, M.seq_ret, line, isSub, ret_app, count_range, numbered_range, pairs_range, collect_N, collect_F, collect2_N, collect, zz_nil, q1])
    refine Pst.ok (hP _ _ ⟨some (fr (x i)), ?_⟩)
    rw [gm]
    split <;> rfl
  · rintro r S ⟨v, rfl⟩
    (rw [zz_cons]; simp -implicitDefEqProofs (disch := first | assumption | omega) [evalS, evalE, evalEs, evalL, evalI, evalC, EV.T.bind, wipe, MS.ok, M.seq_ret, line, isSub, ret_app, count_range, numbered_range, pairs_range, collect_N, collect_F, collect2_N, collect, zz_nil])
    exact ret_rt (by first | rfl | simp)
def rs (xs : List Rat) : Rat := xs.foldl (fun l y => l + y) 0
theorem x_total' (n b : Nat) (xs : List Rat) (d : D) (hd : seqOf d = M.ret (xs.map fr)) (hrf : d.rf = true) (h : ∀ x, x ∈ xs → Bd b x) (hs : (b + 1) * xs.length + b + 1 < 8900) : callR (callF fs gl (n + 3) 65) [d] = M.ret (fr (rs xs)) ∧ Bd ((b + 1) * xs.length + 1) (rs xs) := by
  have key : Pst (evalSs (callF fs gl (n + 2)) gl f65.body (start f65.ns [d]) []) fun f S => f = .rt (fr (rs xs)) ∧ Bd ((b + 1) * xs.length + 1) (rs xs) := by
    dsimp only [f65, start]
    (rw [zz_cons]; simp -implicitDefEqProofs (disch := first | assumption | omega) [evalS, evalE, evalEs, evalL, evalI, evalC, EV.T.bind, wipe, MS.ok, M.seq_ret, line, isSub, ret_app, count_range, numbered_range, pairs_range, collect_N, collect_F, collect2_N, collect, zz_nil])
    (rw [zz_cons]; simp -implicitDefEqProofs (disch := first | assumption | omega) [evalS, evalE, evalEs, evalL, evalI, evalC, EV.T.bind, wipe, MS.ok, M.seq_ret, line, isSub, ret_app, count_range, numbered_range, pairs_range, collect_N, collect_F, collect2_N, collect, zz_nil, hd])
    refine lpM (I := fun (zs : List Rat) r S => ∃ t m v, r = [some d, some (fr t), v] ∧ zs.foldl (fun l y => l + y) t = rs xs ∧ m + zs.length = xs.length ∧ Bd ((b + 1) * m + 1) t ∧ ∀ z, z ∈ zs → Bd b z) ?_ ?_ ?_
    · exact ⟨0, 0, _, rfl, rfl, by omega, bd_zero, h⟩
    · rintro z zs r S P ⟨t, m, v, rfl, e, hm, hb, hz⟩ hP _ _
      rw [List.length_cons] at hm
      have := Nat.mul_le_mul_left (b + 1) (show m ≤ xs.length by omega)
      have q1 := x_add n hb (hz z (by simp)) (by omega)
      simp only [EV.T.bind, List.length_cons, List.length_nil, List.set_cons_succ, List.set_cons_zero, Nat.reduceAdd, Nat.reduceLT, if_true, ite_true, Option.bind_some]
      (rw [zz_cons]; simp -implicitDefEqProofs (disch := first | assumption | omega) [evalS, evalE, evalEs, evalL, evalI, evalC, EV.T.bind, wipe, MS.ok, M.seq_ret, line, isSub, ret_app, count_range, numbered_range, pairs_range, collect_N, collect_F, collect2_N, collect, zz_nil, q1])
      exact Pst.ok (hP _ _ ⟨_, m + 1, _, rfl, e, by omega, (bd_add hb (hz z (by simp))).mono (by rw [Nat.mul_succ]; omega), fun y h => hz y (by simp [h])⟩)
    · rintro r S ⟨t, m, v, rfl, e, hm, hb, _⟩
      have hm : m = xs.length := by simpa using hm
      have e : t = rs xs := e
      subst e; subst hm
      (rw [zz_cons]; simp -implicitDefEqProofs (disch := first | assumption | omega) [evalS, evalE, evalEs, evalL, evalI, evalC, EV.T.bind, wipe, MS.ok, M.seq_ret, line, isSub, ret_app, count_range, numbered_range, pairs_range, collect_N, collect_F, collect2_N, collect, zz_nil])
      exact Pst.ok ⟨rfl, hb⟩
  obtain ⟨f, S, e, e2, hb⟩ := key
  exact ⟨ev_of f65 rfl rfl (by simp [hrf]) (by simp) ⟨f, S, e, .inl e2⟩, hb⟩
theorem x_total (n b : Nat) (xs : List Rat) (h : ∀ x, x ∈ xs → Bd b x) (hs : (b + 1) * xs.length + b + 1 < 8900) : callR (callF fs gl (n + 3) 65) [rl xs] = M.ret (fr (rs xs)) ∧ Bd ((b + 1) * xs.length + 1) (rs xs) :=
  x_total' n b xs (rl xs) (seqOf_rl xs) (rf_rl xs) h hs
end K87
end
section
set_option Elab.async false
set_option linter.all false
set_option maxRecDepth 100000
set_option maxHeartbeats 4000000
/-! k87, part l: walks of two machines. -/
namespace K87
open EV EW
abbrev pD (x : Nat × Nat) : D := prD x.1 x.2
theorem eq_prD (i j k l : Nat) : D.eq (prD i j) (prD k l) = decide ((i, j) = (k, l)) := by
  simp only [prD, D.eq, D.eqs, Bool.and_true]
  by_cases h1 : i = k
  · by_cases h2 : j = l
    · simp [h1, h2]
    · have : ¬ (j : Int) = l := by omega
      simp [h2, this]
  · have : ¬ (i : Int) = k := by omega
    simp [h1, this]
theorem eq_pD (x y : Nat × Nat) : D.eq (pD x) (pD y) = decide (x = y) := by rw [eq_prD]
@[simp] theorem deep_prD (n i j : Nat) : D.deep (n + 2) (prD i j) = true := by simp [prD]
theorem findK_none {K V : Nat → D} {y : D} : ∀ {l : List Nat}, (∀ k, k ∈ l → D.eq (K k) y = false) → findK (l.map K) (l.map V) y = none
  | [], _ => rfl
  | k :: l, h => by rw [List.map_cons, List.map_cons, findK, h k (by simp), findK_none fun k hk => h k (by simp [hk])]; rfl
theorem findK_some {K V : Nat → D} {y : D} {k m : Nat} (hk : k < m) (e : D.eq (K k) y = true) (h : ∀ l, l < k → D.eq (K l) y = false) : findK ((List.range m).map K) ((List.range m).map V) y = some (V k) := by
  have go : ∀ (d s : Nat), s + d = m → s ≤ k → findK ((List.range' s d).map K) ((List.range' s d).map V) y = some (V k) := by
    intro d
    induction d with
    | zero => intro s h1 h2; omega
    | succ d ih =>
      intro s h1 h2
      rw [List.range'_succ, List.map_cons, List.map_cons, findK]
      by_cases hs : s = k
      · subst hs; rw [e]; rfl
      · rw [h s (by omega)]
        exact ih (s + 1) (by omega) (by omega)
  rw [List.range_eq_range']
  exact go m 0 (by omega) (by omega)
theorem putK_new {K V : Nat → D} {y v : D} {m : Nat} (h : ∀ k, k < m → D.eq (K k) y = false) : putK ((List.range m).map K) ((List.range m).map V) y v = ((List.range m).map K ++ [y], (List.range m).map V ++ [v]) := by
  unfold putK
  rw [if_neg]
  simp
  intro k hk
  exact h k hk
def stp (m1 m2 : Mach) (x : Nat × Nat) : Nat × Nat := (m1.nx x.1 (m2.ch x.2), m2.nx x.2 (m1.ch x.1))
def chs (m1 m2 : Mach) (x : Nat × Nat) : Nat × Nat := (m1.ch x.1, m2.ch x.2)
theorem x_choices (n o1 o2 : Nat) (m1 m2 : Mach) (x : Nat × Nat) (h1 : x.1 < m1.s) (h2 : x.2 < m2.s) : callR (callF fs gl (n + 1) 56) [mD o1 m1, mD o2 m2, pD x] = M.ret (pD (chs m1 m2 x)) :=
  ev_of f56 rfl rfl (by simp) (by simp) (by
  dsimp only [f56, start]
  (rw [zz_cons]; simp -implicitDefEqProofs (disch := first | assumption | omega) [evalS, evalE, evalEs, evalL, evalI, evalC, EV.T.bind, wipe, MS.ok, M.seq_ret, line, isSub, ret_app, count_range, numbered_range, pairs_range, collect_N, collect_F, collect2_N, collect, zz_nil])
  exact ret_rt rfl)
theorem x_behind (n o1 o2 : Nat) (m1 m2 : Mach) (x c : Nat × Nat) (h1 : x.1 < m1.s) (h2 : x.2 < m2.s) (h3 : c.2 < o1) (h4 : c.1 < o2) : callR (callF fs gl (n + 1) 57) [mD o1 m1, mD o2 m2, pD x, pD c] = M.ret (pD (m1.nx x.1 c.2, m2.nx x.2 c.1)) :=
  ev_of f57 rfl rfl (by simp) (by simp) (by
  dsimp only [f57, start]
  (rw [zz_cons]; simp -implicitDefEqProofs (disch := first | assumption | omega) [evalS, evalE, evalEs, evalL, evalI, evalC, EV.T.bind, wipe, MS.ok, M.seq_ret, line, isSub, ret_app, count_range, numbered_range, pairs_range, collect_N, collect_F, collect2_N, collect, zz_nil])
  exact ret_rt rfl)
/-- both machines fit -/
structure Two (r c : Nat) (m1 m2 : Mach) : Prop where
  one : m1.ok r c
  two : m2.ok c r
theorem Two.stp {r c : Nat} {m1 m2 : Mach} (h : Two r c m1 m2) : ∀ x : Nat × Nat, x.1 < m1.s → x.2 < m2.s → (stp m1 m2 x).1 < m1.s ∧ (stp m1 m2 x).2 < m2.s :=
  fun x h1 h2 => ⟨h.one.n _ h1 _ (h.two.c _ h2), h.two.n _ h2 _ (h.one.c _ h1)⟩
theorem x_behind' (n r c : Nat) (m1 m2 : Mach) (h : Two r c m1 m2) (x : Nat × Nat) (h1 : x.1 < m1.s) (h2 : x.2 < m2.s) : callR (callF fs gl (n + 1) 57) [mD c m1, mD r m2, pD x, pD (chs m1 m2 x)] = M.ret (pD (stp m1 m2 x)) :=
  x_behind n c r m1 m2 x (chs m1 m2 x) h1 h2 (h.two.c _ h2) (h.one.c _ h1)
theorem x_walk (n r c : Nat) (m1 m2 : Mach) (h : Two r c m1 m2) (x : Nat × Nat) (h1 : x.1 < m1.s) (h2 : x.2 < m2.s) (a p : Nat) (hr : Rho (stp m1 m2) x a p) (hap : a + p ≤ 36) :
    callR (callF fs gl (n + 2) 58) [mD c m1, mD r m2, pD x] = M.ret (.tup [ls (a + p) (fun k => pD (chs m1 m2 (it (stp m1 m2) k x))), .int a]) := by
  have hp := hr.pos
  have lt := fun k => it_lt2 h.stp k x h1 h2
  refine ev_of f58 rfl rfl (by simp) (by simp) ?_
  dsimp only [f58, start]
  (rw [zz_cons]; simp -implicitDefEqProofs (disch := first | assumption | omega) [evalS, evalE, evalEs, evalL, evalI, evalC, EV.T.bind, wipe, MS.ok, M.seq_ret, line, isSub, ret_app, count_range, numbered_range, pairs_range, collect_N, collect_F, collect2_N, collect, zz_nil, lift, M.seq, M.ret])
  refine spW (I := fun j r' S => ∃ m, j + m = a + p ∧ r' = [some (mD c m1), some (mD r m2), some (pD (it (stp m1 m2) m x)), some (.ref 0), some (.ref 1)] ∧
    S = [.dict true ((List.range m).map fun k => pD (it (stp m1 m2) k x)) ((List.range m).map fun (k : Nat) => .int k), .lst ((List.range m).map fun k => pD (chs m1 m2 (it (stp m1 m2) k x)))]) (a + p) (by unfold fuel; omega) ⟨0, by omega, rfl, rfl⟩ ?_
  rintro j r' S ⟨m, hj, rfl, rfl⟩
  have kd : ∀ y : Nat × Nat, keyOk true (pD y) = true := fun y => by simp [keyOk, prD]
  by_cases hm : m = a + p
  · left
    subst hm
    have f1 : findK ((List.range (a + p)).map fun k => pD (it (stp m1 m2) k x)) ((List.range (a + p)).map fun (k : Nat) => .int k) (pD (it (stp m1 m2) (a + p) x)) = some (.int a) :=
      findK_some (by omega) (by rw [eq_pD, hr.back]; simp) fun l hl => by rw [eq_pD, hr.back]; simp; exact hr.new l a hl (by omega)
    refine ⟨?_, ?_⟩
    · simp [evalE, M.seq, M.ret, cm, isDict, dictOf, kd, f1, blOf]
    · (rw [zz_cons]; simp -implicitDefEqProofs (disch := first | assumption | omega) [evalS, evalE, evalEs, evalL, evalI, evalC, EV.T.bind, wipe, MS.ok, M.seq_ret, line, isSub, ret_app, count_range, numbered_range, pairs_range, collect_N, collect_F, collect2_N, collect, zz_nil, lift, M.seq, M.ret, frz, getI, isDict, dictOf, kd, f1, M.opt])
      exact ret_rt (by first | rfl | simp)
  · right
    have nw : ∀ k, k < m → D.eq (pD (it (stp m1 m2) k x)) (pD (it (stp m1 m2) m x)) = false := fun k hk => by rw [eq_pD]; simp; exact hr.new k m hk (by omega)
    have f1 : findK ((List.range m).map fun k => pD (it (stp m1 m2) k x)) ((List.range m).map fun (k : Nat) => .int k) (pD (it (stp m1 m2) m x)) = none :=
      findK_none fun k hk => nw k (List.mem_range.mp hk)
    refine ⟨?_, ?_⟩
    · simp [evalE, M.seq, M.ret, cm, isDict, dictOf, kd, f1, blOf]
    · intro P hP
      have c1 := x_choices n c r m1 m2 (it (stp m1 m2) m x) (lt m).1 (lt m).2
      have c2 := x_behind' n r c m1 m2 h (it (stp m1 m2) m x) (lt m).1 (lt m).2
      have pk := putK_new (V := fun (k : Nat) => D.int k) (v := .int m) nw
      (rw [zz_cons]; simp -implicitDefEqProofs (disch := first | assumption | omega) [evalS, evalE, evalEs, evalL, evalI, evalC, EV.T.bind, wipe, MS.ok, M.seq_ret, line, isSub, ret_app, count_range, numbered_range, pairs_range, collect_N, collect_F, collect2_N, collect, zz_nil, lift, M.seq, M.ret, bi, putAt, kd, pk])
      (rw [zz_cons]; simp -implicitDefEqProofs (disch := first | assumption | omega) [evalS, evalE, evalEs, evalL, evalI, evalC, EV.T.bind, wipe, MS.ok, M.seq_ret, line, isSub, ret_app, count_range, numbered_range, pairs_range, collect_N, collect_F, collect2_N, collect, zz_nil, lift, M.seq, M.ret, lstOf, c1])
      (rw [zz_cons]; simp -implicitDefEqProofs (disch := first | assumption | omega) [evalS, evalE, evalEs, evalL, evalI, evalC, EV.T.bind, wipe, MS.ok, M.seq_ret, line, isSub, ret_app, count_range, numbered_range, pairs_range, collect_N, collect_F, collect2_N, collect, zz_nil, lift, M.seq, M.ret, lstOf, getI, isDict, M.opt, c2])
      exact Pst.ok (hP (j - 1) _ _ (by omega) ⟨m + 1, by omega, by rw [it_succ], by rw [List.range_succ]; simp⟩)
end K87
end
section
set_option Elab.async false
set_option linter.all false
set_option maxRecDepth 100000
set_option maxHeartbeats 4000000
/-! k87, part m: worths of walks. -/
namespace EW
open EV
theorem cut_hi {n a : Nat} (F : Nat → D) (h : a ≤ n) : cut ((List.range n).map F) none (some (a : Int)) = (List.range a).map F := by
  unfold cut edge
  have h0 : ¬ (a : Int) < 0 := by omega
  have e : min a n = a := by omega
  simp [h0, ← List.map_take, List.take_range, e]
theorem drop_range_map {n a : Nat} (F : Nat → D) : ((List.range n).map F).drop a = (List.range (n - a)).map fun k => F (a + k) := by
  refine List.ext_getElem (by simp) fun i h1 h2 => ?_
  simp
theorem cut_lo {n a : Nat} (F : Nat → D) (h : a ≤ n) : cut ((List.range n).map F) (some (a : Int)) none = (List.range (n - a)).map fun k => F (a + k) := by
  unfold cut edge
  have h0 : ¬ (a : Int) < 0 := by omega
  have e : min a n = a := by omega
  simp only [h0, if_false, Int.toNat_natCast, List.length_map, List.length_range, e, drop_range_map]
  rw [List.take_of_length_le]
  simp
theorem cut_lh {n a b : Nat} (F : Nat → D) (h : a ≤ b) (h2 : b ≤ n) : cut ((List.range n).map F) (some (a : Int)) (some (b : Int)) = (List.range (b - a)).map fun k => F (a + k) := by
  unfold cut edge
  have h0 : ¬ (a : Int) < 0 := by omega
  have h1 : ¬ (b : Int) < 0 := by omega
  have e : min a n = a := by omega
  have e1 : min b n = b := by omega
  simp only [h0, h1, if_false, Int.toNat_natCast, List.length_map, List.length_range, e, e1, drop_range_map]
  rw [← List.map_take, List.take_range, Nat.min_eq_left (by omega)]
@[simp] theorem slice_hi {n a : Nat} (F : Nat → D) (h : a ≤ n) : sliceI (ls n F) none (some (a : Int)) = M.ret (ls a F) := by
  show M.ret (D.fl (cut ((List.range n).map F) none (some (a : Int)))) = _
  rw [cut_hi F h]; rfl
@[simp] theorem slice_lo {n a : Nat} (F : Nat → D) (h : a ≤ n) : sliceI (ls n F) (some (a : Int)) none = M.ret (ls (n - a) fun k => F (a + k)) := by
  show M.ret (D.fl (cut ((List.range n).map F) (some (a : Int)) none)) = _
  rw [cut_lo F h]; rfl
@[simp] theorem slice_lh {n a b : Nat} (F : Nat → D) (h : a ≤ b) (h2 : b ≤ n) : sliceI (ls n F) (some (a : Int)) (some (b : Int)) = M.ret (ls (b - a) fun k => F (a + k)) := by
  show M.ret (D.fl (cut ((List.range n).map F) (some (a : Int)) (some (b : Int)))) = _
  rw [cut_lh F h h2]; rfl
end EW
namespace K87
open EV EW
theorem us_eq (u : Nat → Rat) : ∀ (n a : Nat), us u a n = (List.range n).map fun k => u (a + k)
  | 0, _ => rfl
  | n + 1, a => by rw [us_snoc, us_eq u n a, List.range_succ, List.map_append]; rfl
theorem ls_us (u : Nat → Rat) (n a : Nat) : ls n (fun k => fr (u (a + k))) = rl (us u a n) := by
  rw [us_eq, rl, List.map_map]; rfl
theorem ls_us0 (u : Nat → Rat) (n : Nat) : ls n (fun k => fr (u k)) = rl (us u 0 n) := by
  rw [← ls_us]; simp
theorem us_all {u : Nat → Rat} {P : Rat → Prop} (h : ∀ n, P (u n)) (a n : Nat) : ∀ x, x ∈ us u a n → P x := by
  intro x hx
  rw [us_eq, List.mem_map] at hx
  obtain ⟨k, _, rfl⟩ := hx
  exact h _
def gp (G : Gm) (p : Nat) (m1 m2 : Mach) (x : Nat × Nat) : Rat := (G.pay p (chs m1 m2 x).1 (chs m1 m2 x).2 : Rat)
noncomputable def Wp (G : Gm) (p : Nat) (m1 m2 : Mach) (f : Rat) (x : Nat × Nat) : Rat := wo f (stp m1 m2) (gp G p m1 m2) x
theorem pay_le {G : Gm} (h : G.ok) (p i j : Nat) : (G.pay p i j).natAbs ≤ 100 := by
  unfold Gm.pay
  split
  · exact h.a i j
  · exact h.b i j
theorem x_payoff_at (n : Nat) (G : Gm) (p : Nat) (hp : p = 0 ∨ p = 1) (x : Nat × Nat) (h1 : x.1 < G.r) (h2 : x.2 < G.c) : callR (callF fs gl (n + 2) 59) [oD G, .int p, pD x] = M.ret (fr (G.pay p x.1 x.2 : Rat)) :=
  ev_of f59 rfl rfl (by simp) (by simp) (by
  dsimp only [f59, start]
  rcases hp with rfl | rfl
  all_goals
    (rw [zz_cons]; simp -implicitDefEqProofs (disch := first | assumption | omega) [evalS, evalE, evalEs, evalL, evalI, evalC, EV.T.bind, wipe, MS.ok, M.seq_ret, line, isSub, ret_app, count_range, numbered_range, pairs_range, collect_N, collect_F, collect2_N, collect, zz_nil, x_whole])
    exact ret_rt rfl)
theorem chs_lt {r c : Nat} {m1 m2 : Mach} (h : Two r c m1 m2) {x : Nat × Nat} (h1 : x.1 < m1.s) (h2 : x.2 < m2.s) : (chs m1 m2 x).1 < r ∧ (chs m1 m2 x).2 < c := ⟨h.one.c _ h1, h.two.c _ h2⟩
/-- a factor -/
structure Fac (a : Nat) (f : Rat) : Prop where
  h0 : 0 ≤ f
  h1 : f < 1
  b : Bd a f
  pos : 1 ≤ a
  small : a ≤ 24
theorem x_disc_from (n : Nat) (G : Gm) (hG : G.ok) (p : Nat) (hp : p = 0 ∨ p = 1) (m1 m2 : Mach) (h : Two G.r G.c m1 m2) (x : Nat × Nat) (h1 : x.1 < m1.s) (h2 : x.2 < m2.s) {b : Nat} {f : Rat} (hf : Fac b f) :
    callR (callF fs gl (n + 5) 60) [oD G, .int p, mD G.c m1, mD G.r m2, pD x, fr f] = M.ret (fr (Wp G p m1 m2 f x)) ∧ Bd 3000 (Wp G p m1 m2 f x) := by
  obtain ⟨a, q, hr, haq⟩ := rho_pair h.stp h1 h2
  have hs : m1.s * m2.s ≤ 36 := Nat.mul_le_mul h.one.s6 h.two.s6
  have hq := hr.pos
  have lt := fun k => it_lt2 h.stp k x h1 h2
  have hW : Wp G p m1 m2 f x = val f (fun n => gp G p m1 m2 (it (stp m1 m2) n x)) a q := wo_eq hf.h0 hf.h1 hr.pos hr.back
  have hu : ∀ n, Bd 8 ((fun n => gp G p m1 m2 (it (stp m1 m2) n x)) n) := fun n => bd_int (pay_le hG _ _ _)
  have hw := x_walk (n + 2) G.r G.c m1 m2 h x h1 h2 a q hr (by omega)
  obtain ⟨hpos, hsm⟩ := And.intro hf.pos hf.small
  obtain ⟨he, hb⟩ := x_endless n hf.h0 hf.h1 hf.b hf.pos (us (fun n => gp G p m1 m2 (it (stp m1 m2) n x)) 0 a) (us (fun n => gp G p m1 m2 (it (stp m1 m2) n x)) a q) (us_all hu _ _) (us_all hu _ _) (by rw [us_len]; omega) (by
    rw [us_len, us_len]
    have := Nat.mul_le_mul (show b + 9 ≤ 33 by omega) (show a + q ≤ 36 by omega)
    have := Nat.mul_le_mul hsm (show q ≤ 36 by omega)
    omega)
  have hv : (1 - f) * fold f (us (fun n => gp G p m1 m2 (it (stp m1 m2) n x)) 0 a) (fold f (us (fun n => gp G p m1 m2 (it (stp m1 m2) n x)) a q) 0 / (1 - f ^ (us (fun n => gp G p m1 m2 (it (stp m1 m2) n x)) a q).length)) = Wp G p m1 m2 f x := by
    rw [hW, us_len]; rfl
  rw [hv] at he hb
  rw [us_len, us_len] at hb
  refine ⟨ev_of f60 rfl rfl (by simp) (by simp) ?_, hb.mono ?_⟩
  · have hpay := fun k => x_payoff_at (n + 2) G p hp (chs m1 m2 (it (stp m1 m2) k x)) (chs_lt h (lt k).1 (lt k).2).1 (chs_lt h (lt k).1 (lt k).2).2
    dsimp only [f60, start]
    (rw [zz_cons]; simp -implicitDefEqProofs (disch := first | assumption | omega) [evalS, evalE, evalEs, evalL, evalI, evalC, EV.T.bind, wipe, MS.ok, M.seq_ret, line, isSub, ret_app, count_range, numbered_range, pairs_range, collect_N, collect_F, collect2_N, collect, zz_nil, hw])
    (rw [zz_cons]; simp -implicitDefEqProofs (disch := first | assumption | omega) [evalS, evalE, evalEs, evalL, evalI, evalC, EV.T.bind, wipe, MS.ok, M.seq_ret, line, isSub, ret_app, count_range, numbered_range, pairs_range, collect_N, collect_F, collect2_N, collect, zz_nil, hpay])
    have e1 := ls_us0 (fun k => gp G p m1 m2 (it (stp m1 m2) k x)) a
    have e2 := ls_us (fun k => gp G p m1 m2 (it (stp m1 m2) k x)) q a
    simp only [gp] at e1 e2 he
    (rw [zz_cons]; simp -implicitDefEqProofs (disch := first | assumption | omega) [evalS, evalE, evalEs, evalL, evalI, evalC, EV.T.bind, wipe, MS.ok, M.seq_ret, line, isSub, ret_app, count_range, numbered_range, pairs_range, collect_N, collect_F, collect2_N, collect, zz_nil, e1, e2, he])
    exact ret_rt (by first | rfl | simp)
  · have := Nat.mul_le_mul (show b + 9 ≤ 33 by omega) (show a + q ≤ 36 by omega)
    have := Nat.mul_le_mul hsm (show q ≤ 36 by omega)
    omega
theorem x_discounted (n : Nat) (G : Gm) (hG : G.ok) (m1 m2 : Mach) (h : Two G.r G.c m1 m2) {b : Nat} {f : Rat} (hf : Fac b f) :
    callR (callF fs gl (n + 8) 72) [oD G, mD G.c m1, mD G.r m2, fr f] = M.ret (.tup [fr (Wp G 0 m1 m2 f (0, 0)), fr (Wp G 1 m1 m2 f (0, 0))]) := by
  refine ev_of f72 rfl rfl (by simp) (by simp) ?_
  have c1 := x_check_machines n G hG m1 m2 h.one h.two
  have c2 := x_check_factor (n + 2) f hf.h0 hf.h1
  have d1 := (x_disc_from (n + 2) G hG 0 (.inl rfl) m1 m2 h (0, 0) h.one.s1 h.two.s1 hf).1
  have d2 := (x_disc_from (n + 2) G hG 1 (.inr rfl) m1 m2 h (0, 0) h.one.s1 h.two.s1 hf).1
  simp [prD] at d1 d2
  dsimp only [f72, start]
  (rw [zz_cons]; simp -implicitDefEqProofs (disch := first | assumption | omega) [evalS, evalE, evalEs, evalL, evalI, evalC, EV.T.bind, wipe, MS.ok, M.seq_ret, line, isSub, ret_app, count_range, numbered_range, pairs_range, collect_N, collect_F, collect2_N, collect, zz_nil, c1])
  (rw [zz_cons]; simp -implicitDefEqProofs (disch := first | assumption | omega) [evalS, evalE, evalEs, evalL, evalI, evalC, EV.T.bind, wipe, MS.ok, M.seq_ret, line, isSub, ret_app, count_range, numbered_range, pairs_range, collect_N, collect_F, collect2_N, collect, zz_nil, c2])
  (rw [zz_cons]; simp -implicitDefEqProofs (disch := first | assumption | omega) [evalS, evalE, evalEs, evalL, evalI, evalC, EV.T.bind, wipe, MS.ok, M.seq_ret, line, isSub, ret_app, count_range, numbered_range, pairs_range, collect_N, collect_F, collect2_N, collect, zz_nil, d1, d2])
  exact ret_rt (by first | rfl | simp)
theorem x_play (n : Nat) (G : Gm) (hG : G.ok) (m1 m2 : Mach) (h : Two G.r G.c m1 m2) (k : Nat) (hk : k ≤ 100) :
    callR (callF fs gl (n + 8) 87) [oD G, mD G.c m1, mD G.r m2, .int k] = M.ret (ls k fun i => pD (chs m1 m2 (it (stp m1 m2) i (0, 0)))) := by
  have lt := fun k => it_lt2 h.stp k (0, 0) h.one.s1 h.two.s1
  refine ev_of f87 rfl rfl (by simp) (by simp) ?_
  have c1 := x_check_machines n G hG m1 m2 h.one h.two
  dsimp only [f87, start]
  (rw [zz_cons]; simp -implicitDefEqProofs (disch := first | assumption | omega) [evalS, evalE, evalEs, evalL, evalI, evalC, EV.T.bind, wipe, MS.ok, M.seq_ret, line, isSub, ret_app, count_range, numbered_range, pairs_range, collect_N, collect_F, collect2_N, collect, zz_nil, c1])
  have hk' : (k : Int) ≤ 100 := by omega
  (rw [zz_cons]; simp -implicitDefEqProofs (disch := first | assumption | omega) [evalS, evalE, evalEs, evalL, evalI, evalC, EV.T.bind, wipe, MS.ok, M.seq_ret, line, isSub, ret_app, count_range, numbered_range, pairs_range, collect_N, collect_F, collect2_N, collect, zz_nil, x_between, hk'])
  (rw [zz_cons]; simp -implicitDefEqProofs (disch := first | assumption | omega) [evalS, evalE, evalEs, evalL, evalI, evalC, EV.T.bind, wipe, MS.ok, M.seq_ret, line, isSub, ret_app, count_range, numbered_range, pairs_range, collect_N, collect_F, collect2_N, collect, zz_nil, lift, M.seq, M.ret])
  (rw [zz_cons]; simp -implicitDefEqProofs (disch := first | assumption | omega) [evalS, evalE, evalEs, evalL, evalI, evalC, EV.T.bind, wipe, MS.ok, M.seq_ret, line, isSub, ret_app, count_range, numbered_range, pairs_range, collect_N, collect_F, collect2_N, collect, zz_nil, if_pos, if_neg])
  have e0 : D.tup [.int 0, .int 0] = pD (0, 0) := rfl
  refine lpN (I := fun i r S => ∃ v, r = [some (oD G), some (mD G.c m1), some (mD G.r m2), some (.int k), v, some (.ref 0), some (pD (it (stp m1 m2) i (0, 0)))] ∧ S = [.lst ((List.range i).map fun i => pD (chs m1 m2 (it (stp m1 m2) i (0, 0))))]) ?_ ?_ ?_
  · exact ⟨_, rfl, rfl⟩
  · rintro i hi r S P ⟨v, rfl, rfl⟩ hP _ _
    have q1 := x_choices (n + 6) G.c G.r m1 m2 (it (stp m1 m2) i (0, 0)) (lt i).1 (lt i).2
    have q2 := x_behind' (n + 6) G.r G.c m1 m2 h (it (stp m1 m2) i (0, 0)) (lt i).1 (lt i).2
    simp only [EV.T.bind, List.length_cons, List.length_nil, List.set_cons_succ, List.set_cons_zero, Nat.reduceAdd, Nat.reduceLT, if_true, ite_true, Option.bind_some]
    (rw [zz_cons]; simp -implicitDefEqProofs (disch := first | assumption | omega) [evalS, evalE, evalEs, evalL, evalI, evalC, EV.T.bind, wipe, MS.ok, M.seq_ret, line, isSub, ret_app, count_range, numbered_range, pairs_range, collect_N, collect_F, collect2_N, collect, zz_nil, lift, M.seq, M.ret, lstOf, q1])
    (rw [zz_cons]; simp -implicitDefEqProofs (disch := first | assumption | omega) [evalS, evalE, evalEs, evalL, evalI, evalC, EV.T.bind, wipe, MS.ok, M.seq_ret, line, isSub, ret_app, count_range, numbered_range, pairs_range, collect_N, collect_F, collect2_N, collect, zz_nil, lift, M.seq, M.ret, lstOf, getI, isDict, M.opt, q2])
    exact Pst.ok (hP _ _ ⟨_, by rw [it_succ], by rw [List.range_succ]; simp⟩)
  · rintro r S ⟨v, rfl, rfl⟩
    (rw [zz_cons]; simp -implicitDefEqProofs (disch := first | assumption | omega) [evalS, evalE, evalEs, evalL, evalI, evalC, EV.T.bind, wipe, MS.ok, M.seq_ret, line, isSub, ret_app, count_range, numbered_range, pairs_range, collect_N, collect_F, collect2_N, collect, zz_nil, lift, M.seq, M.ret, frz])
    exact ret_rt (by first | rfl | simp)
theorem y_walk (n r c : Nat) (m1 m2 : Mach) (h : Two r c m1 m2) (k : Nat) (hk : k ≤ 100) (x : Nat × Nat) (h1 : x.1 < m1.s) (h2 : x.2 < m2.s) :
    callR (callF fs gl (n + 1) 78) [mD c m1, mD r m2, .int k, pD x] = M.ret (.fl [ls k fun i => pD (chs m1 m2 (it (stp m1 m2) i x)), ls k fun i => pD (it (stp m1 m2) i x)]) := by
  have lt := fun k => it_lt2 h.stp k x h1 h2
  refine ev_of f78 rfl rfl (by simp) (by simp) ?_
  dsimp only [f78, start]
  (rw [zz_cons]; simp -implicitDefEqProofs (disch := first | assumption | omega) [evalS, evalE, evalEs, evalL, evalI, evalC, EV.T.bind, wipe, MS.ok, M.seq_ret, line, isSub, ret_app, count_range, numbered_range, pairs_range, collect_N, collect_F, collect2_N, collect, zz_nil, lift, M.seq, M.ret])
  (rw [zz_cons]; simp -implicitDefEqProofs (disch := first | assumption | omega) [evalS, evalE, evalEs, evalL, evalI, evalC, EV.T.bind, wipe, MS.ok, M.seq_ret, line, isSub, ret_app, count_range, numbered_range, pairs_range, collect_N, collect_F, collect2_N, collect, zz_nil, prD])
  (rw [zz_cons]; simp -implicitDefEqProofs (disch := first | assumption | omega) [evalS, evalE, evalEs, evalL, evalI, evalC, EV.T.bind, wipe, MS.ok, M.seq_ret, line, isSub, ret_app, count_range, numbered_range, pairs_range, collect_N, collect_F, collect2_N, collect, zz_nil, if_pos, if_neg])
  refine lpN (I := fun i r' S => ∃ v a b, r' = [some (mD c m1), some (mD r m2), some (.int k), some (prD x.1 x.2), v, some (.ref 0), some (.ref 1), some (.int (it (stp m1 m2) i x).1), some (.int (it (stp m1 m2) i x).2), a, b] ∧
    S = [.lst ((List.range i).map fun i => pD (chs m1 m2 (it (stp m1 m2) i x))), .lst ((List.range i).map fun i => pD (it (stp m1 m2) i x))]) ?_ ?_ ?_
  · exact ⟨_, _, _, rfl, rfl⟩
  · rintro i hi r' S P ⟨v, a, b, rfl, rfl⟩ hP _ _
    have l1 := (lt i).1
    have l2 := (lt i).2
    have l3 := h.two.c _ l2
    have l4 := h.one.c _ l1
    simp only [EV.T.bind, List.length_cons, List.length_nil, List.set_cons_succ, List.set_cons_zero, Nat.reduceAdd, Nat.reduceLT, if_true, ite_true, Option.bind_some]
    (rw [zz_cons]; simp -implicitDefEqProofs (disch := first | assumption | omega) [evalS, evalE, evalEs, evalL, evalI, evalC, EV.T.bind, wipe, MS.ok, M.seq_ret, line, isSub, ret_app, count_range, numbered_range, pairs_range, collect_N, collect_F, collect2_N, collect, zz_nil, lift, M.seq, M.ret, lstOf])
    (rw [zz_cons]; simp -implicitDefEqProofs (disch := first | assumption | omega) [evalS, evalE, evalEs, evalL, evalI, evalC, EV.T.bind, wipe, MS.ok, M.seq_ret, line, isSub, ret_app, count_range, numbered_range, pairs_range, collect_N, collect_F, collect2_N, collect, zz_nil])
    (rw [zz_cons]; simp -implicitDefEqProofs (disch := first | assumption | omega) [evalS, evalE, evalEs, evalL, evalI, evalC, EV.T.bind, wipe, MS.ok, M.seq_ret, line, isSub, ret_app, count_range, numbered_range, pairs_range, collect_N, collect_F, collect2_N, collect, zz_nil, lift, M.seq, M.ret, lstOf])
    (rw [zz_cons]; simp -implicitDefEqProofs (disch := first | assumption | omega) [evalS, evalE, evalEs, evalL, evalI, evalC, EV.T.bind, wipe, MS.ok, M.seq_ret, line, isSub, ret_app, count_range, numbered_range, pairs_range, collect_N, collect_F, collect2_N, collect, zz_nil])
    exact Pst.ok (hP _ _ ⟨_, _, _, by rw [it_succ]; rfl, by rw [List.range_succ]; simp; exact ⟨rfl, rfl⟩⟩)
  · rintro r S ⟨v, a, b, rfl, rfl⟩
    (rw [zz_cons]; simp -implicitDefEqProofs (disch := first | assumption | omega) [evalS, evalE, evalEs, evalL, evalI, evalC, EV.T.bind, wipe, MS.ok, M.seq_ret, line, isSub, ret_app, count_range, numbered_range, pairs_range, collect_N, collect_F, collect2_N, collect, zz_nil, lift, M.seq, M.ret, frz])
    exact ret_rt (by first | rfl | simp)
end K87
end
section
set_option Elab.async false
set_option linter.all false
set_option maxRecDepth 100000
set_option maxHeartbeats 4000000
/-! k87, part n: the law's own cycles. -/
namespace EW
open EV
theorem count_from (a : Int) (n : Nat) : count a 1 n = (List.range n).map fun (i : Nat) => D.int (a + i) := by
  have go : ∀ (n k : Nat), count (a + k) 1 n = (List.range' k n).map fun (i : Nat) => D.int (a + i) := by
    intro n
    induction n with
    | zero => intro k; rfl
    | succ n ih =>
      intro k
      rw [count, List.range'_succ, List.map_cons, ← ih (k + 1)]
      rw [show a + (k : Int) + 1 = a + ((k + 1 : Nat) : Int) by omega]
  have := go n 0
  rw [List.range_eq_range', ← this]
  simp
theorem count_one (n : Nat) : count 1 1 n = (List.range n).map fun (i : Nat) => D.int ((i : Int) + 1) := by
  rw [count_from]
  congr 1
  funext i
  rw [Int.add_comm]
@[simp] theorem getI_ls_s {n i : Nat} (F : Nat → D) (h : i + 1 < n) : getI (ls n F) (.int ((i : Int) + 1)) = M.ret (F (i + 1)) := getI_ls F h
@[simp] theorem slice_hi_s {n a : Nat} (F : Nat → D) (h : a + 1 ≤ n) : sliceI (ls n F) none (some ((a : Int) + 1)) = M.ret (ls (a + 1) F) := slice_hi F h
theorem cm_mem_ls {x : D} {n : Nat} {F : Nat → D} (hx : D.deep 30 x = true) (hy : ∀ i, D.deep 30 (F i) = true) : cm .mem x (ls n F) = M.ret (.bl ((List.range n).any fun k => D.eq (F k) x)) := by
  rw [ls, cm_mem_fl hx (deeps_map hy _)]
  unfold memD
  rw [List.any_map]; rfl
theorem filt_first {n i : Nat} {P : Nat → Bool} (h : P i = true) (hi : i < n) (hn : ∀ j, j < i → P j = false) : ∃ t, (List.range n).filter P = i :: t := by
  have go : ∀ (d s : Nat), s + d = n → s ≤ i → ∃ t, (List.range' s d).filter P = i :: t := by
    intro d
    induction d with
    | zero => intro s h1 h2; omega
    | succ d ih =>
      intro s h1 h2
      rw [List.range'_succ, List.filter_cons]
      by_cases e : s = i
      · subst e; rw [if_pos h]; exact ⟨_, rfl⟩
      · rw [if_neg (by rw [hn s (by omega)]; decide)]
        exact ih (s + 1) (by omega) (by omega)
  rw [List.range_eq_range']
  exact go n 0 (by omega) (by omega)
theorem memD_range {n : Nat} {F : Nat → D} {y : D} : memD y ((List.range n).map F) = (List.range n).any fun k => D.eq (F k) y := by
  unfold memD
  rw [List.any_map]; rfl
theorem findIdx_range {n i : Nat} {P : D → Bool} {F : Nat → D} (h : P (F i) = true) (hi : i < n) (hn : ∀ j, j < i → P (F j) = false) : ((List.range n).map F).findIdx? P = some i := by
  rw [List.findIdx?_eq_some_iff_getElem]
  refine ⟨by simpa using hi, by simpa using h, fun j hj => ?_⟩
  simp [hn j hj]
end EW
namespace K87
open EV EW
theorem y_cycle (n r c : Nat) (m1 m2 : Mach) (h : Two r c m1 m2) (x : Nat × Nat) (h1 : x.1 < m1.s) (h2 : x.2 < m2.s) (a p : Nat) (hr : Rho (stp m1 m2) x a p) (hap : a + p ≤ 36) :
    callR (callF fs gl (n + 2) 79) [mD c m1, mD r m2, pD x] = M.ret (.fl [ls a (fun k => pD (chs m1 m2 (it (stp m1 m2) k x))), ls p (fun k => pD (chs m1 m2 (it (stp m1 m2) (a + k) x)))]) := by
  have hp := hr.pos
  have lt := fun k => it_lt2 h.stp k x h1 h2
  refine ev_of f79 rfl rfl (by simp) (by simp) ?_
  have w := y_walk n r c m1 m2 h 40 (by omega) x h1 h2
  have w' : callR (callF fs gl (n + 1) 78) [mD c m1, mD r m2, .int 40, prD x.1 x.2] = _ := w
  have mm : ∀ i k, cm .mem (pD (it (stp m1 m2) i x)) (ls k fun i => pD (it (stp m1 m2) i x)) = _ := fun i k => cm_mem_ls (by simp) (fun i => by simp)
  obtain ⟨q, hq⟩ : ∃ q, a + p = q + 1 := ⟨a + p - 1, by omega⟩
  obtain ⟨t, ht⟩ := filt_first (n := 39) (i := q) (P := fun i => decide (∃ k, k < i + 1 ∧ D.eq (pD (it (stp m1 m2) k x)) (pD (it (stp m1 m2) (i + 1) x)) = true)) (by
    rw [decide_eq_true_iff]
    exact ⟨a, by omega, by rw [eq_pD, ← hq, hr.back]; simp⟩) (by omega) (fun j hj => by
    rw [decide_eq_false_iff_not]
    rintro ⟨k, hk, e⟩
    rw [eq_pD, decide_eq_true_iff] at e
    exact hr.new k (j + 1) hk (by omega) e)
  have ix : idxD (ls 40 fun i => pD (it (stp m1 m2) i x)) (M.ret (pD (it (stp m1 m2) (q + 1) x))) = M.ret (.int a) := idxD_ls (by simp) (fun i => by simp) (by rw [eq_pD, ← hq, hr.back]; simp) (by omega) (fun j hj => by
    rw [eq_pD, ← hq, hr.back, decide_eq_false_iff_not]
    exact hr.new j a hj (by omega))
  have s1 := slice_lh (n := 40) (a := a) (b := q + 1) (fun i => pD (chs m1 m2 (it (stp m1 m2) i x))) (by omega) (by omega)
  rw [Int.natCast_add] at s1
  have s1' : sliceI (ls 40 fun i => pD (chs m1 m2 (it (stp m1 m2) i x))) (some (a : Int)) (some ((q : Int) + 1)) = M.ret (ls p fun k => pD (chs m1 m2 (it (stp m1 m2) (a + k) x))) := by
    rw [show p = q + 1 - a by omega]; exact s1
  dsimp only [f79, start]
  (rw [zz_cons]; simp -implicitDefEqProofs (disch := first | assumption | omega) [evalS, evalE, evalEs, evalL, evalI, evalC, EV.T.bind, wipe, MS.ok, M.seq_ret, line, isSub, ret_app, count_range, numbered_range, pairs_range, collect_N, collect_F, collect2_N, collect, zz_nil, w'])
  (rw [zz_cons]; simp -implicitDefEqProofs (disch := first | assumption | omega) [evalS, evalE, evalEs, evalL, evalI, evalC, EV.T.bind, wipe, MS.ok, M.seq_ret, line, isSub, ret_app, count_range, numbered_range, pairs_range, collect_N, collect_F, collect2_N, collect, zz_nil, count_one, mm, ht])
  (rw [zz_cons]; simp -implicitDefEqProofs (disch := first | assumption | omega) [evalS, evalE, evalEs, evalL, evalI, evalC, EV.T.bind, wipe, MS.ok, M.seq_ret, line, isSub, ret_app, count_range, numbered_range, pairs_range, collect_N, collect_F, collect2_N, collect, zz_nil, ix])
  (rw [zz_cons]; simp -implicitDefEqProofs (disch := first | assumption | omega) [evalS, evalE, evalEs, evalL, evalI, evalC, EV.T.bind, wipe, MS.ok, M.seq_ret, line, isSub, ret_app, count_range, numbered_range, pairs_range, collect_N, collect_F, collect2_N, collect, zz_nil, s1'])
  exact ret_rt (by first | rfl | simp)
theorem y_raised (n b : Nat) (f : Rat) (hf : Bd b f) (k : Nat) (hk : b * k + b < 8000) (hk2 : k ≤ 100) : callR (callF fs gl (n + 4) 82) [fr f, .int k] = M.ret (fr (f ^ k)) := by
  refine ev_of f82 rfl rfl (by simp) (by simp) ?_
  have e1 : D.tup [.int 1, .int 1] = fr 1 := rfl
  dsimp only [f82, start]
  (rw [zz_cons]; simp -implicitDefEqProofs (disch := first | assumption | omega) [evalS, evalE, evalEs, evalL, evalI, evalC, EV.T.bind, wipe, MS.ok, M.seq_ret, line, isSub, ret_app, count_range, numbered_range, pairs_range, collect_N, collect_F, collect2_N, collect, zz_nil, e1])
  (rw [zz_cons]; simp -implicitDefEqProofs (disch := first | assumption | omega) [evalS, evalE, evalEs, evalL, evalI, evalC, EV.T.bind, wipe, MS.ok, M.seq_ret, line, isSub, ret_app, count_range, numbered_range, pairs_range, collect_N, collect_F, collect2_N, collect, zz_nil, if_pos, if_neg])
  refine lpN (I := fun i r S => ∃ v, r = [some (fr f), some (.int k), some (fr (f ^ i)), v]) ?_ ?_ ?_
  · exact ⟨none, by rw [Rat.pow_zero]⟩
  · rintro i hi r S P ⟨v, rfl⟩ hP _ _
    have := Nat.mul_le_mul_left b (show i ≤ k by omega)
    have q1 := y_mul n (bd_pow hf i) hf (by omega)
    simp only [EV.T.bind, List.length_cons, List.length_nil, List.set_cons_succ, List.set_cons_zero, Nat.reduceAdd, Nat.reduceLT, if_true, ite_true, Option.bind_some]
    (rw [zz_cons]; simp -implicitDefEqProofs (disch := first | assumption | omega) [evalS, evalE, evalEs, evalL, evalI, evalC, EV.T.bind, wipe, MS.ok, M.seq_ret, line, isSub, ret_app, count_range, numbered_range, pairs_range, collect_N, collect_F, collect2_N, collect, zz_nil, q1])
    exact Pst.ok (hP _ _ ⟨_, by rw [Rat.pow_succ]⟩)
  · rintro r S ⟨v, rfl⟩
    (rw [zz_cons]; simp -implicitDefEqProofs (disch := first | assumption | omega) [evalS, evalE, evalEs, evalL, evalI, evalC, EV.T.bind, wipe, MS.ok, M.seq_ret, line, isSub, ret_app, count_range, numbered_range, pairs_range, collect_N, collect_F, collect2_N, collect, zz_nil])
    exact ret_rt (by first | rfl | simp)
theorem pow_add (f : Rat) (a : Nat) : ∀ n : Nat, f ^ (a + n) = f ^ a * f ^ n
  | 0 => by rw [Nat.add_zero, Rat.pow_zero]; grind
  | n + 1 => by rw [← Nat.add_assoc, Rat.pow_succ, Rat.pow_succ, pow_add f a n]; grind
theorem fold_snoc (f : Rat) (u : Nat → Rat) (a n : Nat) : fold f (us u a (n + 1)) 0 = fold f (us u a n) 0 + f ^ n * u (a + n) := by
  rw [us_snoc, fold_app, fold_lin, us_len]
  simp only [fold]
  grind
/-- what a table tells of a pair of states -/
def gt (A : Nat → Nat → Int) (m1 m2 : Mach) (x : Nat × Nat) : Rat := (A (chs m1 m2 x).1 (chs m1 m2 x).2 : Rat)
theorem y_worth (n r c : Nat) (A : Nat → Nat → Int) (hA : ∀ i j, (A i j).natAbs ≤ 100) (m1 m2 : Mach) (h : Two r c m1 m2) (x : Nat × Nat) (h1 : x.1 < m1.s) (h2 : x.2 < m2.s) (hs : m1.s * m2.s ≤ 16) {f : Rat} (hf : Fac 6 f) :
    callR (callF fs gl (n + 5) 85) [lI r c A, mD c m1, mD r m2, pD x, fr f] = M.ret (fr (wo f (stp m1 m2) (gt A m1 m2) x)) ∧ Bd 4000 (wo f (stp m1 m2) (gt A m1 m2) x) := by
  obtain ⟨a, p, hr, hap⟩ := rho_pair h.stp h1 h2
  have hp := hr.pos
  have lt := fun k => it_lt2 h.stp k x h1 h2
  have lc := fun k => chs_lt h (lt k).1 (lt k).2
  have hW : wo f (stp m1 m2) (gt A m1 m2) x = val f (fun n => gt A m1 m2 (it (stp m1 m2) n x)) a p := wo_eq hf.h0 hf.h1 hr.pos hr.back
  have hu : ∀ n, Bd 8 ((fun n => gt A m1 m2 (it (stp m1 m2) n x)) n) := fun n => bd_int (hA _ _)
  have hc := y_cycle (n + 2) r c m1 m2 h x h1 h2 a p hr (by omega)
  have e1 : D.tup [.int 1, .int 1] = fr 1 := rfl
  have e0 : D.tup [.int 0, .int 1] = fr 0 := rfl
  have ei : ∀ i : Int, D.tup [.int i, .int 1] = fr (i : Rat) := fun i => rfl
  have p1 : 0 < 1 - f ^ p := by have := pow_lt hf.h0 hf.h1 hp; grind
  generalize hug : (fun n => gt A m1 m2 (it (stp m1 m2) n x)) = u at *
  have hue : ∀ k, u k = (A (chs m1 m2 (it (stp m1 m2) k x)).1 (chs m1 m2 (it (stp m1 m2) k x)).2 : Rat) := fun k => by rw [← hug]; rfl
  have b1 : ∀ (s i : Nat), i ≤ 16 → Bd (i * 108 + 1) (fold f (us u s i) 0) := by
    intro s i hi
    have := bd_fold hf.b (us_all hu s i) bd_zero
    rw [us_len] at this
    exact this.mono (by omega)
  have bp : ∀ i, i ≤ 16 → Bd 97 (f ^ i) := fun i hi => (bd_pow hf.b i).mono (by omega)
  have hv : wo f (stp m1 m2) (gt A m1 m2) x = (1 - f) * (fold f (us u 0 a) 0 + f ^ a * fold f (us u a p) 0 / (1 - f ^ p)) := by
    rw [hW]
    unfold val cyc
    rw [fold_lin f (us u 0 a), us_len, Rat.div_def, Rat.div_def, Rat.mul_assoc (f ^ a)]
  rw [hv]
  have b2 := bd_mul (bp a (by omega)) (b1 a p (by omega))
  have b3 := bd_sub bd_one (bp p (by omega))
  have b4 := bd_div b2 b3 p1
  have b5 := bd_add (b1 0 a (by omega)) b4
  have b6 := bd_sub bd_one hf.b
  refine ⟨ev_of f85 rfl rfl (by simp) (by simp) ?_, (bd_mul b6 b5).mono (by omega)⟩
  dsimp only [f85, start]
  (rw [zz_cons]; simp -implicitDefEqProofs (disch := first | assumption | omega) [evalS, evalE, evalEs, evalL, evalI, evalC, EV.T.bind, wipe, MS.ok, M.seq_ret, line, isSub, ret_app, count_range, numbered_range, pairs_range, collect_N, collect_F, collect2_N, collect, zz_nil, hc])
  (rw [zz_cons]; simp -implicitDefEqProofs (disch := first | assumption | omega) [evalS, evalE, evalEs, evalL, evalI, evalC, EV.T.bind, wipe, MS.ok, M.seq_ret, line, isSub, ret_app, count_range, numbered_range, pairs_range, collect_N, collect_F, collect2_N, collect, zz_nil, e1, e0])
  (rw [zz_cons]; simp -implicitDefEqProofs (disch := first | assumption | omega) [evalS, evalE, evalEs, evalL, evalI, evalC, EV.T.bind, wipe, MS.ok, M.seq_ret, line, isSub, ret_app, count_range, numbered_range, pairs_range, collect_N, collect_F, collect2_N, collect, zz_nil])
  refine lpN (I := fun i r' S => ∃ v w, r' = [some (lI r c A), some (mD c m1), some (mD r m2), some (pD x), some (fr f), none, none, some (ls a fun k => pD (chs m1 m2 (it (stp m1 m2) k x))), some (ls p fun k => pD (chs m1 m2 (it (stp m1 m2) (a + k) x))), some (fr (fold f (us u 0 i) 0)), some (fr (f ^ i)), v, w]) ?_ ?_ ?_
  · exact ⟨_, _, by rw [Rat.pow_zero]; rfl⟩
  · rintro i hi r' S P ⟨v, w, rfl⟩ hP _ _
    have l1 := (lc i).1
    have l2 := (lc i).2
    have q1 := y_mul (n + 1) (bp i (by omega)) (hu i) (by omega)
    have q2 := y_add (n + 1) (b1 0 i (by omega)) (bd_mul (bp i (by omega)) (hu i)) (by omega)
    have q3 := y_mul (n + 1) (bp i (by omega)) hf.b (by omega)
    rw [hue] at q1 q2
    simp only [prD]
    simp only [EV.T.bind, List.length_cons, List.length_nil, List.set_cons_succ, List.set_cons_zero, Nat.reduceAdd, Nat.reduceLT, if_true, ite_true, Option.bind_some]
    (rw [zz_cons]; simp -implicitDefEqProofs (disch := first | assumption | omega) [evalS, evalE, evalEs, evalL, evalI, evalC, EV.T.bind, wipe, MS.ok, M.seq_ret, line, isSub, ret_app, count_range, numbered_range, pairs_range, collect_N, collect_F, collect2_N, collect, zz_nil, ei, q1, q2, q3])
    exact Pst.ok (hP _ _ ⟨_, _, by rw [fold_snoc, Nat.zero_add, hue, Rat.pow_succ]; rfl⟩)
  · rintro r' S ⟨v, w, rfl⟩
    (rw [zz_cons]; simp -implicitDefEqProofs (disch := first | assumption | omega) [evalS, evalE, evalEs, evalL, evalI, evalC, EV.T.bind, wipe, MS.ok, M.seq_ret, line, isSub, ret_app, count_range, numbered_range, pairs_range, collect_N, collect_F, collect2_N, collect, zz_nil, e0])
    (rw [zz_cons]; simp -implicitDefEqProofs (disch := first | assumption | omega) [evalS, evalE, evalEs, evalL, evalI, evalC, EV.T.bind, wipe, MS.ok, M.seq_ret, line, isSub, ret_app, count_range, numbered_range, pairs_range, collect_N, collect_F, collect2_N, collect, zz_nil])
    refine lpN (I := fun i r' S => ∃ v w, r' = [some (lI r c A), some (mD c m1), some (mD r m2), some (pD x), some (fr f), some (fr (f ^ a * fold f (us u a i) 0)), none, some (ls a fun k => pD (chs m1 m2 (it (stp m1 m2) k x))), some (ls p fun k => pD (chs m1 m2 (it (stp m1 m2) (a + k) x))), some (fr (fold f (us u 0 a) 0)), some (fr (f ^ (a + i))), v, w]) ?_ ?_ ?_
    · exact ⟨_, _, by simp [us, fold, Rat.mul_zero]; exact ⟨rfl, rfl⟩⟩
    · rintro i hi r' S P ⟨v, w, rfl⟩ hP _ _
      have l1 := (lc (a + i)).1
      have l2 := (lc (a + i)).2
      have q1 := y_mul (n + 1) (bp (a + i) (by omega)) (hu (a + i)) (by omega)
      have q2 := y_add (n + 1) (bd_mul (bp a (by omega)) (b1 a i (by omega))) (bd_mul (bp (a + i) (by omega)) (hu (a + i))) (by omega)
      have q3 := y_mul (n + 1) (bp (a + i) (by omega)) hf.b (by omega)
      rw [hue] at q1 q2
      simp only [prD]
      simp only [EV.T.bind, List.length_cons, List.length_nil, List.set_cons_succ, List.set_cons_zero, Nat.reduceAdd, Nat.reduceLT, if_true, ite_true, Option.bind_some]
      (rw [zz_cons]; simp -implicitDefEqProofs (disch := first | assumption | omega) [evalS, evalE, evalEs, evalL, evalI, evalC, EV.T.bind, wipe, MS.ok, M.seq_ret, line, isSub, ret_app, count_range, numbered_range, pairs_range, collect_N, collect_F, collect2_N, collect, zz_nil, ei, q1, q2, q3])
      have pa : f ^ (a + i) = f ^ a * f ^ i := pow_add f a i
      have e : f ^ a * fold f (us u a i) 0 + f ^ (a + i) * (A (chs m1 m2 (it (stp m1 m2) (a + i) x)).1 (chs m1 m2 (it (stp m1 m2) (a + i) x)).2 : Rat) = f ^ a * fold f (us u a (i + 1)) 0 := by
        rw [fold_snoc, hue, pa]; grind
      exact Pst.ok (hP _ _ ⟨_, _, by rw [← e, ← Nat.add_assoc, Rat.pow_succ]; rfl⟩)
    · rintro r' S ⟨v, w, rfl⟩
      have q1 := y_raised n 6 f hf.b p (by omega) (by omega)
      have q2 := y_sub (n + 1) bd_one (bp p (by omega)) (by omega)
      have q3 := y_sub (n + 1) bd_one hf.b (by omega)
      have q4 := y_div (n + 1) b2 b3 (by omega) p1
      have q5 := y_add (n + 1) (b1 0 a (by omega)) b4 (by omega)
      have q6 := y_mul (n + 1) b6 b5 (by omega)
      (rw [zz_cons]; simp -implicitDefEqProofs (disch := first | assumption | omega) [evalS, evalE, evalEs, evalL, evalI, evalC, EV.T.bind, wipe, MS.ok, M.seq_ret, line, isSub, ret_app, count_range, numbered_range, pairs_range, collect_N, collect_F, collect2_N, collect, zz_nil, e1, q1, q2])
      (rw [zz_cons]; simp -implicitDefEqProofs (disch := first | assumption | omega) [evalS, evalE, evalEs, evalL, evalI, evalC, EV.T.bind, wipe, MS.ok, M.seq_ret, line, isSub, ret_app, count_range, numbered_range, pairs_range, collect_N, collect_F, collect2_N, collect, zz_nil, e1, q3, q4, q5, q6])
      exact ret_rt (by first | rfl | simp)
end K87
end
section
set_option Elab.async false
set_option linter.all false
set_option maxRecDepth 100000
set_option maxHeartbeats 4000000
/-! k87, part o: shortest lists for an endless one. -/
namespace K87
open EV EW
/-- a list of pairs -/
def bl (xs : List (Nat × Nat)) : D := .fl (xs.map pD)
theorem ls_bl (n : Nat) (F : Nat → Nat × Nat) : ls n (fun k => pD (F k)) = bl ((List.range n).map F) := by
  rw [bl, List.map_map]; rfl
theorem rfs_pD (xs : List (Nat × Nat)) : D.rfs (xs.map pD) = true := by
  induction xs with
  | nil => rfl
  | cons x xs ih => rw [List.map_cons, rfs_cons, ih]; simp
theorem deeps_pD (n : Nat) (xs : List (Nat × Nat)) : D.deeps (n + 2) (xs.map pD) = true := by
  induction xs with
  | nil => simp
  | cons x xs ih => rw [List.map_cons, deeps_cons, ih]; simp
@[simp] theorem rf_bl (xs : List (Nat × Nat)) : (bl xs).rf = true := rfs_pD xs
@[simp] theorem deep_bl' (n : Nat) (xs : List (Nat × Nat)) : D.deep (n + 3) (bl xs) = true := deeps_pD n xs
@[simp] theorem len_bl (xs : List (Nat × Nat)) : bi .len [bl xs] = M.ret (.int xs.length) := by rw [bl, len_fl]; simp
@[simp] theorem seqOf_bl (xs : List (Nat × Nat)) : seqOf (bl xs) = M.ret (xs.map pD) := rfl
theorem eqs_pD : ∀ (xs ys : List (Nat × Nat)), D.eqs (xs.map pD) (ys.map pD) = decide (xs = ys)
  | [], [] => by simp [D.eqs]
  | [], y :: ys => by simp [D.eqs]
  | x :: xs, [] => by simp [D.eqs]
  | x :: xs, y :: ys => by
    rw [List.map_cons, List.map_cons, D.eqs, eqs_pD xs ys, eq_pD]
    simp
@[simp] theorem cm_eq_bl' (xs ys : List (Nat × Nat)) : cm .eq (bl xs) (bl ys) = M.ret (.bl (decide (xs = ys))) := by
  rw [cm_eq (by simp) (by simp)]
  show M.ret (D.bl (D.eqs _ _)) = _
  rw [eqs_pD]
@[simp] theorem cm_ne_bl0 (xs : List (Nat × Nat)) : cm .ne (bl xs) (.fl []) = M.ret (.bl (!decide (xs = []))) := by
  rw [cm_ne (by simp) (by simp)]
  show M.ret (D.bl (!D.eqs _ ([] : List D))) = _
  have := eqs_pD xs []
  rw [List.map_nil] at this
  rw [this]
@[simp] theorem cm_eq_prD (i j k l : Nat) : cm .eq (prD i j) (prD k l) = M.ret (.bl (decide ((i, j) = (k, l)))) := by
  rw [cm_eq (by simp) (by simp), eq_prD]
theorem slice_bl_hi (xs : List (Nat × Nat)) (k : Nat) : sliceI (bl xs) none (some (k : Int)) = M.ret (bl (xs.take k)) := by
  show M.ret (D.fl (cut (xs.map pD) none (some (k : Int)))) = _
  unfold cut edge
  have h0 : ¬ (k : Int) < 0 := by omega
  simp only [h0, if_false, List.drop_zero, Int.toNat_natCast, Nat.sub_zero, ← List.map_take, List.length_map]
  rw [bl]
  by_cases h : k ≤ xs.length
  · rw [Nat.min_eq_left h]
  · rw [Nat.min_eq_right (by omega), List.take_of_length_le (Nat.le_refl _), List.take_of_length_le (by omega)]
@[simp] theorem slice_bl_hi_s (xs : List (Nat × Nat)) (k : Nat) : sliceI (bl xs) none (some ((k : Int) + 1)) = M.ret (bl (xs.take (k + 1))) := slice_bl_hi xs (k + 1)
theorem cut_m1 (xs : List D) (y : D) : cut (xs ++ [y]) none (some (-1)) = xs ∧ cut (xs ++ [y]) (some (-1)) none = [y] := by
  unfold cut edge
  have h0 : (-1 : Int) < 0 := by omega
  have e : (-1 + ((xs ++ [y]).length : Int)).toNat = xs.length := by simp; omega
  simp only [h0, if_true, e, List.drop_zero, Nat.sub_zero]
  simp
theorem slice_last (xs : List (Nat × Nat)) (y : Nat × Nat) : sliceI (bl (xs ++ [y])) none (some (-1)) = M.ret (bl xs) ∧ sliceI (bl (xs ++ [y])) (some (-1)) none = M.ret (bl [y]) := by
  obtain ⟨h1, h2⟩ := cut_m1 (xs.map pD) (pD y)
  constructor
  · show M.ret (D.fl (cut ((xs ++ [y]).map pD) none (some (-1)))) = _
    rw [List.map_append, List.map_cons, List.map_nil, h1]; rfl
  · show M.ret (D.fl (cut ((xs ++ [y]).map pD) (some (-1)) none)) = _
    rw [List.map_append, List.map_cons, List.map_nil, h2]; rfl
theorem getI_last (xs : List (Nat × Nat)) (y : Nat × Nat) : getI (bl (xs ++ [y])) (.int (-1)) = M.ret (pD y) := by
  rw [bl, getI_fl, List.map_append, List.map_cons, List.map_nil, nth_last]; rfl
theorem add_bl (xs ys : List (Nat × Nat)) (h : xs.length + ys.length ≤ 100) : op2 .add (bl xs) (bl ys) = M.ret (bl (xs ++ ys)) := by
  rw [bl, bl, op2_add_fl (by simp; omega), bl, List.map_append]
@[simp] theorem rep_bl (xs : List (Nat × Nat)) {k : Nat} (h : k < 1000) (h2 : xs.length ≤ 1000) : op2 .mul (bl xs) (.int k) = M.ret (bl (List.replicate k xs).flatten) := by
  rw [bl, op2_rep_fl h (by simpa using h2), bl, List.map_flatten, List.map_replicate]
/-- the rolling back of what is ahead -/
def roll : Nat → List (Nat × Nat) → List (Nat × Nat) → List (Nat × Nat) × List (Nat × Nat)
  | 0, b, a => (b, a)
  | n + 1, b, a => if b ≠ [] ∧ b.getLast? = a.getLast? then roll n b.dropLast (a.getLast?.toList ++ a.dropLast) else (b, a)
theorem snoc_ex {α : Type} {xs : List α} (h : xs ≠ []) : ∃ ys y, xs = ys ++ [y] := ⟨xs.dropLast, xs.getLast h, (List.dropLast_concat_getLast h).symm⟩
def rollC : E := .and_ (.cmp .ne (.var 0) (.fl (.disp .nil))) (.cmp .eq (.idx (.var 0) (.neg (.int 1))) (.idx (.var 1) (.neg (.int 1))))
def rollB : Ss := .cons (.asg (.pair (.name 0) (.name 1)) (.tup (.cons (.slHi (.var 0) (.neg (.int 1))) (.cons (.bin .add (.slLo (.var 1) (.neg (.int 1))) (.slHi (.var 1) (.neg (.int 1)))) .nil)))) .nil
theorem roll_spin (call : Nat → List D → M D) (S : Store) : ∀ (n m : Nat) (b a : List (Nat × Nat)) (rest : Env), b.length ≤ n → a ≠ [] → a.length ≤ 50 → n < m →
    EV.spin (fun r => M.seq (evalE call gl rollC r) blOf) (fun r => evalSs call gl rollB r) m (some (bl b) :: some (bl a) :: rest) S = .ok (.nx (some (bl (roll n b a).1) :: some (bl (roll n b a).2) :: rest)) S := by
  intro n
  induction n with
  | zero =>
    intro m b a rest hb ha _ hm
    obtain ⟨m, rfl⟩ : ∃ j, m = j + 1 := ⟨m - 1, by omega⟩
    have hb : b = [] := List.eq_nil_of_length_eq_zero (by omega)
    subst hb
    rw [EV.spin, rollC]
    simp -implicitDefEqProofs (disch := first | assumption | omega) [evalS, evalE, evalEs, evalL, evalI, evalC, EV.T.bind, wipe, MS.ok, M.seq_ret, line, isSub, ret_app, count_range, numbered_range, pairs_range, collect_N, collect_F, collect2_N, collect, zz_nil]
    exact ⟨rfl, rfl⟩
  | succ n ih =>
    intro m b a rest hb ha hal hm
    obtain ⟨m, rfl⟩ : ∃ j, m = j + 1 := ⟨m - 1, by omega⟩
    by_cases hbn : b = []
    · subst hbn
      rw [EV.spin, rollC]
      simp -implicitDefEqProofs (disch := first | assumption | omega) [evalS, evalE, evalEs, evalL, evalI, evalC, EV.T.bind, wipe, MS.ok, M.seq_ret, line, isSub, ret_app, count_range, numbered_range, pairs_range, collect_N, collect_F, collect2_N, collect, zz_nil]
      exact ⟨by rw [roll, if_neg (by simp)], by rw [roll, if_neg (by simp)]⟩
    · obtain ⟨bs, b1, rfl⟩ := snoc_ex hbn
      obtain ⟨as, a1, rfl⟩ := snoc_ex ha
      have g1 := getI_last bs b1
      have g2 := getI_last as a1
      by_cases he : b1 = a1
      · subst he
        have ih' := ih m bs ([b1] ++ as) rest (by simpa using hb) (by simp) (by simp at hal ⊢; omega) (by omega)
        rw [roll, if_pos ⟨by simp, by simp⟩]
        have e1 : (bs ++ [b1]).dropLast = bs := by simp
        have e2 : (as ++ [b1]).getLast?.toList ++ (as ++ [b1]).dropLast = [b1] ++ as := by simp
        rw [e1, e2, ← ih']
        conv => lhs; rw [EV.spin]
        have c : M.seq (evalE call gl rollC (some (bl (bs ++ [b1])) :: some (bl (as ++ [b1])) :: rest)) blOf = M.ret true := by
          rw [rollC]
          simp -implicitDefEqProofs (disch := first | assumption | omega) [evalS, evalE, evalEs, evalL, evalI, evalC, EV.T.bind, wipe, MS.ok, M.seq_ret, line, isSub, ret_app, count_range, numbered_range, pairs_range, collect_N, collect_F, collect2_N, collect, zz_nil, g1, g2]
        rw [c, lift_ret]
        have s1 := slice_last bs b1
        have s2 := slice_last as b1
        have ad := add_bl [b1] as (by simp at hal ⊢; omega)
        have b : evalSs call gl rollB (some (bl (bs ++ [b1])) :: some (bl (as ++ [b1])) :: rest) S = .ok (.nx (some (bl bs) :: some (bl ([b1] ++ as)) :: rest)) S := by
          rw [rollB]
          (rw [zz_cons]; simp -implicitDefEqProofs (disch := first | assumption | omega) [evalS, evalE, evalEs, evalL, evalI, evalC, EV.T.bind, wipe, MS.ok, M.seq_ret, line, isSub, ret_app, count_range, numbered_range, pairs_range, collect_N, collect_F, collect2_N, collect, zz_nil, s1, s2, ad])
        simp only [if_true]
        rw [b]
      · rw [roll, if_neg (by simp; exact he)]
        rw [EV.spin, rollC]
        have : ¬ (b1.1, b1.2) = (a1.1, a1.2) := he
        simp -implicitDefEqProofs (disch := first | assumption | omega) [evalS, evalE, evalEs, evalL, evalI, evalC, EV.T.bind, wipe, MS.ok, M.seq_ret, line, isSub, ret_app, count_range, numbered_range, pairs_range, collect_N, collect_F, collect2_N, collect, zz_nil, g1, g2, this]
theorem roll_sum (f : Nat × Nat → Int) : ∀ (n : Nat) (b a : List (Nat × Nat)), ((roll n b a).2.map f).sum = (a.map f).sum ∧ (roll n b a).2.length = a.length
  | 0, b, a => ⟨rfl, rfl⟩
  | n + 1, b, a => by
    rw [roll]
    split
    · rename_i h
      obtain ⟨i1, i2⟩ := roll_sum f n b.dropLast (a.getLast?.toList ++ a.dropLast)
      rw [i1, i2]
      by_cases ha : a = []
      · subst ha; simp
      · obtain ⟨as, a1, rfl⟩ := snoc_ex ha
        simp
        omega
    · exact ⟨rfl, rfl⟩
theorem first_ex (P : Nat → Bool) : ∀ n, P n = true → ∃ q, q ≤ n ∧ P q = true ∧ ∀ j, j < q → P j = false := by
  intro n
  induction n using Nat.strongRecOn with
  | _ n ih =>
    intro h
    by_cases e : ∃ j, j < n ∧ P j = true
    · obtain ⟨j, hj, hp⟩ := e
      obtain ⟨q, h1, h2, h3⟩ := ih j hj hp
      exact ⟨q, by omega, h2, h3⟩
    · exact ⟨n, Nat.le_refl _, h, fun j hj => by
        cases hp : P j with
        | false => rfl
        | true => exact absurd ⟨j, hj, hp⟩ e⟩
/-- so long a part, again and again, is the whole -/
def Rep (xs : List (Nat × Nat)) (l : Nat) : Prop := xs.length % l = 0 ∧ (List.replicate (xs.length / l) (xs.take l)).flatten = xs
structure Short (xs : List (Nat × Nat)) (q : Nat) : Prop where
  lt : q < xs.length
  rep : Rep xs (q + 1)
  new : ∀ j, j < q → ¬ Rep xs (j + 1)
theorem short_ex {xs : List (Nat × Nat)} (h : xs ≠ []) : ∃ q, Short xs q := by
  have hl : 0 < xs.length := List.length_pos_iff.mpr h
  have hr : Rep xs (xs.length - 1 + 1) := by
    rw [Nat.sub_add_cancel hl]
    refine ⟨Nat.mod_self _, ?_⟩
    rw [Nat.div_self hl, List.take_length]
    simp
  obtain ⟨q, h1, h2, h3⟩ := first_ex (fun j => @decide (Rep xs (j + 1)) (Classical.propDecidable _)) (xs.length - 1) (by simpa using hr)
  exact ⟨q, by omega, by simpa using h2, fun j hj => by simpa using h3 j hj⟩
theorem md_cast (n i : Nat) : ((n : Int) % ((i : Int) + 1) = 0) ↔ n % (i + 1) = 0 := by
  rw [show ((i : Int) + 1) = ((i + 1 : Nat) : Int) by omega, ← Int.natCast_emod]
  omega
theorem rep_div (xs : List (Nat × Nat)) (hx : xs.length ≤ 36) (i : Nat) : op2 .mul (bl (xs.take (i + 1))) (.int ((xs.length : Int) / ((i : Int) + 1))) = M.ret (bl (List.replicate (xs.length / (i + 1)) (xs.take (i + 1))).flatten) := by
  rw [show ((i : Int) + 1) = ((i + 1 : Nat) : Int) by omega, ← Int.natCast_ediv]
  exact rep_bl (xs.take (i + 1)) (by have := Nat.div_le_self xs.length (i + 1); omega) (by rw [List.length_take]; omega)
theorem x_shortest (n : Nat) (b xs : List (Nat × Nat)) (hx : xs.length ≤ 36) (hb : b.length ≤ 36) (q : Nat) (h : Short xs q) :
    callR (callF fs gl (n + 1) 73) [bl b, bl xs] = M.ret (.tup [bl (roll b.length b (xs.take (q + 1))).1, bl (roll b.length b (xs.take (q + 1))).2]) := by
  have hq := h.lt
  obtain ⟨t, ht⟩ := filt_first (n := xs.length) (i := q) (P := fun i => decide ((List.replicate (xs.length / (i + 1)) (xs.take (i + 1))).flatten = xs) && decide ((xs.length : Int) % ((i : Int) + 1) = 0)) (by
    have := h.rep
    simp only [md_cast]
    simp [this.1, this.2]) hq (fun j hj => by
    have := h.new j hj
    simp only [Rep, not_and] at this
    simp only [md_cast]
    simp
    intro e1 e2
    exact this e2 e1)
  have hF : ((List.range xs.length).filter fun (i : Nat) => decide ((xs.length : Int) % ((i : Int) + 1) = 0)).length ≤ 36 := by
    have := List.length_filter_le (fun (i : Nat) => decide ((xs.length : Int) % ((i : Int) + 1) = 0)) (List.range xs.length)
    rw [List.length_range] at this
    omega
  refine ev_of f73 rfl rfl (by simp) (by simp) ?_
  have sp := roll_spin (callF fs gl n) [] b.length fuel b (xs.take (q + 1)) [some (.int xs.length), some (.fl (((List.range xs.length).filter fun (i : Nat) => decide ((xs.length : Int) % ((i : Int) + 1) = 0)).map fun (i : Nat) => .int ((i : Int) + 1))), none] (Nat.le_refl _) (by
    intro e
    have := congrArg List.length e
    rw [List.length_take, List.length_nil] at this
    omega) (by rw [List.length_take]; omega) (by unfold fuel; omega)
  dsimp only [f73, start]
  (rw [zz_cons]; simp -implicitDefEqProofs (disch := first | assumption | omega) [evalS, evalE, evalEs, evalL, evalI, evalC, EV.T.bind, wipe, MS.ok, M.seq_ret, line, isSub, ret_app, count_range, numbered_range, pairs_range, collect_N, collect_F, collect2_N, collect, zz_nil])
  (rw [zz_cons]; simp -implicitDefEqProofs (disch := first | assumption | omega) [evalS, evalE, evalEs, evalL, evalI, evalC, EV.T.bind, wipe, MS.ok, M.seq_ret, line, isSub, ret_app, count_range, numbered_range, pairs_range, collect_N, collect_F, collect2_N, collect, zz_nil, count_one, if_pos])
  (rw [zz_cons]; simp -implicitDefEqProofs (disch := first | assumption | omega) [evalS, evalE, evalEs, evalL, evalI, evalC, EV.T.bind, wipe, MS.ok, M.seq_ret, line, isSub, ret_app, count_range, numbered_range, pairs_range, collect_N, collect_F, collect2_N, collect, zz_nil, slice_bl_hi, rep_div xs hx, ht])
  rw [zz_cons]
  simp only [evalS]
  rw [show (E.cmp Cm.ne (E.var 0) (E.fl (L.disp Es.nil))).and_ (E.cmp Cm.eq ((E.var 0).idx (E.int 1).neg) ((E.var 1).idx (E.int 1).neg)) = rollC from rfl]
  simp only [rollB] at sp
  rw [sp, bnd_nx]
  (rw [zz_cons]; simp -implicitDefEqProofs (disch := first | assumption | omega) [evalS, evalE, evalEs, evalL, evalI, evalC, EV.T.bind, wipe, MS.ok, M.seq_ret, line, isSub, ret_app, count_range, numbered_range, pairs_range, collect_N, collect_F, collect2_N, collect, zz_nil])
  exact ret_rt (by first | rfl | simp)
theorem dm_cast (n i : Nat) : ((n : Int) / ((i : Int) + 1) * ((i : Int) + 1) = n) ↔ n % (i + 1) = 0 := by
  rw [show ((i : Int) + 1) = ((i + 1 : Nat) : Int) by omega, ← Int.natCast_ediv, ← Int.natCast_mul]
  have := Nat.div_add_mod n (i + 1)
  rw [Nat.mul_comm] at this
  omega
theorem y_shortest (n : Nat) (b xs : List (Nat × Nat)) (hx : xs.length ≤ 36) (hb : b.length ≤ 36) (q : Nat) (h : Short xs q) :
    callR (callF fs gl (n + 1) 80) [bl b, bl xs] = M.ret (.fl [bl (roll b.length b (xs.take (q + 1))).1, bl (roll b.length b (xs.take (q + 1))).2]) := by
  have hq := h.lt
  obtain ⟨t, ht⟩ := filt_first (n := xs.length) (i := q) (P := fun (i : Nat) => decide ((xs.length : Int) / ((i : Int) + 1) * ((i : Int) + 1) = xs.length) && decide ((List.replicate (xs.length / (i + 1)) (xs.take (i + 1))).flatten = xs)) (by
    have := h.rep
    simp only [dm_cast]
    simp [this.1, this.2]) hq (fun j hj => by
    have := h.new j hj
    simp only [Rep, not_and] at this
    simp only [dm_cast]
    simp
    exact this)
  refine ev_of f80 rfl rfl (by simp) (by simp) ?_
  have sp := roll_spin (callF fs gl n) [] b.length fuel b (xs.take (q + 1)) [some (.int ((q : Int) + 1)), none] (Nat.le_refl _) (by
    intro e
    have := congrArg List.length e
    rw [List.length_take, List.length_nil] at this
    omega) (by rw [List.length_take]; omega) (by unfold fuel; omega)
  have hdv : ∀ i : Nat, (0 : Int) ≤ (xs.length : Int) / ((i : Int) + 1) ∧ (xs.length : Int) / ((i : Int) + 1) ≤ xs.length := fun i => by
    have h1 := Int.ediv_nonneg (a := (xs.length : Int)) (b := (i : Int) + 1) (by omega) (by omega)
    have h2 := Int.ediv_le_self (a := (xs.length : Int)) ((i : Int) + 1) (by omega)
    omega
  have hml : ∀ i : Nat, i < xs.length → op2 .mul (.int ((xs.length : Int) / ((i : Int) + 1))) (.int ((i : Int) + 1)) = M.ret (.int ((xs.length : Int) / ((i : Int) + 1) * ((i : Int) + 1))) := fun i hi => op2_mul (by have := hdv i; omega) (by omega)
  dsimp only [f80, start]
  (rw [zz_cons]; simp -implicitDefEqProofs (disch := first | assumption | omega) [evalS, evalE, evalEs, evalL, evalI, evalC, EV.T.bind, wipe, MS.ok, M.seq_ret, line, isSub, ret_app, count_range, numbered_range, pairs_range, collect_N, collect_F, collect2_N, collect, zz_nil, count_one, if_pos, slice_bl_hi, rep_div xs hx, hml, ht])
  (rw [zz_cons]; simp -implicitDefEqProofs (disch := first | assumption | omega) [evalS, evalE, evalEs, evalL, evalI, evalC, EV.T.bind, wipe, MS.ok, M.seq_ret, line, isSub, ret_app, count_range, numbered_range, pairs_range, collect_N, collect_F, collect2_N, collect, zz_nil, slice_bl_hi])
  simp only [show D.fl (b.map pD) = bl b from rfl]
  rw [zz_cons]
  simp only [evalS]
  rw [show (E.cmp Cm.ne (E.var 0) (E.fl (L.disp Es.nil))).and_ (E.cmp Cm.eq ((E.var 0).idx (E.int 1).neg) ((E.var 1).idx (E.int 1).neg)) = rollC from rfl]
  simp only [rollB] at sp
  rw [sp, bnd_nx]
  (rw [zz_cons]; simp -implicitDefEqProofs (disch := first | assumption | omega) [evalS, evalE, evalEs, evalL, evalI, evalC, EV.T.bind, wipe, MS.ok, M.seq_ret, line, isSub, ret_app, count_range, numbered_range, pairs_range, collect_N, collect_F, collect2_N, collect, zz_nil])
  exact ret_rt (by first | rfl | simp)
/-- the choices of one way around -/
def around (m1 m2 : Mach) (x : Nat × Nat) (a p : Nat) : List (Nat × Nat) := (List.range p).map fun k => chs m1 m2 (it (stp m1 m2) (a + k) x)
def ahead (m1 m2 : Mach) (x : Nat × Nat) (a : Nat) : List (Nat × Nat) := (List.range a).map fun k => chs m1 m2 (it (stp m1 m2) k x)
theorem x_cycle_of (n : Nat) (G : Gm) (hG : G.ok) (m1 m2 : Mach) (h : Two G.r G.c m1 m2) (a p : Nat) (hr : Rho (stp m1 m2) (0, 0) a p) (hap : a + p ≤ 36) (q : Nat) (hq : Short (around m1 m2 (0, 0) a p) q) :
    callR (callF fs gl (n + 8) 74) [oD G, mD G.c m1, mD G.r m2] = M.ret (.tup [bl (roll (ahead m1 m2 (0, 0) a).length (ahead m1 m2 (0, 0) a) ((around m1 m2 (0, 0) a p).take (q + 1))).1, bl (roll (ahead m1 m2 (0, 0) a).length (ahead m1 m2 (0, 0) a) ((around m1 m2 (0, 0) a p).take (q + 1))).2]) := by
  refine ev_of f74 rfl rfl (by simp) (by simp) ?_
  have c1 := x_check_machines n G hG m1 m2 h.one h.two
  have c2 := x_walk (n + 5) G.r G.c m1 m2 h (0, 0) h.one.s1 h.two.s1 a p hr hap
  have c3 := x_shortest (n + 6) (ahead m1 m2 (0, 0) a) (around m1 m2 (0, 0) a p) (by simp [around]; omega) (by simp [ahead]; omega) q hq
  have e0 : pD (0, 0) = D.tup [.int 0, .int 0] := rfl
  rw [e0] at c2
  have e1 : (ls a fun k => pD (chs m1 m2 (it (stp m1 m2) k (0, 0)))) = bl (ahead m1 m2 (0, 0) a) := ls_bl a _
  have e2 : (ls p fun k => pD (chs m1 m2 (it (stp m1 m2) (a + k) (0, 0)))) = bl (around m1 m2 (0, 0) a p) := ls_bl p _
  dsimp only [f74, start]
  (rw [zz_cons]; simp -implicitDefEqProofs (disch := first | assumption | omega) [evalS, evalE, evalEs, evalL, evalI, evalC, EV.T.bind, wipe, MS.ok, M.seq_ret, line, isSub, ret_app, count_range, numbered_range, pairs_range, collect_N, collect_F, collect2_N, collect, zz_nil, c1])
  (rw [zz_cons]; simp -implicitDefEqProofs (disch := first | assumption | omega) [evalS, evalE, evalEs, evalL, evalI, evalC, EV.T.bind, wipe, MS.ok, M.seq_ret, line, isSub, ret_app, count_range, numbered_range, pairs_range, collect_N, collect_F, collect2_N, collect, zz_nil, c2])
  (rw [zz_cons]; simp -implicitDefEqProofs (disch := first | assumption | omega) [evalS, evalE, evalEs, evalL, evalI, evalC, EV.T.bind, wipe, MS.ok, M.seq_ret, line, isSub, ret_app, count_range, numbered_range, pairs_range, collect_N, collect_F, collect2_N, collect, zz_nil, e1, e2, c3])
  exact ret_rt (by first | rfl | simp)
theorem roll_mem {x : Nat × Nat} : ∀ (n : Nat) (b a : List (Nat × Nat)), x ∈ (roll n b a).2 → x ∈ a
  | 0, b, a, h => h
  | n + 1, b, a, h => by
    rw [roll] at h
    split at h
    · have := roll_mem n _ _ h
      by_cases ha : a = []
      · subst ha; simpa using this
      · obtain ⟨as, a1, rfl⟩ := snoc_ex ha
        simp at this ⊢
        exact this.symm
    · exact h
theorem rep_sum (f : Nat × Nat → Int) (ys : List (Nat × Nat)) : ∀ k : Nat, ((List.replicate k ys).flatten.map f).sum = (k : Int) * (ys.map f).sum
  | 0 => by simp
  | k + 1 => by
    rw [List.replicate_succ, List.flatten_cons, List.map_append, List.sum_append, rep_sum f ys k, Int.natCast_add, Int.add_mul]
    omega
def mean (f : Nat × Nat → Int) (xs : List (Nat × Nat)) : Rat := Rat.divInt (xs.map f).sum xs.length
theorem mean_roll (f : Nat × Nat → Int) {xs : List (Nat × Nat)} {q : Nat} (h : Short xs q) (n : Nat) (b : List (Nat × Nat)) : mean f (roll n b (xs.take (q + 1))).2 = mean f xs := by
  obtain ⟨e1, e2⟩ := roll_sum f n b (xs.take (q + 1))
  unfold mean
  rw [e1, e2]
  have hq := h.lt
  obtain ⟨r1, r2⟩ := h.rep
  have l1 : (xs.take (q + 1)).length = q + 1 := by rw [List.length_take]; omega
  have hs := rep_sum f (xs.take (q + 1)) (xs.length / (q + 1))
  rw [r2] at hs
  have hd := Nat.div_add_mod xs.length (q + 1)
  rw [r1, Nat.add_zero, Nat.mul_comm] at hd
  have hk : xs.length / (q + 1) ≠ 0 := by
    intro e
    rw [e] at hd
    omega
  have hn : (xs.length : Int) = ((xs.length / (q + 1) : Nat) : Int) * ((q + 1 : Nat) : Int) := by rw [← Int.natCast_mul, hd]
  rw [hs, l1]
  conv => rhs; rw [hn]
  rw [Rat.divInt_mul_left (by omega)]
theorem rs_int (f : Nat × Nat → Int) (xs : List (Nat × Nat)) : rs (xs.map fun x => (f x : Rat)) = ((xs.map f).sum : Int) := by
  have go : ∀ (xs : List (Nat × Nat)) (t : Rat), (xs.map fun x => (f x : Rat)).foldl (fun l y => l + y) t = t + ((xs.map f).sum : Int) := by
    intro xs
    induction xs with
    | nil => intro t; simp [Rat.add_zero]
    | cons x xs ih => intro t; rw [List.map_cons, List.foldl_cons, ih, List.map_cons, List.sum_cons, Rat.intCast_add]; grind
  unfold rs
  rw [go, Rat.zero_add]
theorem x_average (n : Nat) (G : Gm) (hG : G.ok) (m1 m2 : Mach) (h : Two G.r G.c m1 m2) (a p : Nat) (hr : Rho (stp m1 m2) (0, 0) a p) (hap : a + p ≤ 36) :
    callR (callF fs gl (n + 9) 75) [oD G, mD G.c m1, mD G.r m2] = M.ret (.tup [fr (mean (fun x => G.A x.1 x.2) (around m1 m2 (0, 0) a p)), fr (mean (fun x => G.B x.1 x.2) (around m1 m2 (0, 0) a p))]) := by
  have hp := hr.pos
  have hne : around m1 m2 (0, 0) a p ≠ [] := by
    intro e
    have := congrArg List.length e
    simp [around] at this
    omega
  obtain ⟨q, hq⟩ := short_ex hne
  have hq1 := hq.lt
  have hlen : (around m1 m2 (0, 0) a p).length = p := by simp [around]
  have c1 := x_cycle_of n G hG m1 m2 h a p hr hap q hq
  have mA := mean_roll (fun x => G.A x.1 x.2) hq (ahead m1 m2 (0, 0) a).length (ahead m1 m2 (0, 0) a)
  have mB := mean_roll (fun x => G.B x.1 x.2) hq (ahead m1 m2 (0, 0) a).length (ahead m1 m2 (0, 0) a)
  have l1 := (roll_sum (fun _ => 0) (ahead m1 m2 (0, 0) a).length (ahead m1 m2 (0, 0) a) ((around m1 m2 (0, 0) a p).take (q + 1))).2
  rw [List.length_take] at l1
  have hmem : ∀ x, x ∈ (roll (ahead m1 m2 (0, 0) a).length (ahead m1 m2 (0, 0) a) ((around m1 m2 (0, 0) a p).take (q + 1))).2 → x.1 < G.r ∧ x.2 < G.c := by
    intro x hx
    have := List.mem_of_mem_take (roll_mem _ _ _ hx)
    rw [around, List.mem_map] at this
    obtain ⟨k, _, rfl⟩ := this
    have lt := it_lt2 h.stp (a + k) (0, 0) h.one.s1 h.two.s1
    exact chs_lt h lt.1 lt.2
  generalize (roll (ahead m1 m2 (0, 0) a).length (ahead m1 m2 (0, 0) a) ((around m1 m2 (0, 0) a p).take (q + 1))).2 = A at *
  have key : ∀ (f : Nat × Nat → Int), (∀ x, (f x).natAbs ≤ 100) → callR (callF fs gl (n + 8) 65) [D.fl (A.map fun x => fr (f x : Rat))] = M.ret (fr ((A.map f).sum : Int)) ∧
      callR (callF fs gl (n + 8) 24) [fr ((A.map f).sum : Int), fr (A.length : Int)] = M.ret (fr (mean f A)) := by
    intro f hf
    have hx := x_total (n + 5) 8 (A.map fun x => (f x : Rat)) (by
      intro y hy
      rw [List.mem_map] at hy
      obtain ⟨x, _, rfl⟩ := hy
      exact bd_int (hf x)) (by rw [List.length_map]; omega)
    rw [rs_int, rl, List.map_map] at hx
    refine ⟨hx.1, ?_⟩
    have hd := x_div (n + 6) hx.2 (bd_int (i := (A.length : Int)) (by omega)) (by rw [List.length_map]; omega) (by
      have : (0 : Rat) < ((A.length : Int) : Rat) := by rw [Rat.intCast_pos]; omega
      exact this)
    rw [hd, mean, Rat.divInt_eq_div]
  obtain ⟨kA1, kA2⟩ := key (fun x => G.A x.1 x.2) (fun x => hG.a _ _)
  obtain ⟨kB1, kB2⟩ := key (fun x => G.B x.1 x.2) (fun x => hG.b _ _)
  have pA : ∀ x, x ∈ A → callR (callF fs gl (n + 8) 59) [oD G, .int 0, prD x.1 x.2] = M.ret (fr (G.A x.1 x.2 : Rat)) := fun x hx => x_payoff_at (n + 6) G 0 (.inl rfl) x (hmem x hx).1 (hmem x hx).2
  have pB : ∀ x, x ∈ A → callR (callF fs gl (n + 8) 59) [oD G, .int 1, prD x.1 x.2] = M.ret (fr (G.B x.1 x.2 : Rat)) := fun x hx => x_payoff_at (n + 6) G 1 (.inr rfl) x (hmem x hx).1 (hmem x hx).2
  rw [mA] at kA2
  rw [mB] at kB2
  refine ev_of f75 rfl rfl (by simp) (by simp) ?_
  dsimp only [f75, start]
  (rw [zz_cons]; simp -implicitDefEqProofs (disch := first | assumption | omega) [evalS, evalE, evalEs, evalL, evalI, evalC, EV.T.bind, wipe, MS.ok, M.seq_ret, line, isSub, ret_app, count_range, numbered_range, pairs_range, collect_N, collect_F, collect2_N, collect, zz_nil, c1])
  (rw [zz_cons]; simp -implicitDefEqProofs (disch := first | assumption | omega) [evalS, evalE, evalEs, evalL, evalI, evalC, EV.T.bind, wipe, MS.ok, M.seq_ret, line, isSub, ret_app, count_range, numbered_range, pairs_range, collect_N, collect_F, collect2_N, collect, zz_nil, x_whole])
  (rw [zz_cons]; simp -implicitDefEqProofs (disch := first | assumption | omega) [evalS, evalE, evalEs, evalL, evalI, evalC, EV.T.bind, wipe, MS.ok, M.seq_ret, line, isSub, ret_app, count_range, numbered_range, pairs_range, collect_N, collect_F, collect2_N, collect, zz_nil, collect_G, pA, pB, kA1, kA2, kB1, kB2])
  exact ret_rt (by first | rfl | simp)
end K87
end
section
set_option Elab.async false
set_option linter.all false
set_option maxRecDepth 100000
set_option maxHeartbeats 4000000
/-! k87, part p: best answers. -/
namespace K87
open EV EW
theorem x_transposed (n r c : Nat) (A : Nat → Nat → Int) (hr : 1 ≤ r) (hr5 : r ≤ 5) (hc5 : c ≤ 5) : callR (callF fs gl (n + 1) 21) [tI r c A] = M.ret (tI c r fun j i => A i j) := by
  refine ev_of f21 rfl rfl (by simp) (by simp) ?_
  dsimp only [f21, start]
  (rw [zz_cons]; simp -implicitDefEqProofs (disch := first | assumption | omega) [evalS, evalE, evalEs, evalL, evalI, evalC, EV.T.bind, wipe, MS.ok, M.seq_ret, line, isSub, ret_app, count_range, numbered_range, pairs_range, collect_N, collect_F, collect2_N, collect, zz_nil])
  exact ret_rt rfl
theorem x_mat (n : Nat) (G : Gm) (hG : G.ok) (p : Nat) (hp : p = 0 ∨ p = 1) : callR (callF fs gl (n + 2) 22) [oD G, .int p] = M.ret (tI (G.num p) (G.num (1 - p)) (G.mat p)) := by
  refine ev_of f22 rfl rfl (by simp) (by simp) ?_
  have ht := x_transposed n G.r G.c G.B hG.r1 hG.r5 hG.c5
  dsimp only [f22, start]
  rcases hp with rfl | rfl
  · (rw [zz_cons]; simp -implicitDefEqProofs (disch := first | assumption | omega) [evalS, evalE, evalEs, evalL, evalI, evalC, EV.T.bind, wipe, MS.ok, M.seq_ret, line, isSub, ret_app, count_range, numbered_range, pairs_range, collect_N, collect_F, collect2_N, collect, zz_nil])
    exact ret_rt rfl
  · (rw [zz_cons]; simp -implicitDefEqProofs (disch := first | assumption | omega) [evalS, evalE, evalEs, evalL, evalI, evalC, EV.T.bind, wipe, MS.ok, M.seq_ret, line, isSub, ret_app, count_range, numbered_range, pairs_range, collect_N, collect_F, collect2_N, collect, zz_nil, ht])
    exact ret_rt rfl
/-- the payoff of a choice against a state -/
def rm (mt : Nat → Nat → Int) (mc : Mach) (c j : Nat) : Rat := (mt c (mc.ch j) : Rat)
def chD (S : Nat) (q : Nat → Nat) : D := ls S fun j => .int (q j)
@[simp] theorem rf_chD (S : Nat) (q : Nat → Nat) : (chD S q).rf = true := by simp [chD]
@[simp] theorem getI_chD {S j : Nat} (q : Nat → Nat) (h : j < S) : getI (chD S q) (.int j) = M.ret (.int (q j)) := getI_ls _ h
theorem x_worth_from (n K O : Nat) (mt : Nat → Nat → Int) (hmt : ∀ i j, (mt i j).natAbs ≤ 100) (mc : Mach) (h : mc.ok O K) (q : Nat → Nat) (hq : ∀ j, j < mc.s → q j < K) (j : Nat) (hj : j < mc.s) {b : Nat} {f : Rat} (hf : Fac b f) :
    callR (callF fs gl (n + 5) 50) [tI K O mt, mD K mc, chD mc.s q, .int j, fr f] = M.ret (fr (pv f (rm mt mc) mc.nx q j)) ∧ Bd 600 (pv f (rm mt mc) mc.nx q j) := by
  have hst : ∀ j, j < mc.s → (fun j => mc.nx j (q j)) j < mc.s := fun j hj => h.n j hj _ (hq j hj)
  obtain ⟨a, p, hr, hap⟩ := rho_nat hst hj
  have hs := h.s6
  have hp := hr.pos
  have lt := fun k => it_lt hst k j hj
  generalize hsd : (fun j => mc.nx j (q j)) = s at *
  have hsd' : ∀ j, s j = mc.nx j (q j) := fun j => by rw [← hsd]
  have hW : pv f (rm mt mc) mc.nx q j = val f (fun n => rm mt mc (q (it s n j)) (it s n j)) a p := by
    have := wo_eq hf.h0 hf.h1 (g := fun j => rm mt mc (q j) j) hr.pos hr.back
    rw [← this, ← hsd]; rfl
  have hu : ∀ n, Bd 8 ((fun n => rm mt mc (q (it s n j)) (it s n j)) n) := fun n => bd_int (hmt _ _)
  obtain ⟨hpos, hsm⟩ := And.intro hf.pos hf.small
  have hb1 := Nat.mul_le_mul (show b + 9 ≤ 33 by omega) (show a + p ≤ 6 by omega)
  have hb2 := Nat.mul_le_mul hsm (show p ≤ 6 by omega)
  obtain ⟨he, hb⟩ := x_endless n hf.h0 hf.h1 hf.b hf.pos (us (fun n => rm mt mc (q (it s n j)) (it s n j)) 0 a) (us (fun n => rm mt mc (q (it s n j)) (it s n j)) a p) (us_all hu _ _) (us_all hu _ _) (by rw [us_len]; omega) (by
    rw [us_len, us_len]
    omega)
  have hv : (1 - f) * fold f (us (fun n => rm mt mc (q (it s n j)) (it s n j)) 0 a) (fold f (us (fun n => rm mt mc (q (it s n j)) (it s n j)) a p) 0 / (1 - f ^ (us (fun n => rm mt mc (q (it s n j)) (it s n j)) a p).length)) = pv f (rm mt mc) mc.nx q j := by
    rw [hW, us_len]; rfl
  rw [hv] at he hb
  rw [us_len, us_len] at hb
  refine ⟨ev_of f50 rfl rfl (by simp) (by simp) ?_, hb.mono (by omega)⟩
  have e1 := ls_us0 (fun k => rm mt mc (q (it s k j)) (it s k j)) a
  have e2 := ls_us (fun k => rm mt mc (q (it s k j)) (it s k j)) p a
  dsimp only [f50, start]
  (rw [zz_cons]; simp -implicitDefEqProofs (disch := first | assumption | omega) [evalS, evalE, evalEs, evalL, evalI, evalC, EV.T.bind, wipe, MS.ok, M.seq_ret, line, isSub, ret_app, count_range, numbered_range, pairs_range, collect_N, collect_F, collect2_N, collect, zz_nil, lift, M.seq, M.ret])
  refine spW (I := fun k r' S => ∃ m w, k + m = a + p ∧ r' = [some (tI K O mt), some (mD K mc), some (chD mc.s q), some (.int ((it s m j : Nat) : Int)), some (fr f), none, some (.ref 0), some (.ref 1)] ∧
    S = [.dict false ((List.range m).map fun k => .int ((it s k j : Nat) : Int)) ((List.range m).map fun (k : Nat) => .int k), .lst ((List.range m).map fun k => fr (rm mt mc (q (it s k j)) (it s k j)))]) (a + p) (by unfold fuel; omega) ⟨0, 0, by omega, rfl, rfl⟩ ?_
  rintro k r' S ⟨m, w, hm, rfl, rfl⟩
  have eqi : ∀ x y : Nat, D.eq (.int x) (.int y) = decide (x = y) := fun x y => by
    show decide ((x : Int) = y) = _
    congr 1
    exact propext ⟨fun h => by omega, fun h => by omega⟩
  have kd : ∀ y : Int, keyOk false (.int y) = true := fun y => rfl
  by_cases hm2 : m = a + p
  · left
    subst hm2
    have f1 : findK ((List.range (a + p)).map fun k => .int ((it s k j : Nat) : Int)) ((List.range (a + p)).map fun (k : Nat) => .int k) (.int ((it s (a + p) j : Nat) : Int)) = some (.int a) :=
      findK_some (by omega) (by rw [eqi, hr.back]; simp) fun l hl => by rw [eqi, hr.back]; simp; exact hr.new l a hl (by omega)
    refine ⟨?_, ?_⟩
    · simp [evalE, M.seq, M.ret, cm, isDict, dictOf, kd, f1, blOf]
    · have s1 := cut_hi (n := a + p) (a := a) (fun k => fr (rm mt mc (q (it s k j)) (it s k j))) (by omega)
      have s2 := cut_lo (n := a + p) (a := a) (fun k => fr (rm mt mc (q (it s k j)) (it s k j))) (by omega)
      rw [show a + p - a = p by omega] at s2
      (rw [zz_cons]; simp -implicitDefEqProofs (disch := first | assumption | omega) [evalS, evalE, evalEs, evalL, evalI, evalC, EV.T.bind, wipe, MS.ok, M.seq_ret, line, isSub, ret_app, count_range, numbered_range, pairs_range, collect_N, collect_F, collect2_N, collect, zz_nil, lift, M.seq, M.ret, getI, isDict, dictOf, kd, f1, M.opt])
      (rw [zz_cons]; simp -implicitDefEqProofs (disch := first | assumption | omega) [evalS, evalE, evalEs, evalL, evalI, evalC, EV.T.bind, wipe, MS.ok, M.seq_ret, line, isSub, ret_app, count_range, numbered_range, pairs_range, collect_N, collect_F, collect2_N, collect, zz_nil, lift, M.seq, M.ret, sliceI, lstOf, s1, s2, e1, e2, he])
      exact ret_rt (by first | rfl | simp)
  · right
    have nw : ∀ k, k < m → D.eq (.int ((it s k j : Nat) : Int)) (.int ((it s m j : Nat) : Int)) = false := fun k hk => by rw [eqi]; simp; exact hr.new k m hk (by omega)
    have f1 : findK ((List.range m).map fun k => .int ((it s k j : Nat) : Int)) ((List.range m).map fun (k : Nat) => .int k) (.int ((it s m j : Nat) : Int)) = none :=
      findK_none fun k hk => nw k (List.mem_range.mp hk)
    refine ⟨?_, ?_⟩
    · simp [evalE, M.seq, M.ret, cm, isDict, dictOf, kd, f1, blOf]
    · intro P hP
      have pk := putK_new (V := fun (k : Nat) => D.int k) (v := .int m) nw
      have l1 := lt m
      have l2 : q (it s m j) < K := hq _ l1
      have l3 := h.c _ l1
      have ei : fr ((mt (q (it s m j)) (mc.ch (it s m j)) : Int) : Rat) = fr (rm mt mc (q (it s m j)) (it s m j)) := rfl
      (rw [zz_cons]; simp -implicitDefEqProofs (disch := first | assumption | omega) [evalS, evalE, evalEs, evalL, evalI, evalC, EV.T.bind, wipe, MS.ok, M.seq_ret, line, isSub, ret_app, count_range, numbered_range, pairs_range, collect_N, collect_F, collect2_N, collect, zz_nil, lift, M.seq, M.ret, bi, putAt, kd, pk])
      (rw [zz_cons]; simp -implicitDefEqProofs (disch := first | assumption | omega) [evalS, evalE, evalEs, evalL, evalI, evalC, EV.T.bind, wipe, MS.ok, M.seq_ret, line, isSub, ret_app, count_range, numbered_range, pairs_range, collect_N, collect_F, collect2_N, collect, zz_nil, x_whole, lift, lstOf, M.seq, M.ret])
      (rw [zz_cons]; simp -implicitDefEqProofs (disch := first | assumption | omega) [evalS, evalE, evalEs, evalL, evalI, evalC, EV.T.bind, wipe, MS.ok, M.seq_ret, line, isSub, ret_app, count_range, numbered_range, pairs_range, collect_N, collect_F, collect2_N, collect, zz_nil])
      exact Pst.ok (hP (k - 1) _ _ (by omega) ⟨m + 1, 0, by omega, by rw [it_succ, hsd'], by rw [List.range_succ]; simp; rfl⟩)
theorem x_better (n K O : Nat) (mt : Nat → Nat → Int) (hmt : ∀ i j, (mt i j).natAbs ≤ 100) (hK : 1 ≤ K) (hK5 : K ≤ 5) (mc : Mach) (h : mc.ok O K) (q : Nat → Nat) (hq : PolOk mc.s K q) {b : Nat} {f : Rat} (hf : Fac b f) :
    ∃ q', Bet f mc.s K (rm mt mc) mc.nx q q' ∧ ∀ n, callR (callF fs gl (n + 6) 52) [tI K O mt, mD K mc, chD mc.s q, fr f] = M.ret (chD mc.s q') := by
  have hs := h.s6
  obtain ⟨hpos, hsm⟩ := And.intro hf.pos hf.small
  have hbest := fun j => gm_mem (opt f (rm mt mc) mc.nx q j) hK
  have hfirst : ∀ j, ∃ i, i < K ∧ opt f (rm mt mc) mc.nx q j i = gm (opt f (rm mt mc) mc.nx q j) K ∧ ∀ k, k < i → opt f (rm mt mc) mc.nx q j k ≠ gm (opt f (rm mt mc) mc.nx q j) K := fun j => by
    obtain ⟨i, hi, e⟩ := hbest j
    obtain ⟨i', h1, h2, h3⟩ := first_ex (fun k => decide (opt f (rm mt mc) mc.nx q j k = gm (opt f (rm mt mc) mc.nx q j) K)) i (by simpa using e.symm)
    exact ⟨i', by omega, by simpa using h2, fun k hk => by simpa using h3 k hk⟩
  obtain ⟨ix, hix⟩ : ∃ ix : Nat → Nat, ∀ j, ix j < K ∧ opt f (rm mt mc) mc.nx q j (ix j) = gm (opt f (rm mt mc) mc.nx q j) K ∧ ∀ k, k < ix j → opt f (rm mt mc) mc.nx q j k ≠ gm (opt f (rm mt mc) mc.nx q j) K := ⟨fun j => (hfirst j).choose, fun j => (hfirst j).choose_spec⟩
  have hw := fun n j (hj : j < mc.s) => x_worth_from n K O mt hmt mc h q hq j hj hf
  have hwn := fun n j (hj : j < mc.s) c (hc : c < K) => x_worth_now n (p := mt c (mc.ch j)) hf.b (hw 0 (mc.nx j c) (h.n j hj c hc)).2 (hmt _ _) (by omega)
  have hob : ∀ j, j < mc.s → ∀ c, c < K → Bd 700 (opt f (rm mt mc) mc.nx q j c) := fun j hj c hc => (hwn 0 j hj c hc).2.mono (by omega)
  refine ⟨fun j => if pv f (rm mt mc) mc.nx q j < gm (opt f (rm mt mc) mc.nx q j) K then ix j else q j, fun j hj => ?_, fun n => ?_⟩
  · obtain ⟨i1, i2, i3⟩ := hix j
    dsimp only
    split
    · rename_i hlt
      exact ⟨i1, .inl ⟨by rw [i2]; exact hlt, fun c hc => by rw [i2]; exact gm_ge _ hc⟩⟩
    · rename_i hge
      exact ⟨hq j hj, .inr ⟨rfl, fun c hc => by have := gm_ge (opt f (rm mt mc) mc.nx q j) hc; grind⟩⟩
  · have hw1 := fun j (hj : j < mc.s) => (hw n j hj).1
    refine ev_of f52 rfl rfl (by simp) (by simp) ?_
    dsimp only [f52, start]
    (rw [zz_cons]; simp -implicitDefEqProofs (disch := first | assumption | omega) [evalS, evalE, evalEs, evalL, evalI, evalC, EV.T.bind, wipe, MS.ok, M.seq_ret, line, isSub, ret_app, count_range, numbered_range, pairs_range, collect_N, collect_F, collect2_N, collect, zz_nil, hw1])
    simp -implicitDefEqProofs (disch := first | assumption | omega) [evalS, evalE, evalEs, evalL, evalI, evalC, EV.T.bind, wipe, MS.ok, M.seq_ret, line, isSub, ret_app, count_range, numbered_range, pairs_range, collect_N, collect_F, collect2_N, collect, zz_nil, lift, M.seq, M.ret]
    (rw [zz_cons]; simp -implicitDefEqProofs (disch := first | assumption | omega) [evalS, evalE, evalEs, evalL, evalI, evalC, EV.T.bind, wipe, MS.ok, M.seq_ret, line, isSub, ret_app, count_range, numbered_range, pairs_range, collect_N, collect_F, collect2_N, collect, zz_nil])
    refine lpN (I := fun i r' S => ∃ v6 v7 v8 v9 v10, r' = [some (tI K O mt), some (mD K mc), some (chD mc.s q), some (fr f), some (ls mc.s fun i => fr (pv f (rm mt mc) mc.nx q i)), some (.ref 0), v6, v7, v8, v9, v10, none, none] ∧
      S = [.lst ((List.range i).map fun j => .int ((if pv f (rm mt mc) mc.nx q j < gm (opt f (rm mt mc) mc.nx q j) K then ix j else q j : Nat) : Int))]) ?_ ?_ ?_
    · exact ⟨_, _, _, _, _, rfl, rfl⟩
    · rintro j hj r' S P ⟨v6, v7, v8, v9, v10, rfl, rfl⟩ hP _ _
      obtain ⟨i1, i2, i3⟩ := hix j
      have l1 := h.c _ hj
      have hget : ∀ c, c < K → getI (ls mc.s fun i => fr (pv f (rm mt mc) mc.nx q i)) (.int (mc.nx j c)) = M.ret (fr (pv f (rm mt mc) mc.nx q (mc.nx j c))) := fun c hc => getI_ls _ (h.n j hj c hc)
      have hw2 : ∀ c, c < K → callR (callF fs gl (n + 5) 51) [.int (mt c (mc.ch j)), fr f, fr (pv f (rm mt mc) mc.nx q (mc.nx j c))] = M.ret (fr (opt f (rm mt mc) mc.nx q j c)) := fun c hc => (hwn (n + 2) j hj c hc).1
      have hg := x_greatest (n + 2) K 700 (opt f (rm mt mc) mc.nx q j) hK (hob j hj) (by omega) _ (.inl rfl)
      have hgb := gm_bd hK (hob j hj) K (Nat.le_refl _)
      have hl := x_less (n + 3) (hw 0 j hj).2 hgb (by omega)
      have hx : idxD (ls K fun i => fr (opt f (rm mt mc) mc.nx q j i)) (M.ret (fr (gm (opt f (rm mt mc) mc.nx q j) K))) = M.ret (.int (ix j)) := idxD_ls (by simp) (fun i => by simp) (by rw [eq_fr, decide_eq_true_iff]; exact i2) i1 (fun k hk => by rw [eq_fr, decide_eq_false_iff_not]; exact i3 k hk)
      simp only [stD]
      simp only [EV.T.bind, List.length_cons, List.length_nil, List.set_cons_succ, List.set_cons_zero, Nat.reduceAdd, Nat.reduceLT, if_true, ite_true, Option.bind_some]
      (rw [zz_cons]; simp -implicitDefEqProofs (disch := first | assumption | omega) [evalS, evalE, evalEs, evalL, evalI, evalC, EV.T.bind, wipe, MS.ok, M.seq_ret, line, isSub, ret_app, count_range, numbered_range, pairs_range, collect_N, collect_F, collect2_N, collect, zz_nil, hget, hw2])
      (rw [zz_cons]; simp -implicitDefEqProofs (disch := first | assumption | omega) [evalS, evalE, evalEs, evalL, evalI, evalC, EV.T.bind, wipe, MS.ok, M.seq_ret, line, isSub, ret_app, count_range, numbered_range, pairs_range, collect_N, collect_F, collect2_N, collect, zz_nil, hg])
      (rw [zz_cons]; simp -implicitDefEqProofs (disch := first | assumption | omega) [evalS, evalE, evalEs, evalL, evalI, evalC, EV.T.bind, wipe, MS.ok, M.seq_ret, line, isSub, ret_app, count_range, numbered_range, pairs_range, collect_N, collect_F, collect2_N, collect, zz_nil, hl, hx, lift, M.seq, M.ret, lstOf])
      exact Pst.ok (hP _ _ ⟨_, _, _, _, _, rfl, by rw [List.range_succ]; simp; split <;> rfl⟩)
    · rintro r' S ⟨v6, v7, v8, v9, v10, rfl, rfl⟩
      (rw [zz_cons]; simp -implicitDefEqProofs (disch := first | assumption | omega) [evalS, evalE, evalEs, evalL, evalI, evalC, EV.T.bind, wipe, MS.ok, M.seq_ret, line, isSub, ret_app, count_range, numbered_range, pairs_range, collect_N, collect_F, collect2_N, collect, zz_nil, lift, M.seq, M.ret, frz])
      exact ret_rt (by first | rfl | simp)
@[simp] theorem seqOf_chD (S : Nat) (q : Nat → Nat) : seqOf (chD S q) = M.ret ((List.range S).map fun j => .int (q j)) := rfl
@[simp] theorem deep_chD (n S : Nat) (q : Nat → Nat) : D.deep (n + 2) (chD S q) = true := by simp [chD]
theorem eqs_map {F G : Nat → D} : ∀ l : List Nat, D.eqs (l.map F) (l.map G) = l.all fun i => D.eq (F i) (G i)
  | [] => by simp [D.eqs]
  | x :: xs => by rw [List.map_cons, List.map_cons, D.eqs, eqs_map xs, List.all_cons]
theorem eq_chD (S : Nat) (q q' : Nat → Nat) : D.eq (chD S q) (chD S q') = decide (∀ j, j < S → q j = q' j) := by
  show D.eqs ((List.range S).map _) ((List.range S).map _) = _
  rw [eqs_map]
  by_cases h : ∀ j, j < S → q j = q' j
  · rw [decide_eq_true h, List.all_eq_true]
    intro j hj
    have := h j (List.mem_range.mp hj)
    simp [D.eq, this]
  · rw [decide_eq_false h]
    refine Bool.eq_false_iff.mpr fun e => h fun j hj => ?_
    have := List.all_eq_true.mp e j (List.mem_range.mpr hj)
    simp [D.eq] at this
    omega
theorem zeros (S : Nat) (h : S ≤ 6) : op2 .mul (.fl [.int 0]) (.int S) = M.ret (chD S fun _ => 0) := by
  rw [op2_rep_fl (by omega) (by simp), chD, ls]
  congr 2
  clear h
  induction S with
  | zero => rfl
  | succ S ih => rw [List.replicate_succ', List.flatten_append, ih, List.range_succ, List.map_append]; rfl
/-- the machine that plays a policy -/
def ansM (mc : Mach) (q : Nat → Nat) : Mach := ⟨mc.s, q, fun j _ => mc.nx j (q j)⟩
theorem least_ex {P : Nat → Prop} (h : ∃ n, P n) : ∃ n, P n ∧ ∀ k, k < n → ¬ P k := by
  obtain ⟨n, hn⟩ := h
  obtain ⟨q, _, h2, h3⟩ := first_ex (fun k => @decide (P k) (Classical.propDecidable _)) n (by simpa using hn)
  exact ⟨q, by simpa using h2, fun k hk => by simpa using h3 k hk⟩
theorem x_best (G : Gm) (hG : G.ok) (p : Nat) (hp : p = 0 ∨ p = 1) (mc : Mach) (h : mc.ok (G.num (1 - p)) (G.num p)) {b : Nat} {f : Rat} (hf : Fac b f) :
    ∃ q, PolOk mc.s (G.num p) q ∧ (∀ j, j < mc.s → ∀ c, c < G.num p → opt f (rm (G.mat p) mc) mc.nx q j c ≤ pv f (rm (G.mat p) mc) mc.nx q j) ∧ Bd 600 (pv f (rm (G.mat p) mc) mc.nx q 0) ∧
      ∀ n, callR (callF fs gl (n + 7) 53) [oD G, .int p, mD (G.num p) mc, fr f] = M.ret (.tup [fr (pv f (rm (G.mat p) mc) mc.nx q 0), mD (G.num (1 - p)) (ansM mc q)]) := by
  have hmt : ∀ i j, (G.mat p i j).natAbs ≤ 100 := fun i j => by
    unfold Gm.mat
    split
    · exact hG.a _ _
    · exact hG.b _ _
  have nb : ∀ p, 1 ≤ G.num p ∧ G.num p ≤ 5 := fun p => by
    unfold Gm.num
    split
    · exact ⟨hG.r1, hG.r5⟩
    · exact ⟨hG.c1, hG.c5⟩
  obtain ⟨g, hg⟩ : ∃ g : (Nat → Nat) → Nat → Nat, ∀ q, PolOk mc.s (G.num p) q → Bet f mc.s (G.num p) (rm (G.mat p) mc) mc.nx q (g q) ∧ ∀ n, callR (callF fs gl (n + 6) 52) [tI (G.num p) (G.num (1 - p)) (G.mat p), mD (G.num p) mc, chD mc.s q, fr f] = M.ret (chD mc.s (g q)) :=
    ⟨fun q => open Classical in if hq : PolOk mc.s (G.num p) q then (x_better 0 _ _ (G.mat p) hmt (nb p).1 (nb p).2 mc h q hq hf).choose else q, fun q hq => by
      dsimp only
      rw [dif_pos hq]
      exact (x_better 0 _ _ (G.mat p) hmt (nb p).1 (nb p).2 mc h q hq hf).choose_spec⟩
  have h00 : PolOk mc.s (G.num p) fun _ => 0 := fun j hj => by have := nb p; show 0 < _; omega
  have hok : ∀ i, PolOk mc.s (G.num p) (it g i fun _ => 0) := by
    intro i
    induction i with
    | zero => exact h00
    | succ i ih => rw [it_succ]; exact fun j hj => ((hg _ ih).1 j hj).1
  have hnx : ∀ j, j < mc.s → ∀ c, c < G.num p → mc.nx j c < mc.s := h.n
  have hle : ∀ i, (∀ k, k < i → ¬ ∀ j, j < mc.s → it g (k + 1) (fun _ => 0) j = it g k (fun _ => 0) j) → i + left f mc.s (G.num p) (rm (G.mat p) mc) mc.nx (it g i fun _ => 0) ≤ left f mc.s (G.num p) (rm (G.mat p) mc) mc.nx fun _ => 0 := by
    intro i
    induction i with
    | zero => intro _; rw [Nat.zero_add]; exact Nat.le_refl _
    | succ i ih =>
      intro hk
      have h1 := ih fun k hk' => hk k (by omega)
      have h2 := hk i (by omega)
      have h3 := left_lt hf.h0 hf.h1 hnx (hok i) (hg _ (hok i)).1 (by
        rw [it_succ] at h2
        exact Classical.byContradiction fun e => h2 fun j hj => Classical.byContradiction fun e2 => e ⟨j, hj, e2⟩)
      rw [← it_succ g i (fun _ => 0)] at h3
      omega
  have hlim := left_le (f := f) (S := mc.s) (K := G.num p) (m := rm (G.mat p) mc) (nx := mc.nx) fun _ => 0
  have hpow : G.num p ^ mc.s ≤ 5 ^ 6 := Nat.le_trans (Nat.pow_le_pow_left (nb p).2 _) (Nat.pow_le_pow_right (by omega) h.s6)
  have hpow2 : 5 ^ 6 = 15625 := by decide
  obtain ⟨m, hm1, hm2⟩ := least_ex (P := fun i => ∀ j, j < mc.s → it g (i + 1) (fun _ => 0) j = it g i (fun _ => 0) j) (Classical.byContradiction fun e => by
    have := hle (15625 + 1) fun k _ h => e ⟨k, h⟩
    omega)
  have hmle := hle m hm2
  refine ⟨it g m fun _ => 0, hok m, fun j hj c hc => ?_, ?_, fun n => ?_⟩
  · exact bet_end hf.h0 hf.h1 hnx (hok m) (hg _ (hok m)).1 (fun j hj => by rw [← it_succ g m (fun _ => 0)]; exact hm1 j hj) hj hc
  · exact (x_worth_from 0 _ _ (G.mat p) hmt mc h _ (hok m) 0 h.s1 hf).2
  have c1 := x_check_player (n + 3) p hp
  have c2 := x_check_machine n G hG mc (1 - p) (by omega) (by rw [show 1 - (1 - p) = p by omega]; exact h)
  rw [show 1 - (1 - p) = p by omega] at c2
  have c3 := x_check_factor (n + 1) f hf.h0 hf.h1
  have c4 := x_mat (n + 4) G hG p hp
  have ep : (1 : Int) - p = ((1 - p : Nat) : Int) := by omega
  have c5 := zeros mc.s h.s6
  have c6 := fun i => (hg _ (hok i)).2 n
  have c60 : callR (callF fs gl (n + 6) 52) [tI (G.num p) (G.num (1 - p)) (G.mat p), mD (G.num p) mc, chD mc.s fun _ => 0, fr f] = M.ret (chD mc.s (it g 1 fun _ => 0)) := c6 0
  have c7 := (x_worth_from (n + 1) _ _ (G.mat p) hmt mc h _ (hok m) 0 h.s1 hf).1
  have hsh : getI (.tup [.int G.r, .int G.c]) (.int ((1 - p : Nat) : Int)) = M.ret (.int (G.num (1 - p))) := by
    rcases hp with rfl | rfl <;> simp
  refine ev_of f53 rfl rfl (by simp) (by simp [ansM]) ?_
  dsimp only [f53, start]
  (rw [zz_cons]; simp -implicitDefEqProofs (disch := first | assumption | omega) [evalS, evalE, evalEs, evalL, evalI, evalC, EV.T.bind, wipe, MS.ok, M.seq_ret, line, isSub, ret_app, count_range, numbered_range, pairs_range, collect_N, collect_F, collect2_N, collect, zz_nil, c1])
  (rw [zz_cons]; simp -implicitDefEqProofs (disch := first | assumption | omega) [evalS, evalE, evalEs, evalL, evalI, evalC, EV.T.bind, wipe, MS.ok, M.seq_ret, line, isSub, ret_app, count_range, numbered_range, pairs_range, collect_N, collect_F, collect2_N, collect, zz_nil, ep, c2])
  (rw [zz_cons]; simp -implicitDefEqProofs (disch := first | assumption | omega) [evalS, evalE, evalEs, evalL, evalI, evalC, EV.T.bind, wipe, MS.ok, M.seq_ret, line, isSub, ret_app, count_range, numbered_range, pairs_range, collect_N, collect_F, collect2_N, collect, zz_nil, c3])
  (rw [zz_cons]; simp -implicitDefEqProofs (disch := first | assumption | omega) [evalS, evalE, evalEs, evalL, evalI, evalC, EV.T.bind, wipe, MS.ok, M.seq_ret, line, isSub, ret_app, count_range, numbered_range, pairs_range, collect_N, collect_F, collect2_N, collect, zz_nil, c4, c5])
  (rw [zz_cons]; simp -implicitDefEqProofs (disch := first | assumption | omega) [evalS, evalE, evalEs, evalL, evalI, evalC, EV.T.bind, wipe, MS.ok, M.seq_ret, line, isSub, ret_app, count_range, numbered_range, pairs_range, collect_N, collect_F, collect2_N, collect, zz_nil, c60])
  have cn : ∀ i, cm .ne (chD mc.s (it g (i + 1) fun _ => 0)) (chD mc.s (it g i fun _ => 0)) = M.ret (.bl (!decide (∀ j, j < mc.s → it g (i + 1) (fun _ => 0) j = it g i (fun _ => 0) j))) := fun i => by
    rw [cm_ne (by simp) (by simp), eq_chD]
  rw [zz_cons]
  simp only [evalS]
  refine spW (I := fun k r' S => ∃ i, k + i = m ∧ r' = [some (oD G), some (.int p), some (mD (G.num p) mc), some (fr f), some (chD mc.s (it g (i + 1) fun _ => 0)), none, some (tI (G.num p) (G.num (1 - p)) (G.mat p)), some (chD mc.s (it g i fun _ => 0)), none, none, none] ∧ S = []) m (by unfold fuel; omega) ⟨0, by omega, rfl, rfl⟩ ?_
  rintro k r' S ⟨i, hi, rfl, rfl⟩
  by_cases him : i = m
  · left
    subst him
    have cni := cn i
    rw [decide_eq_true hm1] at cni
    refine ⟨by simp -implicitDefEqProofs (disch := first | assumption | omega) [evalS, evalE, evalEs, evalL, evalI, evalC, EV.T.bind, wipe, MS.ok, M.seq_ret, line, isSub, ret_app, count_range, numbered_range, pairs_range, collect_N, collect_F, collect2_N, collect, zz_nil, cni], ?_⟩
    (rw [zz_cons]; simp -implicitDefEqProofs (disch := first | assumption | omega) [evalS, evalE, evalEs, evalL, evalI, evalC, EV.T.bind, wipe, MS.ok, M.seq_ret, line, isSub, ret_app, count_range, numbered_range, pairs_range, collect_N, collect_F, collect2_N, collect, zz_nil, lift, M.seq, M.ret])
    (rw [zz_cons]; simp -implicitDefEqProofs (disch := first | assumption | omega) [evalS, evalE, evalEs, evalL, evalI, evalC, EV.T.bind, wipe, MS.ok, M.seq_ret, line, isSub, ret_app, count_range, numbered_range, pairs_range, collect_N, collect_F, collect2_N, collect, zz_nil])
    have hokm := hok i
    simp only [Int.natCast_zero] at c7
    generalize it g i (fun _ => 0) = q at *
    refine lpN (I := fun t r' S => ∃ v8 v9 v10, r' = [some (oD G), some (.int p), some (mD (G.num p) mc), some (fr f), some (chD mc.s (it g (i + 1) fun _ => 0)), some (.ref 0), some (tI (G.num p) (G.num (1 - p)) (G.mat p)), some (chD mc.s q), v8, v9, v10] ∧
      S = [.lst ((List.range t).map fun j => stD (G.num (1 - p)) (ansM mc q) j)]) ?_ ?_ ?_
    · exact ⟨_, _, _, rfl, rfl⟩
    · rintro j hj r' S P ⟨v8, v9, v10, rfl, rfl⟩ hP _ _
      have hqj := hokm j hj
      have hn1 := nb (1 - p)
      have hs6 := h.s6
      simp only [stD]
      simp only [EV.T.bind, List.length_cons, List.length_nil, List.set_cons_succ, List.set_cons_zero, Nat.reduceAdd, Nat.reduceLT, if_true, ite_true, Option.bind_some]
      (rw [zz_cons]; simp -implicitDefEqProofs (disch := first | assumption | omega) [evalS, evalE, evalEs, evalL, evalI, evalC, EV.T.bind, wipe, MS.ok, M.seq_ret, line, isSub, ret_app, count_range, numbered_range, pairs_range, collect_N, collect_F, collect2_N, collect, zz_nil, lift, M.seq, M.ret, lstOf, ep, hsh])
      exact Pst.ok (hP _ _ ⟨_, _, _, rfl, by rw [List.range_succ, List.map_append]; rfl⟩)
    · rintro r' S ⟨v8, v9, v10, rfl, rfl⟩
      (rw [zz_cons]; simp -implicitDefEqProofs (disch := first | assumption | omega) [evalS, evalE, evalEs, evalL, evalI, evalC, EV.T.bind, wipe, MS.ok, M.seq_ret, line, isSub, ret_app, count_range, numbered_range, pairs_range, collect_N, collect_F, collect2_N, collect, zz_nil, lift, M.seq, M.ret, frz, c7])
      exact ret_rt (by first | rfl | simp)
  · right
    have cni := cn i
    rw [decide_eq_false (hm2 i (by omega))] at cni
    refine ⟨by simp -implicitDefEqProofs (disch := first | assumption | omega) [evalS, evalE, evalEs, evalL, evalI, evalC, EV.T.bind, wipe, MS.ok, M.seq_ret, line, isSub, ret_app, count_range, numbered_range, pairs_range, collect_N, collect_F, collect2_N, collect, zz_nil, cni], fun P hP => ?_⟩
    have c8 := c6 (i + 1)
    rw [← it_succ g (i + 1)] at c8
    (rw [zz_cons]; simp -implicitDefEqProofs (disch := first | assumption | omega) [evalS, evalE, evalEs, evalL, evalI, evalC, EV.T.bind, wipe, MS.ok, M.seq_ret, line, isSub, ret_app, count_range, numbered_range, pairs_range, collect_N, collect_F, collect2_N, collect, zz_nil, c8])
    exact Pst.ok (hP (k - 1) _ _ (by omega) ⟨i + 1, by omega, rfl, rfl⟩)
end K87
end
section
set_option Elab.async false
set_option linter.all false
set_option maxRecDepth 100000
set_option maxHeartbeats 4000000
/-! k87, part q: gains by one step. -/
namespace K87
open EV EW
def dev (m1 m2 : Mach) (x : Nat × Nat) (p c : Nat) : Nat × Nat := if p = 0 then (c, m2.ch x.2) else (m1.ch x.1, c)
def nxt (m1 m2 : Mach) (x c : Nat × Nat) : Nat × Nat := (m1.nx x.1 c.2, m2.nx x.2 c.1)
noncomputable def thr (G : Gm) (m1 m2 : Mach) (f : Rat) (x : Nat × Nat) (p c : Nat) : Rat := (1 - f) * (G.pay p (dev m1 m2 x p c).1 (dev m1 m2 x p c).2 : Rat) + f * Wp G p m1 m2 f (nxt m1 m2 x (dev m1 m2 x p c))
noncomputable def gains (G : Gm) (m1 m2 : Mach) (f : Rat) (x : Nat × Nat) (y : Nat × Nat) : Bool := decide (Wp G y.1 m1 m2 f x < thr G m1 m2 f x y.1 y.2)
/-- player and choice, in order -/
def plays (G : Gm) : List (Nat × Nat) := (List.range 2).flatMap fun p => (List.range (G.num p)).map fun c => (p, c)
theorem dev_lt {G : Gm} {m1 m2 : Mach} (h : Two G.r G.c m1 m2) {x : Nat × Nat} (h1 : x.1 < m1.s) (h2 : x.2 < m2.s) {p c : Nat} (hc : c < G.num p) : (dev m1 m2 x p c).1 < G.r ∧ (dev m1 m2 x p c).2 < G.c := by
  unfold dev
  unfold Gm.num at hc
  split
  · rename_i e; rw [if_pos e] at hc; exact ⟨hc, h.two.c _ h2⟩
  · rename_i e; rw [if_neg e] at hc; exact ⟨h.one.c _ h1, hc⟩
theorem nxt_lt {r c : Nat} {m1 m2 : Mach} (h : Two r c m1 m2) {x y : Nat × Nat} (h1 : x.1 < m1.s) (h2 : x.2 < m2.s) (h3 : y.1 < r) (h4 : y.2 < c) : (nxt m1 m2 x y).1 < m1.s ∧ (nxt m1 m2 x y).2 < m2.s :=
  ⟨h.one.n _ h1 _ h4, h.two.n _ h2 _ h3⟩
theorem x_changed (n : Nat) (m1 m2 : Mach) (x : Nat × Nat) (p c : Nat) : callR (callF fs gl (n + 1) 61) [pD (chs m1 m2 x), .int p, .int c] = M.ret (pD (dev m1 m2 x p c)) := by
  refine ev_of f61 rfl rfl (by simp) (by simp) ?_
  dsimp only [f61, start]
  by_cases hp : p = 0
  · subst hp
    (rw [zz_cons]; simp -implicitDefEqProofs (disch := first | assumption | omega) [evalS, evalE, evalEs, evalL, evalI, evalC, EV.T.bind, wipe, MS.ok, M.seq_ret, line, isSub, ret_app, count_range, numbered_range, pairs_range, collect_N, collect_F, collect2_N, collect, zz_nil])
    exact ret_rt rfl
  · have : ¬ ((p : Int) = 0) := by omega
    (rw [zz_cons]; simp -implicitDefEqProofs (disch := first | assumption | omega) [evalS, evalE, evalEs, evalL, evalI, evalC, EV.T.bind, wipe, MS.ok, M.seq_ret, line, isSub, ret_app, count_range, numbered_range, pairs_range, collect_N, collect_F, collect2_N, collect, zz_nil, this])
    refine ret_rt ?_
    unfold dev
    simp only [if_neg hp]
    rfl
def ppD (y : Nat × Nat) : D := .tup [.int y.1, .int y.2]
theorem two_ints : [D.int 0, D.int 1] = (List.range 2).map fun (p : Nat) => D.int p := rfl
theorem x_gains (n : Nat) (G : Gm) (hG : G.ok) (m1 m2 : Mach) (h : Two G.r G.c m1 m2) (x : Nat × Nat) (h1 : x.1 < m1.s) (h2 : x.2 < m2.s) {b : Nat} {f : Rat} (hf : Fac b f) :
    callR (callF fs gl (n + 6) 62) [oD G, mD G.c m1, mD G.r m2, pD x, fr f] = M.ret (.fl (((plays G).filter (gains G m1 m2 f x)).map ppD)) := by
  have rfp : ∀ l : List (Nat × Nat), D.rfs (l.map ppD) = true := rfs_pD
  have hsm := hf.small
  refine ev_of f62 rfl rfl (by simp) (by simp [rfp]) ?_
  have c1 := x_choices (n + 4) G.c G.r m1 m2 x h1 h2
  dsimp only [f62, start]
  (rw [zz_cons]; simp -implicitDefEqProofs (disch := first | assumption | omega) [evalS, evalE, evalEs, evalL, evalI, evalC, EV.T.bind, wipe, MS.ok, M.seq_ret, line, isSub, ret_app, count_range, numbered_range, pairs_range, collect_N, collect_F, collect2_N, collect, zz_nil, c1, lift, M.seq, M.ret])
  (rw [zz_cons]; simp -implicitDefEqProofs (disch := first | assumption | omega) [evalS, evalE, evalEs, evalL, evalI, evalC, EV.T.bind, wipe, MS.ok, M.seq_ret, line, isSub, ret_app, count_range, numbered_range, pairs_range, collect_N, collect_F, collect2_N, collect, zz_nil, two_ints])
  refine lpN (I := fun p r' S => ∃ v5 v8 v9 v10 v11 v12 v13, r' = [some (oD G), some (mD G.c m1), some (mD G.r m2), some (pD x), some (fr f), v5, some (pD (chs m1 m2 x)), some (.ref 0), v8, v9, v10, v11, v12, v13] ∧
    S = [.lst ((((List.range p).flatMap fun p => (List.range (G.num p)).map fun c => (p, c)).filter (gains G m1 m2 f x)).map ppD)]) ?_ ?_ ?_
  · exact ⟨_, _, _, _, _, _, _, rfl, rfl⟩
  · rintro p hp r' S P ⟨v5, v8, v9, v10, v11, v12, v13, rfl, rfl⟩ hP _ _
    have hp' : p = 0 ∨ p = 1 := by omega
    have d1 := x_disc_from n G hG p hp' m1 m2 h x h1 h2 hf
    have hsh : getI (.tup [.int G.r, .int G.c]) (.int p) = M.ret (.int (G.num p)) := by rcases hp' with rfl | rfl <;> simp
    have nb : G.num p ≤ 5 := by
      unfold Gm.num
      split
      · exact hG.r5
      · exact hG.c5
    simp only [EV.T.bind, List.length_cons, List.length_nil, List.set_cons_succ, List.set_cons_zero, Nat.reduceAdd, Nat.reduceLT, if_true, ite_true, Option.bind_some]
    (rw [zz_cons]; simp -implicitDefEqProofs (disch := first | assumption | omega) [evalS, evalE, evalEs, evalL, evalI, evalC, EV.T.bind, wipe, MS.ok, M.seq_ret, line, isSub, ret_app, count_range, numbered_range, pairs_range, collect_N, collect_F, collect2_N, collect, zz_nil, d1.1])
    (rw [zz_cons]; simp -implicitDefEqProofs (disch := first | assumption | omega) [evalS, evalE, evalEs, evalL, evalI, evalC, EV.T.bind, wipe, MS.ok, M.seq_ret, line, isSub, ret_app, count_range, numbered_range, pairs_range, collect_N, collect_F, collect2_N, collect, zz_nil, hsh])
    have hpay : getI (.tup [tI G.r G.c G.A, tI G.r G.c G.B]) (.int p) = M.ret (tI G.r G.c (G.pay p)) := by rcases hp' with rfl | rfl <;> simp <;> rfl
    refine lpN (I := fun c r' S => ∃ v9 v10 v11 v12 v13, r' = [some (oD G), some (mD G.c m1), some (mD G.r m2), some (pD x), some (fr f), some (.int p), some (pD (chs m1 m2 x)), some (.ref 0), some (fr (Wp G p m1 m2 f x)), v9, v10, v11, v12, v13] ∧
      S = [.lst (((((List.range p).flatMap fun p => (List.range (G.num p)).map fun c => (p, c)) ++ (List.range c).map fun c => (p, c)).filter (gains G m1 m2 f x)).map ppD)]) ?_ ?_ ?_
    · exact ⟨_, _, _, _, _, rfl, by simp⟩
    · rintro c hc r' S P ⟨v9, v10, v11, v12, v13, rfl, rfl⟩ hP _ _
      have dl := dev_lt h h1 h2 hc
      have nl := nxt_lt h h1 h2 dl.1 dl.2
      have q1 := x_changed (n + 4) m1 m2 x p c
      have q2 := x_behind (n + 4) G.c G.r m1 m2 x (dev m1 m2 x p c) h1 h2 dl.2 dl.1
      have q3 := x_disc_from n G hG p hp' m1 m2 h (nxt m1 m2 x (dev m1 m2 x p c)) nl.1 nl.2 hf
      have q4 := x_worth_now (n + 2) (p := G.pay p (dev m1 m2 x p c).1 (dev m1 m2 x p c).2) hf.b q3.2 (pay_le hG _ _ _) (by omega)
      have q5 := x_less (n + 3) d1.2 q4.2 (by omega)
      have f2 : (((List.range p).flatMap fun p => (List.range (G.num p)).map fun c => (p, c)) ++ (List.range c).map fun c => (p, c)).length ≤ 10 := by
        have n0 : G.num 0 ≤ 5 := hG.r5
        rcases hp' with rfl | rfl
        · simp; omega
        · simp [List.range_succ] at n0 ⊢; omega
      have e : (((List.range p).flatMap fun p => (List.range (G.num p)).map fun c => (p, c)) ++ (List.range (c + 1)).map fun c => (p, c)) = (((List.range p).flatMap fun p => (List.range (G.num p)).map fun c => (p, c)) ++ (List.range c).map fun c => (p, c)) ++ [(p, c)] := by
        rw [List.range_succ, List.map_append, ← List.append_assoc]; rfl
      rw [e] at hP
      generalize (((List.range p).flatMap fun p => (List.range (G.num p)).map fun c => (p, c)) ++ (List.range c).map fun c => (p, c)) = L at *
      have f1 := List.length_filter_le (gains G m1 m2 f x) L
      have hfl : ((L ++ [(p, c)]).filter (gains G m1 m2 f x)) = L.filter (gains G m1 m2 f x) ++ if gains G m1 m2 f x (p, c) = true then [(p, c)] else [] := by
        rw [List.filter_append]; simp [List.filter_cons]
      simp only [EV.T.bind, List.length_cons, List.length_nil, List.set_cons_succ, List.set_cons_zero, Nat.reduceAdd, Nat.reduceLT, if_true, ite_true, Option.bind_some]
      (rw [zz_cons]; simp -implicitDefEqProofs (disch := first | assumption | omega) [evalS, evalE, evalEs, evalL, evalI, evalC, EV.T.bind, wipe, MS.ok, M.seq_ret, line, isSub, ret_app, count_range, numbered_range, pairs_range, collect_N, collect_F, collect2_N, collect, zz_nil, q1])
      (rw [zz_cons]; simp -implicitDefEqProofs (disch := first | assumption | omega) [evalS, evalE, evalEs, evalL, evalI, evalC, EV.T.bind, wipe, MS.ok, M.seq_ret, line, isSub, ret_app, count_range, numbered_range, pairs_range, collect_N, collect_F, collect2_N, collect, zz_nil, q2])
      (rw [zz_cons]; simp -implicitDefEqProofs (disch := first | assumption | omega) [evalS, evalE, evalEs, evalL, evalI, evalC, EV.T.bind, wipe, MS.ok, M.seq_ret, line, isSub, ret_app, count_range, numbered_range, pairs_range, collect_N, collect_F, collect2_N, collect, zz_nil, hpay])
      have q3' := q3.1
      simp only [nxt] at q3'
      (rw [zz_cons]; simp -implicitDefEqProofs (disch := first | assumption | omega) [evalS, evalE, evalEs, evalL, evalI, evalC, EV.T.bind, wipe, MS.ok, M.seq_ret, line, isSub, ret_app, count_range, numbered_range, pairs_range, collect_N, collect_F, collect2_N, collect, zz_nil, q3'])
      have q5' : callR (callF fs gl (n + 5) 30) [fr (Wp G p m1 m2 f x), fr ((1 - f) * ↑(G.pay p (dev m1 m2 x p c).fst (dev m1 m2 x p c).snd) + f * Wp G p m1 m2 f (m1.nx x.fst (dev m1 m2 x p c).snd, m2.nx x.snd (dev m1 m2 x p c).fst))] = M.ret (.bl (gains G m1 m2 f x (p, c))) := q5
      have q4' : callR (callF fs gl (n + 5) 51) [D.int (G.pay p (dev m1 m2 x p c).fst (dev m1 m2 x p c).snd), fr f, fr (Wp G p m1 m2 f (m1.nx x.fst (dev m1 m2 x p c).snd, m2.nx x.snd (dev m1 m2 x p c).fst))] = M.ret (fr ((1 - f) * ↑(G.pay p (dev m1 m2 x p c).fst (dev m1 m2 x p c).snd) + f * Wp G p m1 m2 f (m1.nx x.fst (dev m1 m2 x p c).snd, m2.nx x.snd (dev m1 m2 x p c).fst))) := q4.1
      (rw [zz_cons]; simp -implicitDefEqProofs (disch := first | assumption | omega) [evalS, evalE, evalEs, evalL, evalI, evalC, EV.T.bind, wipe, MS.ok, M.seq_ret, line, isSub, ret_app, count_range, numbered_range, pairs_range, collect_N, collect_F, collect2_N, collect, zz_nil, q4', q5'])
      by_cases hg : gains G m1 m2 f x (p, c) = true
      · simp only [hg, if_true]
        rw [if_pos hg] at hfl
        (rw [zz_cons]; simp -implicitDefEqProofs (disch := first | assumption | omega) [evalS, evalE, evalEs, evalL, evalI, evalC, EV.T.bind, wipe, MS.ok, M.seq_ret, line, isSub, ret_app, count_range, numbered_range, pairs_range, collect_N, collect_F, collect2_N, collect, zz_nil, lift, M.seq, M.ret, lstOf])
        exact Pst.ok (hP _ _ ⟨_, _, _, _, _, rfl, by rw [hfl, List.map_append]; rfl⟩)
      · simp only [hg, if_false, Bool.false_eq_true]
        rw [if_neg hg, List.append_nil] at hfl
        simp -implicitDefEqProofs (disch := first | assumption | omega) [evalS, evalE, evalEs, evalL, evalI, evalC, EV.T.bind, wipe, MS.ok, M.seq_ret, line, isSub, ret_app, count_range, numbered_range, pairs_range, collect_N, collect_F, collect2_N, collect, zz_nil]
        exact Pst.ok (hP _ _ ⟨_, _, _, _, _, rfl, by rw [hfl]⟩)
    · rintro r' S ⟨v9, v10, v11, v12, v13, rfl, rfl⟩
      simp -implicitDefEqProofs (disch := first | assumption | omega) [evalS, evalE, evalEs, evalL, evalI, evalC, EV.T.bind, wipe, MS.ok, M.seq_ret, line, isSub, ret_app, count_range, numbered_range, pairs_range, collect_N, collect_F, collect2_N, collect, zz_nil]
      refine Pst.ok (hP _ _ ⟨_, _, _, _, _, _, _, rfl, ?_⟩)
      rw [List.range_succ, List.flatMap_append]
      simp
  · rintro r' S ⟨v5, v8, v9, v10, v11, v12, v13, rfl, rfl⟩
    (rw [zz_cons]; simp -implicitDefEqProofs (disch := first | assumption | omega) [evalS, evalE, evalEs, evalL, evalI, evalC, EV.T.bind, wipe, MS.ok, M.seq_ret, line, isSub, ret_app, count_range, numbered_range, pairs_range, collect_N, collect_F, collect2_N, collect, zz_nil, lift, M.seq, M.ret, frz])
    exact ret_rt rfl
/-- all gains by one step, in order -/
noncomputable def cellG (G : Gm) (m1 m2 : Mach) (f : Rat) (i j : Nat) : List ((Nat × Nat) × (Nat × Nat)) := ((plays G).filter (gains G m1 m2 f (i, j))).map fun y => ((i, j), y)
noncomputable def rowG (G : Gm) (m1 m2 : Mach) (f : Rat) (i : Nat) : List ((Nat × Nat) × (Nat × Nat)) := (List.range m2.s).flatMap (cellG G m1 m2 f i)
noncomputable def allG (G : Gm) (m1 m2 : Mach) (f : Rat) : List ((Nat × Nat) × (Nat × Nat)) := (List.range m1.s).flatMap (rowG G m1 m2 f)
def gainD : Option ((Nat × Nat) × (Nat × Nat)) → D
  | none => .non
  | some z => .tup [.int z.1.1, .int z.1.2, .int z.2.1, .int z.2.2]
theorem flat_first {γ : Type} {g : Nat → List γ} {z : γ} {i : Nat} (h : (List.range i).flatMap g = []) (e : (g i).head? = some z) : ∀ n, i < n → ((List.range n).flatMap g).head? = some z
  | n + 1, hn => by
    rw [List.range_succ, List.flatMap_append]
    by_cases hi : i = n
    · subst hi
      rw [h, List.nil_append]
      simpa using e
    · have := flat_first h e n (by omega)
      rw [List.head?_append, this]; rfl
theorem x_one_step (n : Nat) (G : Gm) (hG : G.ok) (m1 m2 : Mach) (h : Two G.r G.c m1 m2) {b : Nat} {f : Rat} (hf : Fac b f) :
    callR (callF fs gl (n + 8) 63) [oD G, mD G.c m1, mD G.r m2, fr f] = M.ret (gainD (allG G m1 m2 f).head?) := by
  have rfg : ∀ o, (gainD o).rf = true := fun o => by cases o <;> simp [gainD]
  have s61 := h.one.s6
  have s62 := h.two.s6
  refine ev_of f63 rfl rfl (by simp) (rfg _) ?_
  have c1 := x_check_machines n G hG m1 m2 h.one h.two
  have c2 := x_check_factor (n + 2) f hf.h0 hf.h1
  dsimp only [f63, start]
  (rw [zz_cons]; simp -implicitDefEqProofs (disch := first | assumption | omega) [evalS, evalE, evalEs, evalL, evalI, evalC, EV.T.bind, wipe, MS.ok, M.seq_ret, line, isSub, ret_app, count_range, numbered_range, pairs_range, collect_N, collect_F, collect2_N, collect, zz_nil, c1])
  (rw [zz_cons]; simp -implicitDefEqProofs (disch := first | assumption | omega) [evalS, evalE, evalEs, evalL, evalI, evalC, EV.T.bind, wipe, MS.ok, M.seq_ret, line, isSub, ret_app, count_range, numbered_range, pairs_range, collect_N, collect_F, collect2_N, collect, zz_nil, c2])
  (rw [zz_cons]; simp -implicitDefEqProofs (disch := first | assumption | omega) [evalS, evalE, evalEs, evalL, evalI, evalC, EV.T.bind, wipe, MS.ok, M.seq_ret, line, isSub, ret_app, count_range, numbered_range, pairs_range, collect_N, collect_F, collect2_N, collect, zz_nil])
  refine lpN (I := fun i r' S => ∃ v4 v5 v6, r' = [some (oD G), some (mD G.c m1), some (mD G.r m2), some (fr f), v4, v5, v6] ∧ S = [] ∧ (List.range i).flatMap (rowG G m1 m2 f) = []) ?_ ?_ ?_
  · exact ⟨_, _, _, rfl, rfl, rfl⟩
  · rintro i hi r' S P ⟨v4, v5, v6, rfl, rfl, hi0⟩ hP _ hR
    simp only [EV.T.bind, List.length_cons, List.length_nil, List.set_cons_succ, List.set_cons_zero, Nat.reduceAdd, Nat.reduceLT, if_true, ite_true, Option.bind_some]
    (rw [zz_cons]; simp -implicitDefEqProofs (disch := first | assumption | omega) [evalS, evalE, evalEs, evalL, evalI, evalC, EV.T.bind, wipe, MS.ok, M.seq_ret, line, isSub, ret_app, count_range, numbered_range, pairs_range, collect_N, collect_F, collect2_N, collect, zz_nil])
    refine lpN (I := fun j r' S => ∃ v5 v6, r' = [some (oD G), some (mD G.c m1), some (mD G.r m2), some (fr f), some (.int i), v5, v6] ∧ S = [] ∧ (List.range j).flatMap (cellG G m1 m2 f i) = []) ?_ ?_ ?_
    · exact ⟨_, _, rfl, rfl, rfl⟩
    · rintro j hj r' S P2 ⟨v5, v6, rfl, rfl, hj0⟩ hP2 _ hR2
      have c3 := x_gains (n + 1) G hG m1 m2 h (i, j) hi hj hf
      have c3' : callR (callF fs gl (n + 7) 62) [oD G, mD G.c m1, mD G.r m2, D.tup [.int i, .int j], fr f] = _ := c3
      have dp : D.deeps 29 (((plays G).filter (gains G m1 m2 f (i, j))).map ppD) = true := deeps_pD _ _
      have ne : cm .ne (.fl (((plays G).filter (gains G m1 m2 f (i, j))).map ppD)) (.fl []) = M.ret (.bl (!decide ((plays G).filter (gains G m1 m2 f (i, j)) = []))) := by
        have := cm_ne_bl0 ((plays G).filter (gains G m1 m2 f (i, j)))
        exact this
      simp only [EV.T.bind, List.length_cons, List.length_nil, List.set_cons_succ, List.set_cons_zero, Nat.reduceAdd, Nat.reduceLT, if_true, ite_true, Option.bind_some]
      (rw [zz_cons]; simp -implicitDefEqProofs (disch := first | assumption | omega) [evalS, evalE, evalEs, evalL, evalI, evalC, EV.T.bind, wipe, MS.ok, M.seq_ret, line, isSub, ret_app, count_range, numbered_range, pairs_range, collect_N, collect_F, collect2_N, collect, zz_nil, c3'])
      by_cases he : (plays G).filter (gains G m1 m2 f (i, j)) = []
      · rw [he] at ne
        simp only [he]
        (rw [zz_cons]; simp -implicitDefEqProofs (disch := first | assumption | omega) [evalS, evalE, evalEs, evalL, evalI, evalC, EV.T.bind, wipe, MS.ok, M.seq_ret, line, isSub, ret_app, count_range, numbered_range, pairs_range, collect_N, collect_F, collect2_N, collect, zz_nil, ne])
        refine Pst.ok (hP2 _ _ ⟨_, _, rfl, rfl, ?_⟩)
        rw [List.range_succ, List.flatMap_append, hj0]
        simp [cellG, he]
      · rw [decide_eq_false he] at ne
        obtain ⟨y, t, ey⟩ : ∃ y t, (plays G).filter (gains G m1 m2 f (i, j)) = y :: t := by
          cases hL : (plays G).filter (gains G m1 m2 f (i, j)) with
          | nil => exact absurd hL he
          | cons y t => exact ⟨y, t, rfl⟩
        have hall : (allG G m1 m2 f).head? = some ((i, j), y) := flat_first hi0 (flat_first hj0 (by simp [cellG, ey]) _ hj) _ hi
        rw [ey, List.map_cons] at ne
        simp only [ey]
        (rw [zz_cons]; simp -implicitDefEqProofs (disch := first | assumption | omega) [evalS, evalE, evalEs, evalL, evalI, evalC, EV.T.bind, wipe, MS.ok, M.seq_ret, line, isSub, ret_app, count_range, numbered_range, pairs_range, collect_N, collect_F, collect2_N, collect, zz_nil, ne])
        (rw [zz_cons]; simp -implicitDefEqProofs (disch := first | assumption | omega) [evalS, evalE, evalEs, evalL, evalI, evalC, EV.T.bind, wipe, MS.ok, M.seq_ret, line, isSub, ret_app, count_range, numbered_range, pairs_range, collect_N, collect_F, collect2_N, collect, zz_nil, ppD])
        exact Pst.ok (hR2 _ _ (hR _ _ (.inl (by rw [hall]; rfl))))
    · rintro r' S ⟨v5, v6, rfl, rfl, hj0⟩
      refine Pst.ok (hP _ _ ⟨_, _, _, rfl, rfl, ?_⟩)
      rw [List.range_succ, List.flatMap_append, hi0]
      simp
      exact hj0
  · rintro r' S ⟨v4, v5, v6, rfl, rfl, hi0⟩
    have : allG G m1 m2 f = [] := hi0
    (rw [zz_cons]; simp -implicitDefEqProofs (disch := first | assumption | omega) [evalS, evalE, evalEs, evalL, evalI, evalC, EV.T.bind, wipe, MS.ok, M.seq_ret, line, isSub, ret_app, count_range, numbered_range, pairs_range, collect_N, collect_F, collect2_N, collect, zz_nil])
    exact ret_rt (by rw [this]; rfl)
end K87
end
section
set_option Elab.async false
set_option linter.all false
set_option maxRecDepth 100000
set_option maxHeartbeats 4000000
/-! k87, part r: punishments, grim machines, least factors. -/
namespace EW
open EV
def topL : List Int → Int
  | [] => 0
  | x :: xs => topI xs x
def lowL : List Int → Int
  | [] => 0
  | x :: xs => lowI xs x
theorem topI_spec : ∀ (xs : List Int) (m : Int), (topI xs m = m ∨ topI xs m ∈ xs) ∧ m ≤ topI xs m ∧ ∀ x, x ∈ xs → x ≤ topI xs m
  | [], m => ⟨.inl rfl, Int.le_refl _, fun x hx => by cases hx⟩
  | y :: xs, m => by
    rw [topI]
    by_cases hm : m < y
    · obtain ⟨h1, h2, h3⟩ := topI_spec xs y
      rw [if_pos hm]
      refine ⟨.inr ?_, by omega, fun x hx => ?_⟩
      · rcases h1 with h | h
        · rw [h]; simp
        · simp [h]
      · cases hx with
        | head => exact h2
        | tail _ h => exact h3 x h
    · obtain ⟨h1, h2, h3⟩ := topI_spec xs m
      rw [if_neg hm]
      refine ⟨?_, h2, fun x hx => ?_⟩
      · rcases h1 with h | h
        · exact .inl h
        · exact .inr (by simp [h])
      · cases hx with
        | head => omega
        | tail _ h => exact h3 x h
theorem lowI_spec : ∀ (xs : List Int) (m : Int), (lowI xs m = m ∨ lowI xs m ∈ xs) ∧ lowI xs m ≤ m ∧ ∀ x, x ∈ xs → lowI xs m ≤ x
  | [], m => ⟨.inl rfl, Int.le_refl _, fun x hx => by cases hx⟩
  | y :: xs, m => by
    rw [lowI]
    by_cases hm : y < m
    · obtain ⟨h1, h2, h3⟩ := lowI_spec xs y
      rw [if_pos hm]
      refine ⟨.inr ?_, by omega, fun x hx => ?_⟩
      · rcases h1 with h | h
        · rw [h]; simp
        · simp [h]
      · cases hx with
        | head => exact h2
        | tail _ h => exact h3 x h
    · obtain ⟨h1, h2, h3⟩ := lowI_spec xs m
      rw [if_neg hm]
      refine ⟨?_, h2, fun x hx => ?_⟩
      · rcases h1 with h | h
        · exact .inl h
        · exact .inr (by simp [h])
      · cases hx with
        | head => omega
        | tail _ h => exact h3 x h
theorem topL_mem {xs : List Int} (h : xs ≠ []) : topL xs ∈ xs := by
  cases xs with
  | nil => exact absurd rfl h
  | cons x xs =>
    rcases (topI_spec xs x).1 with h | h
    · rw [topL, h]; simp
    · rw [topL]; simp [h]
theorem topL_ge {xs : List Int} {x : Int} (h : x ∈ xs) : x ≤ topL xs := by
  cases xs with
  | nil => cases h
  | cons y ys =>
    obtain ⟨_, h2, h3⟩ := topI_spec ys y
    cases h with
    | head => exact h2
    | tail _ h => exact h3 x h
theorem lowL_mem {xs : List Int} (h : xs ≠ []) : lowL xs ∈ xs := by
  cases xs with
  | nil => exact absurd rfl h
  | cons x xs =>
    rcases (lowI_spec xs x).1 with h | h
    · rw [lowL, h]; simp
    · rw [lowL]; simp [h]
theorem lowL_le {xs : List Int} {x : Int} (h : x ∈ xs) : lowL xs ≤ x := by
  cases xs with
  | nil => cases h
  | cons y ys =>
    obtain ⟨_, h2, h3⟩ := lowI_spec ys y
    cases h with
    | head => exact h2
    | tail _ h => exact h3 x h
theorem intsOf_map (xs : List Int) : intsOf (xs.map D.int) = some xs := by
  induction xs with
  | nil => rfl
  | cons x xs ih => rw [List.map_cons, intsOf, ih]; rfl
theorem max_fl {xs : List Int} (h : xs ≠ []) : bi .max [.fl (xs.map D.int)] = M.ret (.int (topL xs)) := by
  show (match intsOf (xs.map D.int) with | some (i :: is) => M.ret (D.int (topI is i)) | _ => .no) = _
  rw [intsOf_map]
  cases xs with
  | nil => exact absurd rfl h
  | cons x xs => rfl
theorem max_tup {xs : List Int} (h : xs ≠ []) : bi .max [.tup (xs.map D.int)] = M.ret (.int (topL xs)) := by
  show (match intsOf (xs.map D.int) with | some (i :: is) => M.ret (D.int (topI is i)) | _ => .no) = _
  rw [intsOf_map]
  cases xs with
  | nil => exact absurd rfl h
  | cons x xs => rfl
theorem min_fl {xs : List Int} (h : xs ≠ []) : bi .min [.fl (xs.map D.int)] = M.ret (.int (lowL xs)) := by
  show (match intsOf (xs.map D.int) with | some (i :: is) => M.ret (D.int (lowI is i)) | _ => .no) = _
  rw [intsOf_map]
  cases xs with
  | nil => exact absurd rfl h
  | cons x xs => rfl
theorem range_ne {n : Nat} (g : Nat → Int) (h : 0 < n) : (List.range n).map g ≠ [] := by
  intro e
  have := congrArg List.length e
  simp at this
  omega
@[simp] theorem max_ls {n : Nat} (g : Nat → Int) (h : 0 < n) : bi .max [ls n fun i => .int (g i)] = M.ret (.int (topL ((List.range n).map g))) := by
  rw [← max_fl (range_ne g h), List.map_map]; rfl
@[simp] theorem max_tb {n : Nat} (g : Nat → Int) (h : 0 < n) : bi .max [tb n fun i => .int (g i)] = M.ret (.int (topL ((List.range n).map g))) := by
  rw [← max_tup (range_ne g h), List.map_map]; rfl
@[simp] theorem min_ls {n : Nat} (g : Nat → Int) (h : 0 < n) : bi .min [ls n fun i => .int (g i)] = M.ret (.int (lowL ((List.range n).map g))) := by
  rw [← min_fl (range_ne g h), List.map_map]; rfl
theorem sum_fl (xs : List Int) : bi .sum [.fl (xs.map D.int)] = M.ret (.int xs.sum) := by
  show (match intsOf (xs.map D.int) with | some is => M.ret (D.int is.sum) | none => .no) = _
  rw [intsOf_map]
end EW
namespace K87
open EV EW
/-- the most against each choice of the other one -/
def wst (G : Gm) (p b : Nat) : Int := topL ((List.range (G.num p)).map fun a => G.mat p a b)
def held (G : Gm) (p : Nat) : Int := lowL ((List.range (G.num (1 - p))).map (wst G p))
theorem num_pos' {G : Gm} (h : G.ok) (p : Nat) : 1 ≤ G.num p ∧ G.num p ≤ 5 := by
  unfold Gm.num
  split
  · exact ⟨h.r1, h.r5⟩
  · exact ⟨h.c1, h.c5⟩
theorem held_ex {G : Gm} (h : G.ok) (p : Nat) : ∃ b, b < G.num (1 - p) ∧ wst G p b = held G p := by
  have := lowL_mem (range_ne (wst G p) (num_pos' h (1 - p)).1)
  rw [List.mem_map] at this
  obtain ⟨b, hb, e⟩ := this
  exact ⟨b, List.mem_range.mp hb, e⟩
open Classical in
noncomputable def pun (G : Gm) (p : Nat) : Nat := if h : ∃ b, b < G.num (1 - p) ∧ wst G p b = held G p ∧ ∀ k, k < b → wst G p k ≠ held G p then h.choose else 0
theorem pun_spec {G : Gm} (h : G.ok) (p : Nat) : pun G p < G.num (1 - p) ∧ wst G p (pun G p) = held G p ∧ ∀ k, k < pun G p → wst G p k ≠ held G p := by
  have hex : ∃ b, b < G.num (1 - p) ∧ wst G p b = held G p ∧ ∀ k, k < b → wst G p k ≠ held G p := by
    obtain ⟨b, hb, e⟩ := held_ex h p
    obtain ⟨q, h1, h2, h3⟩ := first_ex (fun k => decide (wst G p k = held G p)) b (by simpa using e)
    exact ⟨q, by omega, by simpa using h2, fun k hk => by simpa using h3 k hk⟩
  unfold pun
  rw [dif_pos hex]
  exact hex.choose_spec
theorem eq_int (i j : Int) : D.eq (.int i) (.int j) = decide (i = j) := rfl
theorem x_pun (n : Nat) (G : Gm) (hG : G.ok) (p : Nat) (hp : p = 0 ∨ p = 1) : callR (callF fs gl (n + 4) 27) [oD G, .int p] = M.ret (.tup [.int (held G p), .int (pun G p)]) := by
  refine ev_of f27 rfl rfl (by simp) (by simp) ?_
  have c1 := x_check_player n p hp
  have c2 := x_mat (n + 1) G hG p hp
  have ep : (1 : Int) - p = ((1 - p : Nat) : Int) := by omega
  have hsh : getI (.tup [.int G.r, .int G.c]) (.int ((1 - p : Nat) : Int)) = M.ret (.int (G.num (1 - p))) := by
    rcases hp with rfl | rfl <;> simp
  have n1 := num_pos' hG p
  have n2 := num_pos' hG (1 - p)
  obtain ⟨p1, p2, p3⟩ := pun_spec hG p
  have hx : idxD (ls (G.num (1 - p)) fun b => .int (wst G p b)) (M.ret (.int (held G p))) = M.ret (.int (pun G p)) := idxD_ls (by simp) (fun i => by simp) (by rw [eq_int, decide_eq_true_iff]; exact p2) p1 (fun k hk => by rw [eq_int, decide_eq_false_iff_not]; exact p3 k hk)
  have hm : bi .min [ls (G.num (1 - p)) fun b => .int (wst G p b)] = M.ret (.int (held G p)) := min_ls _ n2.1
  simp only [wst] at hx hm
  dsimp only [f27, start]
  (rw [zz_cons]; simp -implicitDefEqProofs (disch := first | assumption | omega) [evalS, evalE, evalEs, evalL, evalI, evalC, EV.T.bind, wipe, MS.ok, M.seq_ret, line, isSub, ret_app, count_range, numbered_range, pairs_range, collect_N, collect_F, collect2_N, collect, zz_nil, c1])
  (rw [zz_cons]; simp -implicitDefEqProofs (disch := first | assumption | omega) [evalS, evalE, evalEs, evalL, evalI, evalC, EV.T.bind, wipe, MS.ok, M.seq_ret, line, isSub, ret_app, count_range, numbered_range, pairs_range, collect_N, collect_F, collect2_N, collect, zz_nil, c2])
  (rw [zz_cons]; simp -implicitDefEqProofs (disch := first | assumption | omega) [evalS, evalE, evalEs, evalL, evalI, evalC, EV.T.bind, wipe, MS.ok, M.seq_ret, line, isSub, ret_app, count_range, numbered_range, pairs_range, collect_N, collect_F, collect2_N, collect, zz_nil, ep, hsh])
  (rw [zz_cons]; simp -implicitDefEqProofs (disch := first | assumption | omega) [evalS, evalE, evalEs, evalL, evalI, evalC, EV.T.bind, wipe, MS.ok, M.seq_ret, line, isSub, ret_app, count_range, numbered_range, pairs_range, collect_N, collect_F, collect2_N, collect, zz_nil, hm, hx])
  exact ret_rt (by first | rfl | simp)
/-- a pair's own choice of a player -/
def own2 (i j p : Nat) : Nat := if p = 0 then i else j
noncomputable def gmM (G : Gm) (i j p : Nat) : Mach := ⟨2, fun k => if k = 0 then own2 i j p else pun G (1 - p), fun k c => if k = 0 then (if c = own2 i j (1 - p) then 0 else 1) else 1⟩
theorem own_lt {G : Gm} {i j : Nat} (hi : i < G.r) (hj : j < G.c) (p : Nat) : own2 i j p < G.num p := by
  unfold own2 Gm.num
  split <;> assumption
theorem gmM_ok {G : Gm} (h : G.ok) {i j : Nat} (hi : i < G.r) (hj : j < G.c) (p : Nat) (hp : p = 0 ∨ p = 1) : (gmM G i j p).ok (G.num p) (G.num (1 - p)) where
  s1 := by simp [gmM]
  s6 := by simp [gmM]
  c := fun k _ => by
    have := (pun_spec h (1 - p)).1
    rw [show 1 - (1 - p) = p by omega] at this
    simp only [gmM]
    split
    · exact own_lt hi hj p
    · exact this
  n := fun k _ c _ => by
    simp only [gmM]
    split
    · split <;> omega
    · omega
theorem x_grim_machine (n : Nat) (G : Gm) (hG : G.ok) (i j : Nat) (hi : i < G.r) (hj : j < G.c) (p : Nat) (hp : p = 0 ∨ p = 1) : callR (callF fs gl (n + 5) 34) [oD G, prD i j, .int p] = M.ret (mD (G.num (1 - p)) (gmM G i j p)) := by
  refine ev_of f34 rfl rfl (by simp) (by simp) ?_
  have ep : (1 : Int) - p = ((1 - p : Nat) : Int) := by omega
  have hsh : getI (.tup [.int G.r, .int G.c]) (.int ((1 - p : Nat) : Int)) = M.ret (.int (G.num (1 - p))) := by
    rcases hp with rfl | rfl <;> simp
  have g1 : getI (prD i j) (.int p) = M.ret (.int (own2 i j p)) := by rcases hp with rfl | rfl <;> rfl
  have g2 : getI (prD i j) (.int ((1 - p : Nat) : Int)) = M.ret (.int (own2 i j (1 - p))) := by rcases hp with rfl | rfl <;> rfl
  have c1 := x_pun n G hG (1 - p) (by omega)
  have n2 := num_pos' hG (1 - p)
  dsimp only [f34, start]
  (rw [zz_cons]; simp -implicitDefEqProofs (disch := first | assumption | omega) [evalS, evalE, evalEs, evalL, evalI, evalC, EV.T.bind, wipe, MS.ok, M.seq_ret, line, isSub, ret_app, count_range, numbered_range, pairs_range, collect_N, collect_F, collect2_N, collect, zz_nil, ep, hsh, g2])
  (rw [zz_cons]; simp -implicitDefEqProofs (disch := first | assumption | omega) [evalS, evalE, evalEs, evalL, evalI, evalC, EV.T.bind, wipe, MS.ok, M.seq_ret, line, isSub, ret_app, count_range, numbered_range, pairs_range, collect_N, collect_F, collect2_N, collect, zz_nil, ep, g1, c1])
  refine ret_rt ?_
  show _ = D.tup [stD _ _ 0, stD _ _ 1]
  simp only [stD, gmM]
  have ef : (fun c : Nat => D.int (if (c : Int) = (own2 i j (1 - p) : Nat) then 0 else 1)) = fun c : Nat => D.int ((if c = own2 i j (1 - p) then 0 else 1 : Nat) : Int) := by
    funext c
    by_cases h : c = own2 i j (1 - p)
    · simp [h]
    · have : ¬ (c : Int) = (own2 i j (1 - p) : Nat) := by omega
      simp [h, this]
  rw [ef]
  simp
theorem x_grim (n : Nat) (G : Gm) (hG : G.ok) (i j : Nat) (hi : i < G.r) (hj : j < G.c) : callR (callF fs gl (n + 6) 35) [oD G, prD i j] = M.ret (.tup [mD G.c (gmM G i j 0), mD G.r (gmM G i j 1)]) := by
  refine ev_of f35 rfl rfl (by simp) (by simp) ?_
  have c1 := x_check_pair (n + 2) G i j hi hj
  have c2 := x_grim_machine n G hG i j hi hj 0 (.inl rfl)
  have c3 := x_grim_machine n G hG i j hi hj 1 (.inr rfl)
  simp at c2 c3
  dsimp only [f35, start]
  (rw [zz_cons]; simp -implicitDefEqProofs (disch := first | assumption | omega) [evalS, evalE, evalEs, evalL, evalI, evalC, EV.T.bind, wipe, MS.ok, M.seq_ret, line, isSub, ret_app, count_range, numbered_range, pairs_range, collect_N, collect_F, collect2_N, collect, zz_nil, c1])
  (rw [zz_cons]; simp -implicitDefEqProofs (disch := first | assumption | omega) [evalS, evalE, evalEs, evalL, evalI, evalC, EV.T.bind, wipe, MS.ok, M.seq_ret, line, isSub, ret_app, count_range, numbered_range, pairs_range, collect_N, collect_F, collect2_N, collect, zz_nil, c2, c3])
  exact ret_rt (by first | rfl | simp)
/-- the payoffs of the other choices of a player -/
def othL (G : Gm) (i j p : Nat) : List Int := ((List.range (G.num p)).filter fun a => !decide (a = own2 i j p)).map fun a => G.mat p a (own2 i j (1 - p))
def ownP (G : Gm) (i j p : Nat) : Int := G.mat p (own2 i j p) (own2 i j (1 - p))
/-- the least factor that holds a player -/
def lf (G : Gm) (i j p : Nat) : Option Rat :=
  if othL G i j p = [] ∨ (topL (othL G i j p) ≤ ownP G i j p ∧ held G p ≤ ownP G i j p) then some 0
  else if ownP G i j p ≤ held G p then none
  else some (((topL (othL G i j p) - ownP G i j p : Int) : Rat) / ((topL (othL G i j p) - held G p : Int) : Rat))
def optF : Option Rat → D
  | none => .non
  | some x => fr x
@[simp] theorem rf_optF (o : Option Rat) : (optF o).rf = true := by cases o <;> simp [optF]
theorem mat_le {G : Gm} (h : G.ok) (p i j : Nat) : (G.mat p i j).natAbs ≤ 100 := by
  unfold Gm.mat
  split
  · exact h.a i j
  · exact h.b _ _
theorem topL_bd {xs : List Int} (h : xs ≠ []) (hx : ∀ x, x ∈ xs → x.natAbs ≤ 100) : (topL xs).natAbs ≤ 100 := hx _ (topL_mem h)
theorem oth_bd {G : Gm} (h : G.ok) (i j p : Nat) : ∀ x, x ∈ othL G i j p → x.natAbs ≤ 100 := by
  intro x hx
  rw [othL, List.mem_map] at hx
  obtain ⟨a, _, rfl⟩ := hx
  exact mat_le h _ _ _
theorem held_bd {G : Gm} (h : G.ok) (p : Nat) : (held G p).natAbs ≤ 100 := by
  obtain ⟨b, _, e⟩ := held_ex h p
  rw [← e]
  refine topL_bd (range_ne _ (num_pos' h p).1) fun x hx => ?_
  rw [List.mem_map] at hx
  obtain ⟨a, _, rfl⟩ := hx
  exact mat_le h _ _ _
theorem bd_int' {i : Int} (h : i.natAbs ≤ 200) : Bd 8 (i : Rat) := ⟨by show (Rat.num (i : Rat)).natAbs < _; rw [Rat.num_intCast]; omega, by show Rat.den (i : Rat) < _; rw [Rat.den_intCast]; decide⟩
theorem x_least (n : Nat) (G : Gm) (hG : G.ok) (i j : Nat) (hi : i < G.r) (hj : j < G.c) (p : Nat) (hp : p = 0 ∨ p = 1) : callR (callF fs gl (n + 5) 28) [oD G, prD i j, .int p] = M.ret (optF (lf G i j p)) := by
  refine ev_of f28 rfl rfl (by simp) (by simp) ?_
  have ep : (1 : Int) - p = ((1 - p : Nat) : Int) := by omega
  have g1 : getI (prD i j) (.int p) = M.ret (.int (own2 i j p)) := by rcases hp with rfl | rfl <;> rfl
  have g2 : getI (prD i j) (.int ((1 - p : Nat) : Int)) = M.ret (.int (own2 i j (1 - p))) := by rcases hp with rfl | rfl <;> rfl
  have c1 := x_pun n G hG p hp
  have c2 := x_mat (n + 2) G hG p hp
  have n1 := num_pos' hG p
  have n2 := num_pos' hG (1 - p)
  have l1 := own_lt (G := G) hi hj p
  have l2 := own_lt (G := G) hi hj (1 - p)
  have ob := oth_bd hG i j p
  have hb := held_bd hG p
  have wb : (ownP G i j p).natAbs ≤ 100 := mat_le hG _ _ _
  have e1 : ∀ a : Nat, ((a : Int) = (own2 i j p : Nat)) ↔ a = own2 i j p := fun a => by omega
  have ho : D.fl (((List.range (G.num p)).filter fun a => !decide (a = own2 i j p)).map fun a => D.int (G.mat p a (own2 i j (1 - p)))) = .fl ((othL G i j p).map D.int) := by
    rw [othL, List.map_map]; rfl
  have we : G.mat p (own2 i j p) (own2 i j (1 - p)) = ownP G i j p := rfl
  have dI : ∀ xs : List Int, D.deeps 29 (xs.map D.int) = true := by
    intro xs
    induction xs with
    | nil => rfl
    | cons x xs ih => rw [List.map_cons, deeps_cons, ih]; rfl
  have hem : cm .eq (.fl ((othL G i j p).map D.int)) (.fl []) = M.ret (.bl (decide (othL G i j p = []))) := by
    rw [EW.cm_eq (show D.deep 30 (.fl ((othL G i j p).map D.int)) = true from dI _) rfl]
    cases othL G i j p with
    | nil => rfl
    | cons x xs => simp [D.eq, D.eqs]
  dsimp only [f28, start]
  (rw [zz_cons]; simp -implicitDefEqProofs (disch := first | assumption | omega) [evalS, evalE, evalEs, evalL, evalI, evalC, EV.T.bind, wipe, MS.ok, M.seq_ret, line, isSub, ret_app, count_range, numbered_range, pairs_range, collect_N, collect_F, collect2_N, collect, zz_nil, c2])
  (rw [zz_cons]; simp -implicitDefEqProofs (disch := first | assumption | omega) [evalS, evalE, evalEs, evalL, evalI, evalC, EV.T.bind, wipe, MS.ok, M.seq_ret, line, isSub, ret_app, count_range, numbered_range, pairs_range, collect_N, collect_F, collect2_N, collect, zz_nil, g1, g2, ep, c1])
  (rw [zz_cons]; simp -implicitDefEqProofs (disch := first | assumption | omega) [evalS, evalE, evalEs, evalL, evalI, evalC, EV.T.bind, wipe, MS.ok, M.seq_ret, line, isSub, ret_app, count_range, numbered_range, pairs_range, collect_N, collect_F, collect2_N, collect, zz_nil, g1, g2, ep, e1, ho, we])
  unfold lf
  by_cases he : othL G i j p = []
  · simp only [he, true_or, if_true] at hem ⊢
    (rw [zz_cons]; simp -implicitDefEqProofs (disch := first | assumption | omega) [evalS, evalE, evalEs, evalL, evalI, evalC, EV.T.bind, wipe, MS.ok, M.seq_ret, line, isSub, ret_app, count_range, numbered_range, pairs_range, collect_N, collect_F, collect2_N, collect, zz_nil, hem])
    exact ret_rt rfl
  · have hm := max_fl he
    have tb := topL_bd he ob
    simp only [he, false_or]
    rw [decide_eq_false he] at hem
    by_cases hc : topL (othL G i j p) ≤ ownP G i j p ∧ held G p ≤ ownP G i j p
    · rw [if_pos hc]
      (rw [zz_cons]; simp -implicitDefEqProofs (disch := first | assumption | omega) [evalS, evalE, evalEs, evalL, evalI, evalC, EV.T.bind, wipe, MS.ok, M.seq_ret, line, isSub, ret_app, count_range, numbered_range, pairs_range, collect_N, collect_F, collect2_N, collect, zz_nil, hem, hm, hc.1, hc.2])
      exact ret_rt rfl
    · rw [if_neg hc]
      (rw [zz_cons]; simp -implicitDefEqProofs (disch := first | assumption | omega) [evalS, evalE, evalEs, evalL, evalI, evalC, EV.T.bind, wipe, MS.ok, M.seq_ret, line, isSub, ret_app, count_range, numbered_range, pairs_range, collect_N, collect_F, collect2_N, collect, zz_nil, hem, hm])
      simp only [hc, if_false]
      simp -implicitDefEqProofs (disch := first | assumption | omega) [evalS, evalE, evalEs, evalL, evalI, evalC, EV.T.bind, wipe, MS.ok, M.seq_ret, line, isSub, ret_app, count_range, numbered_range, pairs_range, collect_N, collect_F, collect2_N, collect, zz_nil]
      by_cases hh : ownP G i j p ≤ held G p
      · rw [if_pos hh]
        (rw [zz_cons]; simp -implicitDefEqProofs (disch := first | assumption | omega) [evalS, evalE, evalEs, evalL, evalI, evalC, EV.T.bind, wipe, MS.ok, M.seq_ret, line, isSub, ret_app, count_range, numbered_range, pairs_range, collect_N, collect_F, collect2_N, collect, zz_nil, hh])
        exact ret_rt rfl
      · rw [if_neg hh]
        have ht : ownP G i j p < topL (othL G i j p) := by omega
        have pos : (0 : Rat) < ((topL (othL G i j p) - held G p : Int) : Rat) := by
          rw [Rat.intCast_pos]; omega
        have q1 := x_div (n + 2) (bd_int' (i := topL (othL G i j p) - ownP G i j p) (by omega)) (bd_int' (i := topL (othL G i j p) - held G p) (by omega)) (by omega) pos
        have w1 := x_whole (n + 3) (topL (othL G i j p) - ownP G i j p)
        have w2 := x_whole (n + 3) (topL (othL G i j p) - held G p)
        (rw [zz_cons]; simp -implicitDefEqProofs (disch := first | assumption | omega) [evalS, evalE, evalEs, evalL, evalI, evalC, EV.T.bind, wipe, MS.ok, M.seq_ret, line, isSub, ret_app, count_range, numbered_range, pairs_range, collect_N, collect_F, collect2_N, collect, zz_nil, hh])
        simp only [Rat.intCast_sub] at q1
        (rw [zz_cons]; simp -implicitDefEqProofs (disch := first | assumption | omega) [evalS, evalE, evalEs, evalL, evalI, evalC, EV.T.bind, wipe, MS.ok, M.seq_ret, line, isSub, ret_app, count_range, numbered_range, pairs_range, collect_N, collect_F, collect2_N, collect, zz_nil, hm, w1, w2, q1])
        exact ret_rt rfl
theorem lf_bd {G : Gm} (hG : G.ok) {i j p : Nat} {x : Rat} (h : lf G i j p = some x) : Fac 16 x := by
  have ob := oth_bd hG i j p
  have hb := held_bd hG p
  have wb : (ownP G i j p).natAbs ≤ 100 := mat_le hG _ _ _
  unfold lf at h
  split at h
  · simp at h; subst h
    exact ⟨Rat.le_refl, by decide, bd_zero.mono (by omega), by omega, by omega⟩
  · rename_i hc
    split at h
    · cases h
    · rename_i hh
      simp at h
      have he : othL G i j p ≠ [] := fun e => hc (.inl e)
      have tb := topL_bd he ob
      have ht : ownP G i j p < topL (othL G i j p) := by
        have : ¬ (topL (othL G i j p) ≤ ownP G i j p ∧ held G p ≤ ownP G i j p) := fun e => hc (.inr e)
        omega
      have p1 : (0 : Rat) < ((topL (othL G i j p) - ownP G i j p : Int) : Rat) := by rw [Rat.intCast_pos]; omega
      have p2 : (0 : Rat) < ((topL (othL G i j p) - held G p : Int) : Rat) := by rw [Rat.intCast_pos]; omega
      have p3 : ((topL (othL G i j p) - ownP G i j p : Int) : Rat) < ((topL (othL G i j p) - held G p : Int) : Rat) := by rw [Rat.intCast_lt_intCast]; omega
      have b := bd_div (bd_int' (i := topL (othL G i j p) - ownP G i j p) (by omega)) (bd_int' (i := topL (othL G i j p) - held G p) (by omega)) p2
      rw [← Rat.intCast_sub, ← Rat.intCast_sub] at h
      subst h
      exact ⟨Rat.not_lt.mp (fun h => by have := (Rat.div_lt_iff p2).mp h; grind), (Rat.div_lt_iff p2).mpr (by grind), b, by omega, by omega⟩
/-- the least factor that holds both -/
def gf (G : Gm) (i j : Nat) : Option Rat := match lf G i j 0, lf G i j 1 with
  | some a, some b => some (if a < b then b else a)
  | _, _ => none
theorem gf_bd {G : Gm} (hG : G.ok) {i j : Nat} {x : Rat} (h : gf G i j = some x) : Fac 16 x := by
  unfold gf at h
  cases h0 : lf G i j 0 with
  | none => rw [h0] at h; cases h
  | some a =>
    cases h1 : lf G i j 1 with
    | none => rw [h0, h1] at h; cases h
    | some b =>
      rw [h0, h1] at h
      simp at h
      subst h
      split
      · exact lf_bd hG h1
      · exact lf_bd hG h0
theorem x_gf (n : Nat) (G : Gm) (hG : G.ok) (i j : Nat) (hi : i < G.r) (hj : j < G.c) : callR (callF fs gl (n + 6) 32) [oD G, prD i j] = M.ret (optF (gf G i j)) := by
  refine ev_of f32 rfl rfl (by simp) (by simp) ?_
  have c1 := x_check_pair (n + 2) G i j hi hj
  have c2 := x_least n G hG i j hi hj 0 (.inl rfl)
  have c3 := x_least n G hG i j hi hj 1 (.inr rfl)
  simp at c2 c3
  dsimp only [f32, start]
  (rw [zz_cons]; simp -implicitDefEqProofs (disch := first | assumption | omega) [evalS, evalE, evalEs, evalL, evalI, evalC, EV.T.bind, wipe, MS.ok, M.seq_ret, line, isSub, ret_app, count_range, numbered_range, pairs_range, collect_N, collect_F, collect2_N, collect, zz_nil, c1])
  (rw [zz_cons]; simp -implicitDefEqProofs (disch := first | assumption | omega) [evalS, evalE, evalEs, evalL, evalI, evalC, EV.T.bind, wipe, MS.ok, M.seq_ret, line, isSub, ret_app, count_range, numbered_range, pairs_range, collect_N, collect_F, collect2_N, collect, zz_nil, c2, c3])
  unfold gf
  have hmem : ∀ a b : Option Rat, cm .mem .non (.fl [optF a, optF b]) = M.ret (.bl (decide (a = none ∨ b = none))) := fun a b => by
    have d1 : ∀ o : Option Rat, D.deep 30 (optF o) = true := fun o => by cases o <;> simp [optF]
    rw [cm_mem_fl rfl (by simp [d1])]
    cases a <;> cases b <;> simp [optF, memD, fr, D.eq]
  cases h0 : lf G i j 0 with
  | none =>
    (rw [zz_cons]; simp -implicitDefEqProofs (disch := first | assumption | omega) [evalS, evalE, evalEs, evalL, evalI, evalC, EV.T.bind, wipe, MS.ok, M.seq_ret, line, isSub, ret_app, count_range, numbered_range, pairs_range, collect_N, collect_F, collect2_N, collect, zz_nil, hmem])
    exact ret_rt rfl
  | some a =>
    cases h1 : lf G i j 1 with
    | none =>
      (rw [zz_cons]; simp -implicitDefEqProofs (disch := first | assumption | omega) [evalS, evalE, evalEs, evalL, evalI, evalC, EV.T.bind, wipe, MS.ok, M.seq_ret, line, isSub, ret_app, count_range, numbered_range, pairs_range, collect_N, collect_F, collect2_N, collect, zz_nil, hmem])
      exact ret_rt rfl
    | some b =>
      have fa := lf_bd hG h0
      have fb := lf_bd hG h1
      have q1 := x_greatest (n + 2) 2 16 (fun k => if k = 0 then a else b) (by omega) (fun k hk => by split; exact fa.b; exact fb.b) (by omega) (.fl [fr a, fr b]) (.inl rfl)
      have e : gm (fun k => if k = 0 then a else b) 2 = if a < b then b else a := by
        have : ¬ a < a := by grind
        simp [gm, this]
      rw [e] at q1
      (rw [zz_cons]; simp -implicitDefEqProofs (disch := first | assumption | omega) [evalS, evalE, evalEs, evalL, evalI, evalC, EV.T.bind, wipe, MS.ok, M.seq_ret, line, isSub, ret_app, count_range, numbered_range, pairs_range, collect_N, collect_F, collect2_N, collect, zz_nil, hmem])
      simp only [optF]
      simp -implicitDefEqProofs (disch := first | assumption | omega) [evalS, evalE, evalEs, evalL, evalI, evalC, EV.T.bind, wipe, MS.ok, M.seq_ret, line, isSub, ret_app, count_range, numbered_range, pairs_range, collect_N, collect_F, collect2_N, collect, zz_nil, q1]
      exact ret_rt rfl
end K87
end
section
set_option Elab.async false
set_option linter.all false
set_option maxRecDepth 100000
set_option maxHeartbeats 4000000
/-! k87, part s: single choices. -/
namespace K87
open EV EW
def pairsL (G : Gm) : List (Nat × Nat) := (List.range G.r).flatMap fun i => (List.range G.c).map fun j => (i, j)
theorem mem_pairs {G : Gm} {x : Nat × Nat} : x ∈ pairsL G ↔ x.1 < G.r ∧ x.2 < G.c := by
  simp only [pairsL, List.mem_flatMap, List.mem_map, List.mem_range]
  constructor
  · rintro ⟨i, hi, j, hj, rfl⟩; exact ⟨hi, hj⟩
  · rintro ⟨h1, h2⟩; exact ⟨x.1, h1, x.2, h2, rfl⟩
theorem pairs_len {G : Gm} (h : G.ok) : (pairsL G).length ≤ 25 := by
  have : (pairsL G).length = G.r * G.c := by
    unfold pairsL
    induction G.r with
    | zero => simp
    | succ n ih => rw [List.range_succ, List.flatMap_append, List.length_append, ih, Nat.succ_mul]; simp
  rw [this]
  exact Nat.mul_le_mul h.r5 h.c5
theorem x_pairs (n : Nat) (G : Gm) (hG : G.ok) : callR (callF fs gl (n + 1) 16) [oD G] = M.ret (bl (pairsL G)) := by
  have e : bl (pairsL G) = .fl ((List.range G.r).flatMap fun (i : Nat) => (List.range G.c).map fun (j : Nat) => D.tup [.int i, .int j]) := by
    unfold bl pairsL
    rw [List.map_flatMap]
    congr 2
    funext i
    rw [List.map_map]; rfl
  refine ev_of f16 rfl rfl (by simp) (by simp) ?_
  have r5 := hG.r5
  have c5 := hG.c5
  dsimp only [f16, start]
  (rw [zz_cons]; simp -implicitDefEqProofs (disch := first | assumption | omega) [evalS, evalE, evalEs, evalL, evalI, evalC, EV.T.bind, wipe, MS.ok, M.seq_ret, line, isSub, ret_app, count_range, numbered_range, pairs_range, collect_N, collect_F, collect2_N, collect, zz_nil])
  exact ret_rt e.symm
def isEq (G : Gm) (x : Nat × Nat) : Bool := decide (G.A x.1 x.2 = wst G 0 x.2) && decide (G.B x.1 x.2 = wst G 1 x.1)
def eqL (G : Gm) : List (Nat × Nat) := (pairsL G).filter (isEq G)
theorem x_pure (n : Nat) (G : Gm) (hG : G.ok) : callR (callF fs gl (n + 2) 17) [oD G] = M.ret (bl (eqL G)) := by
  refine ev_of f17 rfl rfl (by simp) (by simp) ?_
  have r1 := hG.r1
  have c1 := hG.c1
  have r5 := hG.r5
  have c5 := hG.c5
  have q1 := x_pairs n G hG
  have pl := pairs_len hG
  have w0 : ∀ b, topL ((List.range G.r).map fun a => G.A a b) = wst G 0 b := fun b => rfl
  have w1 : ∀ a, topL ((List.range G.c).map fun b => G.B a b) = wst G 1 a := fun b => rfl
  dsimp only [f17, start]
  (rw [zz_cons]; simp -implicitDefEqProofs (disch := first | assumption | omega) [evalS, evalE, evalEs, evalL, evalI, evalC, EV.T.bind, wipe, MS.ok, M.seq_ret, line, isSub, ret_app, count_range, numbered_range, pairs_range, collect_N, collect_F, collect2_N, collect, zz_nil, w0])
  (rw [zz_cons]; simp -implicitDefEqProofs (disch := first | assumption | omega) [evalS, evalE, evalEs, evalL, evalI, evalC, EV.T.bind, wipe, MS.ok, M.seq_ret, line, isSub, ret_app, count_range, numbered_range, pairs_range, collect_N, collect_F, collect2_N, collect, zz_nil, lift, M.seq, M.ret])
  (rw [zz_cons]; simp -implicitDefEqProofs (disch := first | assumption | omega) [evalS, evalE, evalEs, evalL, evalI, evalC, EV.T.bind, wipe, MS.ok, M.seq_ret, line, isSub, ret_app, count_range, numbered_range, pairs_range, collect_N, collect_F, collect2_N, collect, zz_nil, q1])
  refine lpM (I := fun xs r' S => ∃ v3 v4 ys, r' = [some (oD G), some (ls G.c fun b => .int (wst G 0 b)), some (.ref 0), v3, v4] ∧ S = [.lst ((ys.filter (isEq G)).map pD)] ∧ ys ++ xs = pairsL G) ?_ ?_ ?_
  · exact ⟨_, _, [], rfl, rfl, rfl⟩
  · rintro x xs r' S P ⟨v3, v4, ys, rfl, rfl, he⟩ hP _ _
    have hx : x ∈ pairsL G := by rw [← he]; simp
    obtain ⟨h1, h2⟩ := mem_pairs.mp hx
    have hlen : (ys.filter (isEq G)).length ≤ 25 := by
      have f1 := List.length_filter_le (isEq G) ys
      have f2 := congrArg List.length he
      rw [List.length_append] at f2
      omega
    have hfl : (ys ++ [x]).filter (isEq G) = ys.filter (isEq G) ++ if isEq G x = true then [x] else [] := by
      rw [List.filter_append]; simp [List.filter_cons]
    simp only [prD]
    simp only [EV.T.bind, List.length_cons, List.length_nil, List.set_cons_succ, List.set_cons_zero, Nat.reduceAdd, Nat.reduceLT, if_true, ite_true, Option.bind_some]
    have hq : (decide (G.A x.1 x.2 = wst G 0 x.2) && decide (G.B x.1 x.2 = wst G 1 x.1)) = isEq G x := rfl
    (rw [zz_cons]; simp -implicitDefEqProofs (disch := first | assumption | omega) [evalS, evalE, evalEs, evalL, evalI, evalC, EV.T.bind, wipe, MS.ok, M.seq_ret, line, isSub, ret_app, count_range, numbered_range, pairs_range, collect_N, collect_F, collect2_N, collect, zz_nil, w1])
    by_cases hg : isEq G x = true
    · have hg' := hg
      simp only [isEq, Bool.and_eq_true, decide_eq_true_eq] at hg'
      rw [if_pos hg] at hfl
      simp only [hg'.1, hg'.2, and_self, if_true]
      (rw [zz_cons]; simp -implicitDefEqProofs (disch := first | assumption | omega) [evalS, evalE, evalEs, evalL, evalI, evalC, EV.T.bind, wipe, MS.ok, M.seq_ret, line, isSub, ret_app, count_range, numbered_range, pairs_range, collect_N, collect_F, collect2_N, collect, zz_nil, lift, M.seq, M.ret, lstOf])
      exact Pst.ok (hP _ _ ⟨_, _, ys ++ [x], rfl, by rw [hfl, List.map_append]; rfl, by rw [← he]; simp⟩)
    · have hg' := hg
      simp only [isEq, Bool.and_eq_true, decide_eq_true_eq] at hg'
      rw [if_neg hg, List.append_nil] at hfl
      simp only [hg', if_false]
      simp -implicitDefEqProofs (disch := first | assumption | omega) [evalS, evalE, evalEs, evalL, evalI, evalC, EV.T.bind, wipe, MS.ok, M.seq_ret, line, isSub, ret_app, count_range, numbered_range, pairs_range, collect_N, collect_F, collect2_N, collect, zz_nil]
      exact Pst.ok (hP _ _ ⟨_, _, ys ++ [x], rfl, by rw [hfl], by rw [← he]; simp⟩)
  · rintro r' S ⟨v3, v4, ys, rfl, rfl, he⟩
    rw [List.append_nil] at he
    subst he
    (rw [zz_cons]; simp -implicitDefEqProofs (disch := first | assumption | omega) [evalS, evalE, evalEs, evalL, evalI, evalC, EV.T.bind, wipe, MS.ok, M.seq_ret, line, isSub, ret_app, count_range, numbered_range, pairs_range, collect_N, collect_F, collect2_N, collect, zz_nil, lift, M.seq, M.ret, frz])
    exact ret_rt rfl
/-- the plan of one choice -/
def dl (j k : Nat) : Rat := if k = j then 1 else 0
def plD (c j : Nat) : D := tb c fun k => fr (dl j k)
@[simp] theorem rf_plD (c j : Nat) : (plD c j).rf = true := by simp [plD]
theorem dl_bd (j k : Nat) : Bd 1 (dl j k) := by unfold dl; split; exact bd_one; exact bd_zero
theorem x_single (n c j : Nat) (hc : c ≤ 5) : callR (callF fs gl (n + 1) 76) [.int c, .int j] = M.ret (plD c j) := by
  refine ev_of f76 rfl rfl (by simp) (by simp) ?_
  dsimp only [f76, start]
  (rw [zz_cons]; simp -implicitDefEqProofs (disch := first | assumption | omega) [evalS, evalE, evalEs, evalL, evalI, evalC, EV.T.bind, wipe, MS.ok, M.seq_ret, line, isSub, ret_app, count_range, numbered_range, pairs_range, collect_N, collect_F, collect2_N, collect, zz_nil])
  refine ret_rt ?_
  unfold plD
  congr 1
  funext k
  unfold dl
  by_cases h : k = j
  · simp [h]; rfl
  · have : ¬ (k : Int) = j := by omega
    simp [h, this]; rfl
theorem rs_snoc (xs : List Rat) (x : Rat) : rs (xs ++ [x]) = rs xs + x := by
  unfold rs
  rw [List.foldl_append]; rfl
theorem rs_dl (x : Nat → Rat) (j : Nat) : ∀ n, rs ((List.range n).map fun k => x k * dl j k) = if j < n then x j else 0
  | 0 => rfl
  | n + 1 => by
    rw [List.range_succ, List.map_append, List.map_cons, List.map_nil, rs_snoc, rs_dl x j n]
    unfold dl
    by_cases h : n = j
    · subst h
      rw [if_neg (by omega), if_pos rfl, if_pos (by omega)]
      grind
    · rw [if_neg h]
      by_cases h2 : j < n
      · rw [if_pos h2, if_pos (by omega)]; grind
      · rw [if_neg h2, if_neg (by omega)]; grind
theorem rs_dl1 (j n : Nat) (h : j < n) : rs ((List.range n).map fun k => dl j k) = 1 := by
  have := rs_dl (fun _ => 1) j n
  rw [if_pos h] at this
  rw [← this]
  congr 2
  funext k
  rw [Rat.one_mul]
theorem x_is_plan (n c j : Nat) (hc : c ≤ 5) (hj : j < c) : callR (callF fs gl (n + 4) 66) [.int c, plD c j] = M.ret (.bl true) := by
  refine ev_of f66 rfl rfl (by simp) (by simp) ?_
  have q1 : callR (callF fs gl (n + 3) 5) [plD c j, .int c] = M.ret (.bl true) := by
    rw [plD, x_tupb _ _ _ _ (fun i => rf_fr _)]; simp
  have q2 := fun k => x_is_fraction n (dl j k)
  have q3 := (x_total' n 1 ((List.range c).map (dl j)) (plD c j) (by rw [List.map_map]; rfl) (rf_plD c j) (by
    intro x hx
    rw [List.mem_map] at hx
    obtain ⟨k, _, rfl⟩ := hx
    exact dl_bd j k) (by simp; omega)).1
  have e1 : rs ((List.range c).map (dl j)) = 1 := rs_dl1 j c hj
  rw [e1] at q3
  have hn : ∀ k, (0 : Int) ≤ (dl j k).num := fun k => by unfold dl; split <;> decide
  have sq : seqOf (plD c j) = M.ret ((List.range c).map fun k => fr (dl j k)) := rfl
  dsimp only [f66, start]
  (rw [zz_cons]; simp -implicitDefEqProofs (disch := first | assumption | omega) [evalS, evalE, evalEs, evalL, evalI, evalC, EV.T.bind, wipe, MS.ok, M.seq_ret, line, isSub, ret_app, count_range, numbered_range, pairs_range, collect_N, collect_F, collect2_N, collect, zz_nil, q1, sq, q2, hn])
  (rw [zz_cons]; simp -implicitDefEqProofs (disch := first | assumption | omega) [evalS, evalE, evalEs, evalL, evalI, evalC, EV.T.bind, wipe, MS.ok, M.seq_ret, line, isSub, ret_app, count_range, numbered_range, pairs_range, collect_N, collect_F, collect2_N, collect, zz_nil, q3])
  exact ret_rt (by first | rfl | simp)
theorem x_check_plan (n c j : Nat) (hc : c ≤ 5) (hj : j < c) : callR (callF fs gl (n + 5) 67) [.int c, plD c j] = M.ret .non := by
  refine ev_of f67 rfl rfl (by simp) (by simp) ?_
  dsimp only [f67, start]
  (rw [zz_cons]; simp -implicitDefEqProofs (disch := first | assumption | omega) [evalS, evalE, evalEs, evalL, evalI, evalC, EV.T.bind, wipe, MS.ok, M.seq_ret, line, isSub, ret_app, count_range, numbered_range, pairs_range, collect_N, collect_F, collect2_N, collect, zz_nil, x_is_plan n c j hc hj])
  exact ret_nx
theorem x_dot (n c j : Nat) (g : Nat → Int) (hg : ∀ k, (g k).natAbs ≤ 100) (hc : c ≤ 5) (hj : j < c) : callR (callF fs gl (n + 4) 68) [ls c fun k => fr (g k : Rat), plD c j] = M.ret (fr (g j : Rat)) := by
  refine ev_of f68 rfl rfl (by simp) (by simp) ?_
  have sq : seqOf (plD c j) = M.ret ((List.range c).map fun k => fr (dl j k)) := rfl
  have q1 := fun k => x_mul (n + 1) (bd_int (hg k)) (dl_bd j k) (by omega)
  have q2 := (x_total n 9 ((List.range c).map fun k => (g k : Rat) * dl j k) (by
    intro x hx
    rw [List.mem_map] at hx
    obtain ⟨k, _, rfl⟩ := hx
    exact bd_mul (bd_int (hg k)) (dl_bd j k)) (by simp; omega)).1
  have e : rs ((List.range c).map fun k => (g k : Rat) * dl j k) = (g j : Rat) := by
    have := rs_dl (fun k => (g k : Rat)) j c
    rw [if_pos hj] at this
    exact this
  rw [e, rl, List.map_map] at q2
  have q2' : callR (callF fs gl (n + 3) 65) [ls c fun k => fr ((g k : Rat) * dl j k)] = _ := q2
  dsimp only [f68, start]
  (rw [zz_cons]; simp -implicitDefEqProofs (disch := first | assumption | omega) [evalS, evalE, evalEs, evalL, evalI, evalC, EV.T.bind, wipe, MS.ok, M.seq_ret, line, isSub, ret_app, count_range, numbered_range, pairs_range, collect_N, collect_F, collect2_N, collect, zz_nil, sq, q1, q2'])
  exact ret_rt (by first | rfl | simp)
theorem x_worths (n : Nat) (G : Gm) (hG : G.ok) (j : Nat) (hj : j < G.c) : callR (callF fs gl (n + 5) 69) [oD G, .int 0, plD G.c j] = M.ret (tb G.r fun i => fr (G.A i j : Rat)) := by
  refine ev_of f69 rfl rfl (by simp) (by simp) ?_
  have q1 := x_mat (n + 2) G hG 0 (.inl rfl)
  simp only [Int.natCast_zero, num0] at q1
  have q1' : callR (callF fs gl (n + 4) 22) [oD G, .int 0] = M.ret (tI G.r G.c G.A) := q1
  have q2 := fun i => x_dot n G.c j (fun k => G.A i k) (fun k => hG.a i k) hG.c5 hj
  have r5 := hG.r5
  have c5 := hG.c5
  dsimp only [f69, start]
  (rw [zz_cons]; simp -implicitDefEqProofs (disch := first | assumption | omega) [evalS, evalE, evalEs, evalL, evalI, evalC, EV.T.bind, wipe, MS.ok, M.seq_ret, line, isSub, ret_app, count_range, numbered_range, pairs_range, collect_N, collect_F, collect2_N, collect, zz_nil, q1', x_whole, q2])
  exact ret_rt (by first | rfl | simp)
/-- the best replies to a single choice -/
def repL (G : Gm) (j : Nat) : List Nat := (List.range G.r).filter fun i => decide ((G.A i j : Rat) = gm (fun i => (G.A i j : Rat)) G.r)
theorem x_replies (n : Nat) (G : Gm) (hG : G.ok) (j : Nat) (hj : j < G.c) : callR (callF fs gl (n + 7) 71) [oD G, .int 0, plD G.c j] = M.ret (.tup ((repL G j).map fun (i : Nat) => .int i)) := by
  have rfi : ∀ l : List Nat, D.rfs (l.map fun (i : Nat) => D.int i) = true := fun l => rfs_map (fun _ => rfl) l
  have r5 := hG.r5
  have a1 : callR (callF fs gl (n + 6) 70) [oD G, .int 0, plD G.c j] = M.ret (tb G.r fun i => fr (G.A i j : Rat)) := by
    refine ev_of f70 rfl rfl (by simp) (by simp) ?_
    have c1 := x_check_player (n + 2) 0 (.inl rfl)
    have c2 := x_check_plan n G.c j hG.c5 hj
    simp only [Int.natCast_zero] at c1
    dsimp only [f70, start]
    (rw [zz_cons]; simp -implicitDefEqProofs (disch := first | assumption | omega) [evalS, evalE, evalEs, evalL, evalI, evalC, EV.T.bind, wipe, MS.ok, M.seq_ret, line, isSub, ret_app, count_range, numbered_range, pairs_range, collect_N, collect_F, collect2_N, collect, zz_nil, c1])
    (rw [zz_cons]; simp -implicitDefEqProofs (disch := first | assumption | omega) [evalS, evalE, evalEs, evalL, evalI, evalC, EV.T.bind, wipe, MS.ok, M.seq_ret, line, isSub, ret_app, count_range, numbered_range, pairs_range, collect_N, collect_F, collect2_N, collect, zz_nil, c2])
    (rw [zz_cons]; simp -implicitDefEqProofs (disch := first | assumption | omega) [evalS, evalE, evalEs, evalL, evalI, evalC, EV.T.bind, wipe, MS.ok, M.seq_ret, line, isSub, ret_app, count_range, numbered_range, pairs_range, collect_N, collect_F, collect2_N, collect, zz_nil, x_worths n G hG j hj])
    exact ret_rt (by first | rfl | simp)
  have a2 : callR (callF fs gl (n + 6) 64) [tb G.r fun i => fr (G.A i j : Rat)] = M.ret (.tup ((repL G j).map fun (i : Nat) => .int i)) := by
    refine ev_of f64 rfl rfl (by simp) (by simp [rfi]) ?_
    have q := x_greatest (n + 2) G.r 8 (fun i => (G.A i j : Rat)) hG.r1 (fun i _ => bd_int (hG.a i j)) (by omega) _ (.inr rfl)
    dsimp only [f64, start]
    (rw [zz_cons]; simp -implicitDefEqProofs (disch := first | assumption | omega) [evalS, evalE, evalEs, evalL, evalI, evalC, EV.T.bind, wipe, MS.ok, M.seq_ret, line, isSub, ret_app, count_range, numbered_range, pairs_range, collect_N, collect_F, collect2_N, collect, zz_nil, q])
    (rw [zz_cons]; simp -implicitDefEqProofs (disch := first | assumption | omega) [evalS, evalE, evalEs, evalL, evalI, evalC, EV.T.bind, wipe, MS.ok, M.seq_ret, line, isSub, ret_app, count_range, numbered_range, pairs_range, collect_N, collect_F, collect2_N, collect, zz_nil])
    exact ret_rt rfl
  refine ev_of f71 rfl rfl (by simp) (by simp [rfi]) ?_
  dsimp only [f71, start]
  (rw [zz_cons]; simp -implicitDefEqProofs (disch := first | assumption | omega) [evalS, evalE, evalEs, evalL, evalI, evalC, EV.T.bind, wipe, MS.ok, M.seq_ret, line, isSub, ret_app, count_range, numbered_range, pairs_range, collect_N, collect_F, collect2_N, collect, zz_nil, a1, a2])
  exact ret_rt (by first | rfl | simp)
end K87
end
section
set_option Elab.async false
set_option linter.all false
set_option maxRecDepth 100000
set_option maxHeartbeats 4000000
/-! k87, part t: the law's own comparison. -/
namespace K87
open EV EW
mutual
/-- what the law's comparison finds the same as itself, so deep at most -/
def sg : Nat → D → Bool
  | 0, _ => false
  | _ + 1, .non => true
  | _ + 1, .bl _ => true
  | _ + 1, .int _ => true
  | n + 1, .tup xs => sgs n xs && decide (xs.length ≤ 1000)
  | n + 1, .fl xs => sgs n xs && decide (xs.length ≤ 1000)
  | _ + 1, _ => false
def sgs : Nat → List D → Bool
  | _, [] => true
  | n, x :: xs => sg n x && sgs n xs
end
@[simp] theorem sgs_nil (n : Nat) : sgs n [] = true := by cases n <;> rw [sgs]
@[simp] theorem sgs_cons (n : Nat) (x : D) (xs : List D) : sgs n (x :: xs) = (sg n x && sgs n xs) := by cases n <;> rw [sgs]
@[simp] theorem sg_non (n : Nat) : sg (n + 1) .non = true := by rw [sg]
@[simp] theorem sg_bl (n : Nat) (b : Bool) : sg (n + 1) (.bl b) = true := by rw [sg]
@[simp] theorem sg_int (n : Nat) (i : Int) : sg (n + 1) (.int i) = true := by rw [sg]
@[simp] theorem sg_tup (n : Nat) (xs : List D) : sg (n + 1) (.tup xs) = (sgs n xs && decide (xs.length ≤ 1000)) := by rw [sg]
@[simp] theorem sg_fl (n : Nat) (xs : List D) : sg (n + 1) (.fl xs) = (sgs n xs && decide (xs.length ≤ 1000)) := by rw [sg]
theorem sgs_all (n : Nat) (F : Nat → D) (l : List Nat) : sgs n (l.map F) = l.all fun i => sg n (F i) := by
  induction l with
  | nil => simp
  | cons x xs ih => rw [List.map_cons, sgs_cons, ih]; rfl
@[simp] theorem sg_tb (n m : Nat) (F : Nat → D) : sg (n + 1) (tb m F) = ((List.range m).all (fun i => sg n (F i)) && decide (m ≤ 1000)) := by
  rw [tb, sg_tup, sgs_all]; simp
@[simp] theorem sg_ls (n m : Nat) (F : Nat → D) : sg (n + 1) (ls m F) = ((List.range m).all (fun i => sg n (F i)) && decide (m ≤ 1000)) := by
  rw [ls, sg_fl, sgs_all]; simp
theorem sgs_mem {n : Nat} {xs : List D} (h : sgs n xs = true) : ∀ x, x ∈ xs → sg n x = true := by
  induction xs with
  | nil => intro x hx; cases hx
  | cons y ys ih =>
    rw [sgs_cons, Bool.and_eq_true] at h
    intro x hx
    cases hx with
    | head => exact h.1
    | tail _ hx => exact ih h.2 x hx
theorem sg_rf : ∀ (n : Nat) (d : D), sg n d = true → d.rf = true
  | 0, d, h => by rw [sg] at h; cases h
  | n + 1, .non, _ => rfl
  | n + 1, .bl _, _ => rfl
  | n + 1, .int _, _ => rfl
  | n + 1, .tup xs, h => by
    rw [sg_tup, Bool.and_eq_true] at h
    have := sgs_mem h.1
    rw [rf_tup]
    have go : ∀ ys : List D, (∀ y, y ∈ ys → sg n y = true) → D.rfs ys = true := by
      intro ys
      induction ys with
      | nil => intro _; rfl
      | cons y ys ih => intro hy; rw [rfs_cons, sg_rf n y (hy y (by simp)), ih fun z hz => hy z (by simp [hz])]; rfl
    exact go xs this
  | n + 1, .fl xs, h => by
    rw [sg_fl, Bool.and_eq_true] at h
    have := sgs_mem h.1
    rw [rf_fl]
    have go : ∀ ys : List D, (∀ y, y ∈ ys → sg n y = true) → D.rfs ys = true := by
      intro ys
      induction ys with
      | nil => intro _; rfl
      | cons y ys ih => intro hy; rw [rfs_cons, sg_rf n y (hy y (by simp)), ih fun z hz => hy z (by simp [hz])]; rfl
    exact go xs this
  | n + 1, .str _, h => by rw [sg] at h <;> first | cases h | simp
  | n + 1, .sl _, h => by rw [sg] at h <;> first | cases h | simp
  | n + 1, .fd _ _ _, h => by rw [sg] at h <;> first | cases h | simp
  | n + 1, .obj _ _ _, h => by rw [sg] at h <;> first | cases h | simp
  | n + 1, .ref _, h => by rw [sg] at h <;> first | cases h | simp
theorem list_tb (xs : List D) : xs = (List.range xs.length).map fun k => xs.getD k .non := by
  refine List.ext_getElem (by simp) fun i h1 h2 => ?_
  simp [h1]
theorem y_same : ∀ (m : Nat) (d : D), sg m d = true → ∀ n, callR (callF fs gl (n + m) 18) [d, d] = M.ret (.bl true)
  | 0, d, h => by rw [sg] at h; cases h
  | m + 1, d, h => fun n => by
    have hrf := sg_rf _ _ h
    refine ev_of f18 rfl rfl (by simp [hrf]) rfl ?_
    have key : ∀ (k : Nat) (F : Nat → D), k ≤ 1000 → (∀ i, i < k → sg m (F i) = true) → ∀ i, i < k → callR (callF fs gl (n + m) 18) [F i, F i] = M.ret (.bl true) := fun k F hk hF i hi => y_same m (F i) (hF i hi) n
    dsimp only [f18, start]
    cases d with
    | non => (rw [zz_cons]; simp -implicitDefEqProofs (disch := first | assumption | omega) [evalS, evalE, evalEs, evalL, evalI, evalC, EV.T.bind, wipe, MS.ok, M.seq_ret, line, isSub, ret_app, count_range, numbered_range, pairs_range, collect_N, collect_F, collect2_N, collect, zz_nil]); exact ret_rt (by first | rfl | simp)
    | bl b => (rw [zz_cons]; simp -implicitDefEqProofs (disch := first | assumption | omega) [evalS, evalE, evalEs, evalL, evalI, evalC, EV.T.bind, wipe, MS.ok, M.seq_ret, line, isSub, ret_app, count_range, numbered_range, pairs_range, collect_N, collect_F, collect2_N, collect, zz_nil]); (rw [zz_cons]; simp -implicitDefEqProofs (disch := first | assumption | omega) [evalS, evalE, evalEs, evalL, evalI, evalC, EV.T.bind, wipe, MS.ok, M.seq_ret, line, isSub, ret_app, count_range, numbered_range, pairs_range, collect_N, collect_F, collect2_N, collect, zz_nil]); exact ret_rt (by first | rfl | simp)
    | int i => (rw [zz_cons]; simp -implicitDefEqProofs (disch := first | assumption | omega) [evalS, evalE, evalEs, evalL, evalI, evalC, EV.T.bind, wipe, MS.ok, M.seq_ret, line, isSub, ret_app, count_range, numbered_range, pairs_range, collect_N, collect_F, collect2_N, collect, zz_nil]); (rw [zz_cons]; simp -implicitDefEqProofs (disch := first | assumption | omega) [evalS, evalE, evalEs, evalL, evalI, evalC, EV.T.bind, wipe, MS.ok, M.seq_ret, line, isSub, ret_app, count_range, numbered_range, pairs_range, collect_N, collect_F, collect2_N, collect, zz_nil]); (rw [zz_cons]; simp -implicitDefEqProofs (disch := first | assumption | omega) [evalS, evalE, evalEs, evalL, evalI, evalC, EV.T.bind, wipe, MS.ok, M.seq_ret, line, isSub, ret_app, count_range, numbered_range, pairs_range, collect_N, collect_F, collect2_N, collect, zz_nil]); exact ret_rt (by first | rfl | simp)
    | tup xs =>
      rw [sg_tup, Bool.and_eq_true, decide_eq_true_eq] at h
      obtain ⟨k, F, e, hl, hF⟩ : ∃ k F, D.tup xs = tb k F ∧ k ≤ 1000 ∧ ∀ i, i < k → sg m (F i) = true :=
        ⟨xs.length, fun k => xs.getD k .non, congrArg D.tup (list_tb xs), h.2, fun i hi => sgs_mem h.1 _ (by simp [hi])⟩
      have hx := key k F hl hF
      rw [e]
      (rw [zz_cons]; simp -implicitDefEqProofs (disch := first | assumption | omega) [evalS, evalE, evalEs, evalL, evalI, evalC, EV.T.bind, wipe, MS.ok, M.seq_ret, line, isSub, ret_app, count_range, numbered_range, pairs_range, collect_N, collect_F, collect2_N, collect, zz_nil])
      (rw [zz_cons]; simp -implicitDefEqProofs (disch := first | assumption | omega) [evalS, evalE, evalEs, evalL, evalI, evalC, EV.T.bind, wipe, MS.ok, M.seq_ret, line, isSub, ret_app, count_range, numbered_range, pairs_range, collect_N, collect_F, collect2_N, collect, zz_nil])
      (rw [zz_cons]; simp -implicitDefEqProofs (disch := first | assumption | omega) [evalS, evalE, evalEs, evalL, evalI, evalC, EV.T.bind, wipe, MS.ok, M.seq_ret, line, isSub, ret_app, count_range, numbered_range, pairs_range, collect_N, collect_F, collect2_N, collect, zz_nil])
      (rw [zz_cons]; simp -implicitDefEqProofs (disch := first | assumption | omega) [evalS, evalE, evalEs, evalL, evalI, evalC, EV.T.bind, wipe, MS.ok, M.seq_ret, line, isSub, ret_app, count_range, numbered_range, pairs_range, collect_N, collect_F, collect2_N, collect, zz_nil])
      (rw [zz_cons]; simp -implicitDefEqProofs (disch := first | assumption | omega) [evalS, evalE, evalEs, evalL, evalI, evalC, EV.T.bind, wipe, MS.ok, M.seq_ret, line, isSub, ret_app, count_range, numbered_range, pairs_range, collect_N, collect_F, collect2_N, collect, zz_nil, hx])
      exact ret_rt (by first | rfl | simp)
    | fl xs =>
      rw [sg_fl, Bool.and_eq_true, decide_eq_true_eq] at h
      obtain ⟨k, F, e, hl, hF⟩ : ∃ k F, D.fl xs = ls k F ∧ k ≤ 1000 ∧ ∀ i, i < k → sg m (F i) = true :=
        ⟨xs.length, fun k => xs.getD k .non, congrArg D.fl (list_tb xs), h.2, fun i hi => sgs_mem h.1 _ (by simp [hi])⟩
      have hx := key k F hl hF
      rw [e]
      (rw [zz_cons]; simp -implicitDefEqProofs (disch := first | assumption | omega) [evalS, evalE, evalEs, evalL, evalI, evalC, EV.T.bind, wipe, MS.ok, M.seq_ret, line, isSub, ret_app, count_range, numbered_range, pairs_range, collect_N, collect_F, collect2_N, collect, zz_nil])
      (rw [zz_cons]; simp -implicitDefEqProofs (disch := first | assumption | omega) [evalS, evalE, evalEs, evalL, evalI, evalC, EV.T.bind, wipe, MS.ok, M.seq_ret, line, isSub, ret_app, count_range, numbered_range, pairs_range, collect_N, collect_F, collect2_N, collect, zz_nil])
      (rw [zz_cons]; simp -implicitDefEqProofs (disch := first | assumption | omega) [evalS, evalE, evalEs, evalL, evalI, evalC, EV.T.bind, wipe, MS.ok, M.seq_ret, line, isSub, ret_app, count_range, numbered_range, pairs_range, collect_N, collect_F, collect2_N, collect, zz_nil])
      (rw [zz_cons]; simp -implicitDefEqProofs (disch := first | assumption | omega) [evalS, evalE, evalEs, evalL, evalI, evalC, EV.T.bind, wipe, MS.ok, M.seq_ret, line, isSub, ret_app, count_range, numbered_range, pairs_range, collect_N, collect_F, collect2_N, collect, zz_nil])
      (rw [zz_cons]; simp -implicitDefEqProofs (disch := first | assumption | omega) [evalS, evalE, evalEs, evalL, evalI, evalC, EV.T.bind, wipe, MS.ok, M.seq_ret, line, isSub, ret_app, count_range, numbered_range, pairs_range, collect_N, collect_F, collect2_N, collect, zz_nil, hx])
      exact ret_rt (by first | rfl | simp)
    | str _ => rw [sg] at h <;> first | cases h | simp
    | sl _ => rw [sg] at h <;> first | cases h | simp
    | fd _ _ _ => rw [sg] at h <;> first | cases h | simp
    | obj _ _ _ => rw [sg] at h <;> first | cases h | simp
    | ref _ => rw [sg] at h <;> first | cases h | simp
@[simp] theorem sg_prD (n i j : Nat) : sg (n + 2) (prD i j) = true := by simp [prD]
@[simp] theorem sg_fr (n : Nat) (x : Rat) : sg (n + 2) (fr x) = true := by simp [fr]
theorem sgs_pD (n : Nat) (xs : List (Nat × Nat)) : sgs (n + 2) (xs.map pD) = true := by
  induction xs with
  | nil => simp
  | cons x xs ih => rw [List.map_cons, sgs_cons, ih]; simp
@[simp] theorem sg_bl' (n : Nat) (xs : List (Nat × Nat)) : sg (n + 3) (bl xs) = decide (xs.length ≤ 1000) := by rw [bl, sg_fl, sgs_pD]; simp
@[simp] theorem sg_optF (n : Nat) (o : Option Rat) : sg (n + 2) (optF o) = true := by cases o <;> simp [optF]
@[simp] theorem sg_gainD (n : Nat) (o : Option ((Nat × Nat) × (Nat × Nat))) : sg (n + 2) (gainD o) = true := by cases o <;> simp [gainD]
theorem sg_mD {n o own : Nat} {mc : Mach} (h : mc.ok own o) (ho : o ≤ 5) : sg (n + 4) (mD o mc) = true := by
  have := h.s6
  simp [mD, stD]
  exact ⟨fun _ _ => by omega, by omega⟩
end K87
end
section
set_option Elab.async false
set_option linter.all false
set_option maxRecDepth 100000
set_option maxHeartbeats 4000000
/-! k87, part u: the law's box. -/
namespace EW
open EV
/-- the end of an expression -/
def Pm {α : Type} (m : M α) (S : Store) (Q : α → Store → Prop) : Prop := ∃ a S', m S = .ok a S' ∧ Q a S'
theorem Pm.ret {α : Type} {a : α} {S : Store} {Q : α → Store → Prop} (h : Q a S) : Pm (M.ret a) S Q := ⟨a, S, rfl, h⟩
theorem Pm.of {α : Type} {m : M α} {a : α} {S S' : Store} {Q : α → Store → Prop} (e : m S = .ok a S') (h : Q a S') : Pm m S Q := ⟨a, S', e, h⟩
theorem Pm.seq {α β : Type} {m : M α} {k : α → M β} {S : Store} {Q : β → Store → Prop} (h : Pm m S fun a S' => Pm (k a) S' Q) : Pm (M.seq m k) S Q := by
  obtain ⟨a, S', e, b, S2, e2, q⟩ := h
  exact ⟨b, S2, by unfold M.seq; rw [e]; exact e2, q⟩
theorem Pm.calm {α : Type} {m : M α} {S : Store} {Q : α → Store → Prop} (h : Pm m S Q) : Pm (M.calm m) S Q := by
  obtain ⟨a, S', e, q⟩ := h
  exact ⟨a, S', by unfold M.calm; rw [e], q⟩
theorem Pm.mono {α : Type} {m : M α} {S : Store} {P Q : α → Store → Prop} (h : Pm m S P) (g : ∀ a S, P a S → Q a S) : Pm m S Q := by
  obtain ⟨a, S', e, q⟩ := h
  exact ⟨a, S', e, g a S' q⟩
theorem pst_lift {α : Type} {m : M α} {r : Env} {k : α → MS} {S : Store} {k2 : Env → Store → RS} {Q : Fl → Store → Prop} (h : Pm m S fun a S' => Pst (bnd (k a S') k2) Q) : Pst (bnd (lift m r k S) k2) Q := by
  obtain ⟨a, S', e, f, S2, e2, q⟩ := h
  exact ⟨f, S2, by unfold EV.lift; rw [e]; exact e2, q⟩
theorem Pm.colN {n : Nat} {g : (i : Nat) → i < n → M (Option D)} {S : Store} {Q : List D → Store → Prop} (I : Nat → Store → Prop) (P : Nat → D → Prop) (h0 : I 0 S)
    (hs : ∀ i (hi : i < n) S, I i S → Pm (g i hi) S fun o S' => ∃ y, o = some y ∧ I (i + 1) S' ∧ P i y)
    (hn : ∀ F S', I n S' → (∀ i, i < n → P i (F i)) → Q ((List.range n).map F) S') : Pm (colN n g) S Q := by
  have go : ∀ (d s : Nat) (S : Store), s + d = n → I s S → ∃ F S', colL (fun i => if h : i < n then g i h else .no) (List.range' s d) S = .ok ((List.range' s d).map F) S' ∧ I n S' ∧ ∀ i, s ≤ i → i < n → P i (F i) := by
    intro d
    induction d with
    | zero => intro s S h1 h2; exact ⟨fun _ => .non, S, rfl, by rw [Nat.add_zero] at h1; rw [← h1]; exact h2, fun i h3 h4 => by omega⟩
    | succ d ih =>
      intro s S h1 h2
      obtain ⟨o, S', e, y, rfl, h3, h4⟩ := hs s (by omega) S h2
      obtain ⟨F, S2, e2, h5, h6⟩ := ih (s + 1) S' (by omega) h3
      have hne : ∀ x, x ∈ List.range' (s + 1) d → x ≠ s := fun x hx => by
        rw [List.mem_range'_1] at hx
        omega
      refine ⟨fun i => if i = s then y else F i, S2, ?_, h5, fun i hi1 hi2 => ?_⟩
      · rw [List.range'_succ, colL]
        unfold M.seq
        rw [dif_pos (show s < n by omega), e]
        dsimp only
        rw [e2]
        have : (List.range' (s + 1) d).map (fun i => if i = s then y else F i) = (List.range' (s + 1) d).map F := List.map_congr_left fun x hx => if_neg (hne x hx)
        rw [List.map_cons, this, if_pos rfl]
        rfl
      · by_cases hi : i = s
        · subst hi; dsimp only; rw [if_pos rfl]; exact h4
        · dsimp only; rw [if_neg hi]; exact h6 i (by omega) hi2
  obtain ⟨F, S', e, h1, h2⟩ := go n 0 S (by omega) h0
  rw [← List.range_eq_range'] at e
  exact ⟨_, S', e, hn F S' h1 fun i hi => h2 i (by omega) hi⟩
/-- a call that sees one object -/
theorem callR_box {cf : List D → M D} {ds : List D} {i : Nat} {S : Store} {o o' : O} {res : D} {q : Store} (hS : S[i]? = some o) (ho : o.rf = true) (hd : D.rfs ds = true)
    (e : cf (.ref 0 :: ds) [o] = .ok res (o' :: q)) (ho' : o'.rf = true) (hr : res.rf = true) : callR cf (.ref i :: ds) S = .ok res (S.set i o') := by
  obtain ⟨h1, h2⟩ := refs_rf hd
  have e1 : refsOf (.ref i :: ds) = [i] := by show i :: refsOf ds = _; rw [h1]
  have e2 : lent 0 (.ref i :: ds) = some (.ref 0 :: ds) := by show (lent 1 ds).map _ = _; rw [h2]; rfl
  have e3 : takeO S [i] = some [o] := by
    show (match S[i]?, takeO S [] with | some o, some q => if o.rf then some (o :: q) else none | _, _ => none) = _
    rw [hS]
    simp [takeO, ho]
  have e4 : putO S [i] (o' :: q) = some (S.set i o') := by
    show (if o'.rf then putO (S.set i o') [] q else none) = _
    rw [if_pos ho']; simp [putO]
  unfold callR
  rw [e1]
  simp only [noDup, e3, e2, e, e4, List.contains_nil, Bool.not_false, Bool.and_self, if_true]
  cases res with
  | ref n => cases hr
  | _ => simp only [hr, if_true]
theorem callR_boxN {cf : List D → M D} {ds : List D} {i k : Nat} {S : Store} {o o' p : O} {q : Store} (hS : S[i]? = some o) (ho : o.rf = true) (hd : D.rfs ds = true)
    (e : cf (.ref 0 :: ds) [o] = .ok (.ref k) (o' :: q)) (hk : 1 ≤ k) (hp : (o' :: q)[k]? = some p) (ho' : o'.rf = true) (hpr : p.rf = true) : callR cf (.ref i :: ds) S = .ok (.ref S.length) (S.set i o' ++ [p]) := by
  obtain ⟨h1, h2⟩ := refs_rf hd
  have e1 : refsOf (.ref i :: ds) = [i] := by show i :: refsOf ds = _; rw [h1]
  have e2 : lent 0 (.ref i :: ds) = some (.ref 0 :: ds) := by show (lent 1 ds).map _ = _; rw [h2]; rfl
  have e3 : takeO S [i] = some [o] := by
    show (match S[i]?, takeO S [] with | some o, some q => if o.rf then some (o :: q) else none | _, _ => none) = _
    rw [hS]
    simp [takeO, ho]
  have e4 : putO S [i] (o' :: q) = some (S.set i o') := by
    show (if o'.rf then putO (S.set i o') [] q else none) = _
    rw [if_pos ho']; simp [putO]
  unfold callR
  rw [e1]
  simp only [noDup, e3, e2, e, e4, List.contains_nil, Bool.not_false, Bool.and_self, if_true]
  rw [if_pos (by simpa using hk), hp]
  simp only [hpr, if_true, List.length_set]
theorem lift_get {α : Type} {xs : List D} {j : Int} {v : D} (h : nth xs j = some v) (f : D → M α) (r : Env) (k : α → MS) (S : Store) : lift (M.seq (getI (.ref 0) (.int j)) f) r k (.lst xs :: S) = lift (f v) r k (.lst xs :: S) := by
  have : getI (.ref 0) (.int j) (.lst xs :: S) = .ok v (.lst xs :: S) := by
    simp [getI, M.seq, isDict, lstOf, h, M.opt, M.ret]
  unfold lift M.seq
  rw [this]
theorem lift_get0 {α : Type} (a b c d : D) (f : D → M α) (r : Env) (k : α → MS) (S : Store) : lift (M.seq (getI (.ref 0) (.int 0)) f) r k (.lst [a, b, c, d] :: S) = lift (f a) r k (.lst [a, b, c, d] :: S) := lift_get (by simp) f r k S
theorem lift_get1 {α : Type} (a b c d : D) (f : D → M α) (r : Env) (k : α → MS) (S : Store) : lift (M.seq (getI (.ref 0) (.int 1)) f) r k (.lst [a, b, c, d] :: S) = lift (f b) r k (.lst [a, b, c, d] :: S) := lift_get (by simp) f r k S
theorem lift_get2 {α : Type} (a b c d : D) (f : D → M α) (r : Env) (k : α → MS) (S : Store) : lift (M.seq (getI (.ref 0) (.int 2)) f) r k (.lst [a, b, c, d] :: S) = lift (f c) r k (.lst [a, b, c, d] :: S) := lift_get (by simp) f r k S
theorem lift_get3 {α : Type} (a b c d : D) (f : D → M α) (r : Env) (k : α → MS) (S : Store) : lift (M.seq (getI (.ref 0) (.int 3)) f) r k (.lst [a, b, c, d] :: S) = lift (f d) r k (.lst [a, b, c, d] :: S) := lift_get (by simp) f r k S
theorem put_box0 (a b c d v : D) (S : Store) : putAt (.ref 0) (.int 0) v (.lst [a, b, c, d] :: S) = .ok () (.lst [v, b, c, d] :: S) := by simp [putAt, ix]
theorem put_box3 (a b c d v : D) (S : Store) : putAt (.ref 0) (.int 3) v (.lst [a, b, c, d] :: S) = .ok () (.lst [a, b, c, v] :: S) := by simp [putAt, ix]
theorem lift_ok {α : Type} {m : M α} {S S' : Store} {a : α} (h : m S = .ok a S') (r : Env) (k : α → MS) : lift m r k S = k a S' := by unfold lift; rw [h]
end EW
namespace K87
open EV EW
/-- a box that has given so many digits at most -/
def Bok (c : Nat) (o : O) : Prop := ∃ (g : Int) (b : Bool) (m k : Nat), o = .lst [.int g, .bl b, .int m, .int k] ∧ m < 2147483629 ∧ k ≤ c
theorem Bok.rf {c : Nat} {o : O} (h : Bok c o) : o.rf = true := by
  obtain ⟨g, b, m, k, rfl, _⟩ := h; rfl
theorem Bok.mono {c d : Nat} {o : O} (h : Bok c o) (hc : c ≤ d) : Bok d o := by
  obtain ⟨g, b, m, k, rfl, h1, h2⟩ := h
  exact ⟨g, b, m, k, rfl, h1, by omega⟩
theorem take_small (n : Nat) (g : Int) (b : Bool) (hb : b = false ∨ (b = true ∧ ¬ 0 < g)) (m k many v x : Nat) (y z : Int) (hm : 1 ≤ many) (hm2 : many ≤ 1000)
   (p1 : op2 .pow (.int ((m : Int) + 15485863 * ((k : Int) + 1) + 179424673)) (.int 5) = M.ret (.int y)) (hx : y % 2147483647 = x)
   (p2 : op2 .pow (.int ((x : Int) * 48271 + 104729 * ((k : Int) + 1))) (.int 3) = M.ret (.int z)) (hv : z % 2147483587 / 64 % (many : Int) = v) (hk : k ≤ 1000000) (hx2 : x < 2147483647) (h1 : m < 2147483629) :
  Pst (evalSs (callF fs gl n) gl f1.body (start f1.ns [.ref 0, .int many]) [.lst [.int g, .bl b, .int m, .int k]]) fun f S => f = .rt (.int (v : Nat)) ∧ S = [.lst [.int g, .bl b, .int m, .int (k + 1 : Nat)]] := by
  dsimp only [f1, start]
  rcases hb with rfl | ⟨rfl, hg⟩
  · (rw [zz_cons]; simp -implicitDefEqProofs (disch := first | assumption | omega) [evalS, evalE, evalEs, evalL, evalI, evalC, EV.T.bind, wipe, MS.ok, M.seq_ret, line, isSub, ret_app, count_range, numbered_range, pairs_range, collect_N, collect_F, collect2_N, collect, zz_nil, lift_get0, lift_get1, lift_get2, lift_get3, EV.seq_assoc])
    (rw [zz_cons]; simp -implicitDefEqProofs (disch := first | assumption | omega) [evalS, evalE, evalEs, evalL, evalI, evalC, EV.T.bind, wipe, MS.ok, M.seq_ret, line, isSub, ret_app, count_range, numbered_range, pairs_range, collect_N, collect_F, collect2_N, collect, zz_nil, lift_get0, lift_get1, lift_get2, lift_get3, EV.seq_assoc, lift_ok (put_box3 _ _ _ _ _ _)])
    (rw [zz_cons]; simp -implicitDefEqProofs (disch := first | assumption | omega) [evalS, evalE, evalEs, evalL, evalI, evalC, EV.T.bind, wipe, MS.ok, M.seq_ret, line, isSub, ret_app, count_range, numbered_range, pairs_range, collect_N, collect_F, collect2_N, collect, zz_nil, lift_get0, lift_get1, lift_get2, lift_get3, EV.seq_assoc, p1, hx])
    (rw [zz_cons]; simp -implicitDefEqProofs (disch := first | assumption | omega) [evalS, evalE, evalEs, evalL, evalI, evalC, EV.T.bind, wipe, MS.ok, M.seq_ret, line, isSub, ret_app, count_range, numbered_range, pairs_range, collect_N, collect_F, collect2_N, collect, zz_nil, lift_get0, lift_get1, lift_get2, lift_get3, EV.seq_assoc, p2, hv])
    exact Pst.ok ⟨rfl, rfl⟩
  · (rw [zz_cons]; simp -implicitDefEqProofs (disch := first | assumption | omega) [evalS, evalE, evalEs, evalL, evalI, evalC, EV.T.bind, wipe, MS.ok, M.seq_ret, line, isSub, ret_app, count_range, numbered_range, pairs_range, collect_N, collect_F, collect2_N, collect, zz_nil, lift_get0, lift_get1, lift_get2, lift_get3, EV.seq_assoc, hg])
    (rw [zz_cons]; simp -implicitDefEqProofs (disch := first | assumption | omega) [evalS, evalE, evalEs, evalL, evalI, evalC, EV.T.bind, wipe, MS.ok, M.seq_ret, line, isSub, ret_app, count_range, numbered_range, pairs_range, collect_N, collect_F, collect2_N, collect, zz_nil, lift_get0, lift_get1, lift_get2, lift_get3, EV.seq_assoc, lift_ok (put_box3 _ _ _ _ _ _)])
    (rw [zz_cons]; simp -implicitDefEqProofs (disch := first | assumption | omega) [evalS, evalE, evalEs, evalL, evalI, evalC, EV.T.bind, wipe, MS.ok, M.seq_ret, line, isSub, ret_app, count_range, numbered_range, pairs_range, collect_N, collect_F, collect2_N, collect, zz_nil, lift_get0, lift_get1, lift_get2, lift_get3, EV.seq_assoc, p1, hx])
    (rw [zz_cons]; simp -implicitDefEqProofs (disch := first | assumption | omega) [evalS, evalE, evalEs, evalL, evalI, evalC, EV.T.bind, wipe, MS.ok, M.seq_ret, line, isSub, ret_app, count_range, numbered_range, pairs_range, collect_N, collect_F, collect2_N, collect, zz_nil, lift_get0, lift_get1, lift_get2, lift_get3, EV.seq_assoc, p2, hv])
    exact Pst.ok ⟨rfl, rfl⟩
theorem take_big (n : Nat) (g : Int) (m k many v : Nat) (hg : 0 < g) (hm : 1 ≤ many) (hm2 : many ≤ 1000) (hv : g % (many : Int) = v) : Pst (evalSs (callF fs gl n) gl f1.body (start f1.ns [.ref 0, .int many]) [.lst [.int g, .bl true, .int m, .int k]]) fun f S => f = .rt (.int (v : Nat)) ∧ S = [.lst [.int (g / many), .bl true, .int m, .int k]] := by
  dsimp only [f1, start]
  (rw [zz_cons]; simp -implicitDefEqProofs (disch := first | assumption | omega) [evalS, evalE, evalEs, evalL, evalI, evalC, EV.T.bind, wipe, MS.ok, M.seq_ret, line, isSub, ret_app, count_range, numbered_range, pairs_range, collect_N, collect_F, collect2_N, collect, zz_nil, lift_get0, lift_get1, EV.seq_assoc, hg])
  (rw [zz_cons]; simp -implicitDefEqProofs (disch := first | assumption | omega) [evalS, evalE, evalEs, evalL, evalI, evalC, EV.T.bind, wipe, MS.ok, M.seq_ret, line, isSub, ret_app, count_range, numbered_range, pairs_range, collect_N, collect_F, collect2_N, collect, zz_nil, lift_get0, lift_get1, EV.seq_assoc, hv])
  (rw [zz_cons]; simp -implicitDefEqProofs (disch := first | assumption | omega) [evalS, evalE, evalEs, evalL, evalI, evalC, EV.T.bind, wipe, MS.ok, M.seq_ret, line, isSub, ret_app, count_range, numbered_range, pairs_range, collect_N, collect_F, collect2_N, collect, zz_nil, lift_get0, lift_get1, EV.seq_assoc, lift_ok (put_box0 _ _ _ _ _ _)])
  (rw [zz_cons]; simp -implicitDefEqProofs (disch := first | assumption | omega) [evalS, evalE, evalEs, evalL, evalI, evalC, EV.T.bind, wipe, MS.ok, M.seq_ret, line, isSub, ret_app, count_range, numbered_range, pairs_range, collect_N, collect_F, collect2_N, collect, zz_nil])
  exact Pst.ok ⟨rfl, rfl⟩
theorem t_take (n c : Nat) (o : O) (h : Bok c o) (hc : c < 1000000) (many : Nat) (hm : 1 ≤ many) (hm2 : many ≤ 1000) :
    ∃ v o', v < many ∧ Bok (c + 1) o' ∧ callF fs gl (n + 1) 1 [.ref 0, .int many] [o] = .ok (.int (v : Nat)) [o'] := by
  obtain ⟨g, b, m, k, rfl, h1, h2⟩ := h
  have ex : ∃ (v : Nat) (o' : O), v < many ∧ Bok (c + 1) o' ∧ Pst (evalSs (callF fs gl n) gl f1.body (start f1.ns [.ref 0, .int many]) [.lst [.int g, .bl b, .int m, .int k]]) fun f S => f = .rt (.int (v : Nat)) ∧ S = [o'] := by
    have md : ∀ x : Int, ∃ v : Nat, x % (many : Int) = v ∧ v < many := fun x => by
      have h1 := Int.emod_lt_of_pos x (show (0 : Int) < many by omega)
      have h2 := Int.emod_nonneg x (show (many : Int) ≠ 0 by omega)
      exact ⟨(x % many).toNat, by omega, by omega⟩
    by_cases hb : b = true ∧ 0 < g
    · obtain ⟨rfl, hg⟩ := hb
      obtain ⟨v, hv, hv2⟩ := md g
      exact ⟨v, _, hv2, ⟨_, _, _, _, rfl, h1, by omega⟩, take_big n g m k many v hg hm hm2 hv⟩
    · have hb' : b = false ∨ (b = true ∧ ¬ 0 < g) := by
        cases b
        · exact .inl rfl
        · exact .inr ⟨rfl, fun h => hb ⟨rfl, h⟩⟩
      have p1 : op2 .pow (.int ((m : Int) + 15485863 * ((k : Int) + 1) + 179424673)) (.int 5) = M.ret (.int (((m : Int) + 15485863 * ((k : Int) + 1) + 179424673) ^ 5)) := op2_pow (k := 5) (by omega) (by omega)
      obtain ⟨x, hx, hx2⟩ : ∃ x : Nat, (((m : Int) + 15485863 * ((k : Int) + 1) + 179424673) ^ 5) % 2147483647 = x ∧ x < 2147483647 := by
        generalize ((m : Int) + 15485863 * ((k : Int) + 1) + 179424673) ^ 5 = y
        exact ⟨(y % 2147483647).toNat, by omega, by omega⟩
      have p2 : op2 .pow (.int ((x : Int) * 48271 + 104729 * ((k : Int) + 1))) (.int 3) = M.ret (.int (((x : Int) * 48271 + 104729 * ((k : Int) + 1)) ^ 3)) := op2_pow (k := 3) (by omega) (by omega)
      obtain ⟨v, hv, hv2⟩ := md ((((x : Int) * 48271 + 104729 * ((k : Int) + 1)) ^ 3) % 2147483587 / 64)
      exact ⟨v, _, hv2, ⟨_, _, _, _, rfl, h1, by omega⟩, take_small n g b hb' m k many v x _ _ hm hm2 p1 hx p2 hv (by omega) hx2 h1⟩
  obtain ⟨v, o', hv, hk, f, S, e, rfl, rfl⟩ := ex
  refine ⟨v, o', hv, hk, ?_⟩
  rw [callF, show fs[1]? = some f1 from rfl]
  show runF _ _ _ _ _ = _
  rw [runF_eq rfl, e]
end K87
end
section
set_option Elab.async false
set_option linter.all false
set_option maxRecDepth 100000
set_option maxHeartbeats 4000000
/-! k87, part v: what is drawn. -/
namespace K87
open EV EW
theorem map_choose {γ : Type} [Inhabited γ] {n : Nat} {F : Nat → D} (emb : γ → D) (P : Nat → γ → Prop) (h : ∀ i, i < n → ∃ x, F i = emb x ∧ P i x) : ∃ f : Nat → γ, (List.range n).map F = (List.range n).map (fun i => emb (f i)) ∧ ∀ i, i < n → P i (f i) := by
  refine ⟨fun i => open Classical in if hi : i < n then (h i hi).choose else default, List.map_congr_left fun i hi => ?_, fun i hi => ?_⟩
  · rw [List.mem_range] at hi
    dsimp only
    rw [dif_pos hi]
    exact (h i hi).choose_spec.1
  · dsimp only
    rw [dif_pos hi]
    exact (h i hi).choose_spec.2
theorem pm_take (n : Nat) {c : Nat} {o : O} {T : Store} (h : Bok c o) (hc : c < 1000000) {many : Nat} (hm : 1 ≤ many) (hm2 : many ≤ 1000) {Q : D → Store → Prop}
    (hQ : ∀ (v : Nat) o', v < many → Bok (c + 1) o' → Q (.int v) (o' :: T)) : Pm (callR (callF fs gl (n + 1) 1) [.ref 0, .int many]) (o :: T) Q := by
  obtain ⟨v, o', hv, hk, e⟩ := t_take n c o h hc many hm hm2
  refine Pm.of (callR_box (i := 0) rfl h.rf (by simp) e hk.rf rfl) ?_
  exact hQ v o' hv hk
theorem pm_takeZ (n : Nat) {c : Nat} {o : O} {T : Store} (h : Bok c o) (hc : c < 1000000) (z : Int) (many : Nat) (hz : z = many) (hm : 1 ≤ many) (hm2 : many ≤ 1000) {Q : D → Store → Prop}
    (hQ : ∀ (v : Nat) o', v < many → Bok (c + 1) o' → Q (.int v) (o' :: T)) : Pm (callR (callF fs gl (n + 1) 1) [.ref 0, .int z]) (o :: T) Q := by
  rw [hz]
  exact pm_take n h hc hm hm2 hQ
/-- rows of integers -/
def tO (r c : Nat) (t : Nat → Nat → Int) : O := .lst ((List.range r).map fun i => ls c fun j => .int (t i j))
theorem t_table (n c : Nat) (o : O) (h : Bok c o) (rows cols wide : Nat) (hr : rows ≤ 5) (hcl : cols ≤ 5) (hw : wide ≤ 100) (hc : c < 900000) :
    ∃ t o', Bok (c + 30) o' ∧ callF fs gl (n + 2) 2 [.ref 0, .int rows, .int cols, .int wide] [o] = .ok (.ref 1) [o', tO rows cols t] := by
  have key : Pst (evalSs (callF fs gl (n + 1)) gl f2.body (start f2.ns [.ref 0, .int rows, .int cols, .int wide]) [o]) fun f S => ∃ t o', Bok (c + 30) o' ∧ f = .rt (.ref 1) ∧ S = [o', tO rows cols t] := by
    have e2 : (2 : Int) * wide + 1 = ((2 * wide + 1 : Nat) : Int) := by omega
    dsimp only [f2, start]
    (rw [zz_cons]; simp -implicitDefEqProofs (disch := first | assumption | omega) [evalS, evalE, evalEs, evalL, evalI, evalC, EV.T.bind, wipe, MS.ok, M.seq_ret, line, isSub, ret_app, count_range, numbered_range, pairs_range, collect_N, collect_F, collect2_N, collect, zz_nil])
    refine pst_lift (Pm.seq (Pm.calm (Pm.colN (I := fun i S => ∃ o', S = [o'] ∧ Bok (c + 5 * i) o') (P := fun i d => ∃ f : Nat → Int, d = ls cols fun j => .int (f j)) ⟨o, rfl, h⟩ ?_ ?_)))
    · rintro i hi S ⟨o1, rfl, hb1⟩
      refine Pm.seq (Pm.seq (Pm.calm (Pm.colN (I := fun j S => ∃ o', S = [o'] ∧ Bok (c + 5 * i + j) o') (P := fun j d => ∃ z : Int, d = .int z) ⟨o1, rfl, hb1⟩ ?_ ?_)))
      · rintro j hj S ⟨o2, rfl, hb2⟩
        rw [e2]
        refine Pm.seq (Pm.seq (pm_take n hb2 (by omega) (by omega) (by omega) fun v o3 hv hb3 => ?_))
        simp only [op2_sub]
        exact Pm.ret (Pm.ret ⟨_, rfl, ⟨o3, rfl, hb3⟩, _, rfl⟩)
      · rintro F S ⟨o2, rfl, hb2⟩ hF
        obtain ⟨f, hf, _⟩ := map_choose D.int (fun _ _ => True) fun j hj => by obtain ⟨z, e⟩ := hF j hj; exact ⟨z, e, trivial⟩
        rw [hf]
        exact Pm.ret (Pm.ret ⟨_, rfl, ⟨o2, rfl, hb2.mono (by omega)⟩, f, rfl⟩)
    · rintro F S ⟨o1, rfl, hb1⟩ hF
      obtain ⟨t, ht, _⟩ := map_choose (fun f : Nat → Int => ls cols fun j => .int (f j)) (fun _ _ => True) fun j hj => by obtain ⟨z, e⟩ := hF j hj; exact ⟨z, e, trivial⟩
      rw [ht]
      simp -implicitDefEqProofs (disch := first | assumption | omega) [evalS, evalE, evalEs, evalL, evalI, evalC, EV.T.bind, wipe, MS.ok, M.seq_ret, line, isSub, ret_app, count_range, numbered_range, pairs_range, collect_N, collect_F, collect2_N, collect, zz_nil, M.ret]
      exact Pm.of rfl (Pst.ok ⟨t, o1, hb1.mono (by omega), rfl, rfl⟩)
  obtain ⟨f, S, e, t, o', hb, rfl, rfl⟩ := key
  refine ⟨t, o', hb, ?_⟩
  rw [callF, show fs[2]? = some f2 from rfl]
  show runF _ _ _ _ _ = _
  rw [runF_eq rfl, e]
theorem fac_of {a b : Nat} (h : a < b) (hb : b ≤ 20) : Fac 6 (Rat.divInt a b) := by
  have p1 : (0 : Rat) < ((b : Int) : Rat) := by rw [Rat.intCast_pos]; omega
  have p0 : (0 : Rat) ≤ ((a : Int) : Rat) := by rw [Rat.intCast_nonneg]; omega
  have p2 : ((a : Int) : Rat) < ((b : Int) : Rat) := by rw [Rat.intCast_lt_intCast]; omega
  refine ⟨?_, ?_, bd_divInt (by omega) (by omega) (by omega), by omega, by omega⟩
  · rw [Rat.divInt_eq_div]
    exact Rat.not_lt.mp (fun h => by have := (Rat.div_lt_iff p1).mp h; grind)
  · rw [Rat.divInt_eq_div]
    exact (Rat.div_lt_iff p1).mpr (by grind)
theorem fr_lit (a b : Nat) (hb : 0 < b) (h : Nat.gcd a b = 1) : D.tup [.int a, .int b] = fr (Rat.divInt a b) := by
  obtain ⟨h1, h2⟩ := divInt_lowest a b (by omega)
  rw [Int.natAbs_natCast, Int.natAbs_natCast, h] at h1 h2
  rw [fr, h1, h2]
  simp
theorem t_factor (n c : Nat) (o : O) (h : Bok c o) (hc : c < 900000) :
    ∃ f o', Fac 6 f ∧ Bok (c + 2) o' ∧ callF fs gl (n + 3) 14 [.ref 0] [o] = .ok (fr f) [o'] := by
  have key : ∀ Q : Fl → Store → Prop, (∀ x o', Fac 6 x → Bok (c + 2) o' → Q (.rt (fr x)) [o']) → Pst (evalSs (callF fs gl (n + 2)) gl f14.body (start f14.ns [.ref 0]) [o]) Q := by
    intro Q hQ
    dsimp only [f14, start]
    (rw [zz_cons]; simp -implicitDefEqProofs (disch := first | assumption | omega) [evalS, evalE, evalEs, evalL, evalI, evalC, EV.T.bind, wipe, MS.ok, M.seq_ret, line, isSub, ret_app, count_range, numbered_range, pairs_range, collect_N, collect_F, collect2_N, collect, zz_nil, EV.seq_assoc])
    refine pst_lift (Pm.seq (pm_takeZ (n + 1) h (by omega) 20 20 (by omega) (by omega) (by omega) fun v o1 hv hb1 => ?_))
    have q := y_low n 6 v 20 (by omega) (by decide) (by omega)
    simp only [q, M.seq_ret]
    refine Pm.seq (pm_takeZ (n + 1) hb1 (by omega) 6 6 (by omega) (by omega) (by omega) fun w o2 hw hb2 => ?_)
    have e1 : D.tup [.int 1, .int 2] = fr (Rat.divInt 1 2) := fr_lit 1 2 (by omega) (by decide)
    have e2 : D.tup [.int 9, .int 10] = fr (Rat.divInt 9 10) := fr_lit 9 10 (by omega) (by decide)
    have e3 : D.tup [.int 1, .int 3] = fr (Rat.divInt 1 3) := fr_lit 1 3 (by omega) (by decide)
    have e4 : D.tup [.int 2, .int 3] = fr (Rat.divInt 2 3) := fr_lit 2 3 (by omega) (by decide)
    have e0 : D.tup [.int 0, .int 1] = fr 0 := rfl
    rw [e0, e1, e2, e3, e4]
    simp only [getI_fl, nth_nat]
    have f1 : Fac 6 (Rat.divInt 1 2) := fac_of (a := 1) (b := 2) (by omega) (by omega)
    have f2 : Fac 6 (Rat.divInt 9 10) := fac_of (a := 9) (b := 10) (by omega) (by omega)
    have f3 : Fac 6 (Rat.divInt 1 3) := fac_of (a := 1) (b := 3) (by omega) (by omega)
    have f4 : Fac 6 (Rat.divInt 2 3) := fac_of (a := 2) (b := 3) (by omega) (by omega)
    have f5 : Fac 6 (Rat.divInt v 20) := fac_of (a := v) (b := 20) hv (by omega)
    have f0 : Fac 6 0 := ⟨Rat.le_refl, by decide, bd_zero.mono (by omega), by omega, by omega⟩
    have hw' : w = 0 ∨ w = 1 ∨ w = 2 ∨ w = 3 ∨ w = 4 ∨ w = 5 := by omega
    rcases hw' with rfl | rfl | rfl | rfl | rfl | rfl
    · exact Pm.of rfl (Pst.ok (hQ _ _ f0 hb2))
    · exact Pm.of rfl (Pst.ok (hQ _ _ f1 hb2))
    · exact Pm.of rfl (Pst.ok (hQ _ _ f2 hb2))
    · exact Pm.of rfl (Pst.ok (hQ _ _ f3 hb2))
    · exact Pm.of rfl (Pst.ok (hQ _ _ f4 hb2))
    · exact Pm.of rfl (Pst.ok (hQ _ _ f5 hb2))
  obtain ⟨f, S, e, x, o', hx, hb, rfl, rfl⟩ := key (fun f S => ∃ x o', Fac 6 x ∧ Bok (c + 2) o' ∧ f = .rt (fr x) ∧ S = [o']) (fun x o' h1 h2 => ⟨x, o', h1, h2, rfl, rfl⟩)
  refine ⟨x, o', hx, hb, ?_⟩
  rw [callF, show fs[14]? = some f14 from rfl]
  show runF _ _ _ _ _ = _
  rw [runF_eq rfl, e]
theorem t_machine (n c : Nat) (o : O) (h : Bok c o) (hc : c < 900000) (own oth : Nat) (h1 : 1 ≤ own) (h5 : own ≤ 5) (ho : oth ≤ 5) :
    ∃ mc o' q, mc.ok own oth ∧ mc.s ≤ 4 ∧ Bok (c + 30) o' ∧ callF fs gl (n + 2) 15 [.ref 0, .int own, .int oth] [o] = .ok (mD oth mc) (o' :: q) := by
  have key : ∀ Q : Fl → Store → Prop, (∀ mc o' q, mc.ok own oth → mc.s ≤ 4 → Bok (c + 30) o' → Q (.rt (mD oth mc)) (o' :: q)) → Pst (evalSs (callF fs gl (n + 1)) gl f15.body (start f15.ns [.ref 0, .int own, .int oth]) [o]) Q := by
    intro Q hQ
    dsimp only [f15, start]
    (rw [zz_cons]; simp -implicitDefEqProofs (disch := first | assumption | omega) [evalS, evalE, evalEs, evalL, evalI, evalC, EV.T.bind, wipe, MS.ok, M.seq_ret, line, isSub, ret_app, count_range, numbered_range, pairs_range, collect_N, collect_F, collect2_N, collect, zz_nil, EV.seq_assoc])
    refine pst_lift (Pm.seq (pm_takeZ n h (by omega) 4 4 (by omega) (by omega) (by omega) fun v o1 hv hb1 => ?_))
    simp -implicitDefEqProofs (disch := first | assumption | omega) [evalS, evalE, evalEs, evalL, evalI, evalC, EV.T.bind, wipe, MS.ok, M.seq_ret, line, isSub, ret_app, count_range, numbered_range, pairs_range, collect_N, collect_F, collect2_N, collect, zz_nil]
    refine Pm.ret ?_
    try simp only [bnd_nx]
    (rw [zz_cons]; simp -implicitDefEqProofs (disch := first | assumption | omega) [evalS, evalE, evalEs, evalL, evalI, evalC, EV.T.bind, wipe, MS.ok, M.seq_ret, line, isSub, ret_app, count_range, numbered_range, pairs_range, collect_N, collect_F, collect2_N, collect, zz_nil, EV.seq_assoc])
    refine pst_lift (Pm.seq (pm_takeZ n hb1 (by omega) 4 4 (by omega) (by omega) (by omega) fun w o2 hw hb2 => ?_))
    simp only [cm_eq_int, M.seq_ret, blOf_bl]
    refine Pm.ret ?_
    -- the rest, for any size
    have rest : ∀ (sz : Nat), 1 ≤ sz → sz ≤ 4 → ∀ vs : Int, vs = sz → Pst (evalSs (callF fs gl (n + 1)) gl (.cons (.asg (.name 4) (.nw (.disp .nil))) (.cons (.for_ (.name 5) (.rng (.var 3)) (.cons (.expr (.app (.var 4) (.tup (.cons (.call 1 (.cons (.var 0) (.cons (.var 1) .nil))) (.cons (.bi .tuple (.cons (.fl (.comp (.call 1 (.cons (.var 0) (.cons (.var 3) .nil))) [6] (.name 6) (.rng (.var 2)) .nil)) .nil)) .nil))))) .nil)) (.cons (.ret (.bi .tuple (.cons (.frz (.var 4)) .nil))) .nil))) [some (.ref 0), some (.int own), some (.int oth), some (.int vs), none, none, none] [o2]) Q := by
      rintro sz hs1 hs4 vs rfl
      (rw [zz_cons]; simp -implicitDefEqProofs (disch := first | assumption | omega) [evalS, evalE, evalEs, evalL, evalI, evalC, EV.T.bind, wipe, MS.ok, M.seq_ret, line, isSub, ret_app, count_range, numbered_range, pairs_range, collect_N, collect_F, collect2_N, collect, zz_nil, lift, M.seq, M.ret])
      (rw [zz_cons]; simp -implicitDefEqProofs (disch := first | assumption | omega) [evalS, evalE, evalEs, evalL, evalI, evalC, EV.T.bind, wipe, MS.ok, M.seq_ret, line, isSub, ret_app, count_range, numbered_range, pairs_range, collect_N, collect_F, collect2_N, collect, zz_nil])
      refine lpN (I := fun i r S => ∃ v5 o3, ∃ f : Nat → Nat × (Nat → Nat), r = [some (.ref 0), some (.int own), some (.int oth), some (.int sz), some (.ref 1), v5, none] ∧ S = [o3, .lst ((List.range i).map fun k => stD oth ⟨sz, fun k => (f k).1, fun k => (f k).2⟩ k)] ∧ Bok (c + 2 + 6 * i) o3 ∧ (∀ k, k < i → (f k).1 < own ∧ ∀ j, j < oth → (f k).2 j < sz)) ?_ ?_ ?_
      · exact ⟨_, o2, fun _ => (0, fun _ => 0), rfl, rfl, hb2, fun k hk => by omega⟩
      · rintro i hi r S P ⟨v5, o3, f, rfl, rfl, hb3, hf⟩ hP _ _
        simp only [EV.T.bind, List.length_cons, List.length_nil, List.set_cons_succ, List.set_cons_zero, Nat.reduceAdd, Nat.reduceLT, if_true, ite_true, Option.bind_some]
        (rw [zz_cons]; simp -implicitDefEqProofs (disch := first | assumption | omega) [evalS, evalE, evalEs, evalL, evalI, evalC, EV.T.bind, wipe, MS.ok, M.seq_ret, line, isSub, ret_app, count_range, numbered_range, pairs_range, collect_N, collect_F, collect2_N, collect, zz_nil, EV.seq_assoc])
        have l1 : lstOf (.ref 1) [o3, .lst ((List.range i).map fun k => stD oth ⟨sz, fun k => (f k).1, fun k => (f k).2⟩ k)] = .ok ((List.range i).map fun k => stD oth ⟨sz, fun k => (f k).1, fun k => (f k).2⟩ k) [o3, .lst ((List.range i).map fun k => stD oth ⟨sz, fun k => (f k).1, fun k => (f k).2⟩ k)] := rfl
        refine pst_lift (Pm.seq (Pm.of l1 (Pm.seq (pm_take n hb3 (by omega) (by omega) (by omega) fun a o4 ha hb4 => ?_))))
        refine Pm.seq (Pm.calm (Pm.colN (I := fun j S => ∃ o5, S = [o5, .lst ((List.range i).map fun k => stD oth ⟨sz, fun k => (f k).1, fun k => (f k).2⟩ k)] ∧ Bok (c + 2 + 6 * i + 1 + j) o5) (P := fun j d => ∃ z : Nat, d = .int z ∧ z < sz) ⟨o4, rfl, hb4⟩ ?_ ?_))
        · rintro j hj S ⟨o5, rfl, hb5⟩
          refine Pm.seq (pm_take n hb5 (by omega) (by omega) (by omega) fun z o6 hz hb6 => ?_)
          exact Pm.ret ⟨_, rfl, ⟨o6, rfl, hb6⟩, z, rfl, hz⟩
        · rintro F S ⟨o5, rfl, hb5⟩ hF
          obtain ⟨g, hg, hgz⟩ := map_choose (fun z : Nat => D.int z) (fun _ z => z < sz) hF
          rw [hg]
          refine Pm.of (a := .non) (S' := [o5, .lst ((List.range i).map (fun k => stD oth ⟨sz, fun k => (f k).1, fun k => (f k).2⟩ k) ++ [.tup [.int a, tb oth fun j => .int (g j)]])]) ?_ ?_
          · have : i < 16000000 := by omega
            simp [this]
          · have hne : ∀ k, k < i → k ≠ i := fun k hk => by omega
            refine Pst.ok (hP _ _ ⟨_, o5, fun k => if k = i then (a, g) else f k, rfl, ?_, hb5.mono (by omega), fun k hk => ?_⟩)
            · rw [List.range_succ, List.map_append, List.map_cons, List.map_nil]
              have : (List.range i).map (fun k => stD oth ⟨sz, fun k => (if k = i then (a, g) else f k).1, fun k => (if k = i then (a, g) else f k).2⟩ k) = (List.range i).map (fun k => stD oth ⟨sz, fun k => (f k).1, fun k => (f k).2⟩ k) := List.map_congr_left fun k hk => by
                rw [List.mem_range] at hk
                simp only [stD, if_neg (hne k hk)]
              rw [this]
              simp only [stD, if_true]
            · by_cases hki : k = i
              · simp only [hki, if_true]; exact ⟨ha, hgz⟩
              · simp only [hki, if_false]; exact hf k (by omega)
      · rintro r S ⟨v5, o3, f, rfl, rfl, hb3, hf⟩
        (rw [zz_cons]; simp -implicitDefEqProofs (disch := first | assumption | omega) [evalS, evalE, evalEs, evalL, evalI, evalC, EV.T.bind, wipe, MS.ok, M.seq_ret, line, isSub, ret_app, count_range, numbered_range, pairs_range, collect_N, collect_F, collect2_N, collect, zz_nil, lift, M.seq, M.ret, frz])
        exact Pst.ok (hQ ⟨sz, fun k => (f k).1, fun k => (f k).2⟩ o3 _ ⟨hs1, by show sz ≤ 6; omega, fun k hk => (hf k hk).1, fun k hk j hj => (hf k hk).2 j hj⟩ hs4 (hb3.mono (by omega)))
    by_cases hw0 : w = 0
    · simp only [hw0]
      simp -implicitDefEqProofs (disch := first | assumption | omega) [evalS, evalE, evalEs, evalL, evalI, evalC, EV.T.bind, wipe, MS.ok, M.seq_ret, line, isSub, ret_app, count_range, numbered_range, pairs_range, collect_N, collect_F, collect2_N, collect, zz_nil]
      exact rest 1 (by omega) (by omega) 1 (by omega)
    · simp -implicitDefEqProofs (disch := first | assumption | omega) [evalS, evalE, evalEs, evalL, evalI, evalC, EV.T.bind, wipe, MS.ok, M.seq_ret, line, isSub, ret_app, count_range, numbered_range, pairs_range, collect_N, collect_F, collect2_N, collect, zz_nil, hw0]
      exact rest (v + 1) (by omega) (by omega) (1 + v) (by omega)
  obtain ⟨f, S, e, mc, o', q, h1, h2, h3, rfl, rfl⟩ := key (fun f S => ∃ mc o' q, mc.ok own oth ∧ mc.s ≤ 4 ∧ Bok (c + 30) o' ∧ f = .rt (mD oth mc) ∧ S = o' :: q) (fun mc o' q h1 h2 h3 => ⟨mc, o', q, h1, h2, h3, rfl, rfl⟩)
  refine ⟨mc, o', q, h1, h2, h3, ?_⟩
  rw [callF, show fs[15]? = some f15 from rfl]
  show runF _ _ _ _ _ = _
  rw [runF_eq rfl, e]
end K87
end
section
set_option Elab.async false
set_option linter.all false
set_option maxRecDepth 100000
set_option maxHeartbeats 4000000
/-! k87, part w: drawn games. -/
namespace EW
open EV
theorem bnd_assoc (m : RS) (k1 k2 : Env → Store → RS) : bnd (bnd m k1) k2 = bnd m fun r S => bnd (k1 r S) k2 := by
  cases m with
  | ok f S => cases f <;> rfl
  | _ => rfl
theorem walkR_fl (g : D → M (Option D)) (xs : List D) : ∀ (m i : Nat), xs.length < m + i → i ≤ xs.length → walkR g (.fl xs) m i = collect g (xs.drop i)
  | 0, i, h, h2 => by omega
  | m + 1, i, h, h2 => by
    show M.seq (lstOf (.fl xs)) _ = _
    have : lstOf (.fl xs) = M.ret xs := rfl
    rw [this, M.seq_ret]
    by_cases hi : i < xs.length
    · rw [List.getElem?_eq_getElem hi, List.drop_eq_getElem_cons hi, collect]
      dsimp only
      rw [walkR_fl g xs m (i + 1) (by omega) (by omega)]
    · rw [List.getElem?_eq_none (by omega), List.drop_of_length_le (by omega)]
      rfl
@[simp] theorem walkR_ls (g : D → M (Option D)) {n : Nat} (F : Nat → D) (h : n < 2000) : walkR g (ls n F) 2000 0 = colN n fun i _ => g (F i) := by
  rw [ls, walkR_fl g _ 2000 0 (by simpa using h) (by omega), List.drop_zero, collect_N]
theorem walkR_ref {g : D → M (Option D)} {n k : Nat} {F G : Nat → D} {S : Store} (hS : S[k]? = some (.lst ((List.range n).map F))) (hn : n < 2000) (h : ∀ i, i < n → g (F i) = M.ret (some (G i))) :
    walkR g (.ref k) 2000 0 S = .ok ((List.range n).map G) S := by
  have hl : lstOf (.ref k) S = .ok ((List.range n).map F) S := by
    show (match S[k]? with | some (.lst x) => Res.ok x S | _ => .bad) = _
    rw [hS]
  have go : ∀ (m i : Nat), n < m + i → i ≤ n → walkR g (.ref k) m i S = .ok ((List.range' i (n - i)).map G) S := by
    intro m
    induction m with
    | zero => intro i h1 h2; omega
    | succ m ih =>
      intro i h1 h2
      rw [walkR]
      unfold M.seq
      rw [hl]
      dsimp only
      by_cases hi : i < n
      · have : ((List.range n).map F)[i]? = some (F i) := by simp [hi]
        rw [this]
        dsimp only
        rw [h i hi, ret_app]
        dsimp only
        rw [ih (i + 1) (by omega) (by omega)]
        obtain ⟨d, hd⟩ : ∃ d, n - i = d + 1 := ⟨n - i - 1, by omega⟩
        rw [hd, show n - (i + 1) = d by omega, List.range'_succ]
        rfl
      · have : ((List.range n).map F)[i]? = none := by simp; omega
        rw [this, show n - i = 0 by omega]
        rfl
  rw [go 2000 0 (by omega) (by omega), List.range_eq_range', Nat.sub_zero]
end EW
namespace K87
open EV EW
def tailS : Nat → Ss → Ss
  | 0, s => s
  | n + 1, .cons _ r => tailS n r
  | _ + 1, .nil => .nil
def cl100 (x : Int) : Int := if (if x < 100 then x else 100) > -100 then (if x < 100 then x else 100) else -100
theorem cl100_le (x : Int) : (cl100 x).natAbs ≤ 100 := by
  unfold cl100
  split <;> split at * <;> omega
/-- the end: payoffs from -100 to 100 -/
theorem game_ret (n : Nat) (Q : Fl → Store → Prop) (r c : Nat) (hr : r ≤ 5) (hc : c ≤ 5) (t1 t2 : Nat → Nat → Int) (o : O) (v1 v2 v4 v5 v6 v8 v9 v10 v11 v12 v13 : Option D)
    (hQ : ∀ q, Q (.rt (gD ⟨r, c, fun i j => cl100 (t1 i j), fun i j => cl100 (t2 i j)⟩)) (o :: q)) : Pst (evalSs (callF fs gl n) gl (tailS 7 f3.body) [some (.ref 0), v1, v2, some (.ref 1), v4, v5, v6, some (.ref 2), v8, v9, v10, v11, v12, v13] [o, tO r c t1, tO r c t2]) Q := by
  dsimp only [f3, tailS]
  have e3 : frz (.ref 1) [o, tO r c t1, tO r c t2] = .ok (ls r fun i => ls c fun j => .int (t1 i j)) [o, .dead, tO r c t2] := rfl
  have e7 : frz (.ref 2) [o, .dead, tO r c t2] = .ok (ls r fun i => ls c fun j => .int (t2 i j)) [o, .dead, .dead] := rfl
  (rw [zz_cons]; simp -implicitDefEqProofs (disch := first | assumption | omega) [evalS, evalE, evalEs, evalL, evalI, evalC, EV.T.bind, wipe, MS.ok, M.seq_ret, line, isSub, ret_app, count_range, numbered_range, pairs_range, collect_N, collect_F, collect2_N, collect, zz_nil, EV.seq_assoc])
  refine pst_lift (Pm.seq (Pm.of e3 (Pm.seq (Pm.of e7 ?_))))
  simp -implicitDefEqProofs (disch := first | assumption | omega) [evalS, evalE, evalEs, evalL, evalI, evalC, EV.T.bind, wipe, MS.ok, M.seq_ret, line, isSub, ret_app, count_range, numbered_range, pairs_range, collect_N, collect_F, collect2_N, collect, zz_nil]
  exact Pm.ret (Pst.ok (hQ _))
theorem game_ret4 (n : Nat) (Q : Fl → Store → Prop) (r c : Nat) (hr : r ≤ 5) (hc : c ≤ 5) (t1 t2 : Nat → Nat → Int) (o x : O) (v1 v2 v4 v5 v6 v8 v9 v10 v11 v12 v13 : Option D)
    (hQ : ∀ q, Q (.rt (gD ⟨r, c, fun i j => cl100 (t1 i j), fun i j => cl100 (t2 i j)⟩)) (o :: q)) : Pst (evalSs (callF fs gl n) gl (tailS 7 f3.body) [some (.ref 0), v1, v2, some (.ref 2), v4, v5, v6, some (.ref 3), v8, v9, v10, v11, v12, v13] [o, x, tO r c t1, tO r c t2]) Q := by
  dsimp only [f3, tailS]
  have e3 : frz (.ref 2) [o, x, tO r c t1, tO r c t2] = .ok (ls r fun i => ls c fun j => .int (t1 i j)) [o, x, .dead, tO r c t2] := rfl
  have e7 : frz (.ref 3) [o, x, .dead, tO r c t2] = .ok (ls r fun i => ls c fun j => .int (t2 i j)) [o, x, .dead, .dead] := rfl
  (rw [zz_cons]; simp -implicitDefEqProofs (disch := first | assumption | omega) [evalS, evalE, evalEs, evalL, evalI, evalC, EV.T.bind, wipe, MS.ok, M.seq_ret, line, isSub, ret_app, count_range, numbered_range, pairs_range, collect_N, collect_F, collect2_N, collect, zz_nil, EV.seq_assoc])
  refine pst_lift (Pm.seq (Pm.of e3 (Pm.seq (Pm.of e7 ?_))))
  simp -implicitDefEqProofs (disch := first | assumption | omega) [evalS, evalE, evalEs, evalL, evalI, evalC, EV.T.bind, wipe, MS.ok, M.seq_ret, line, isSub, ret_app, count_range, numbered_range, pairs_range, collect_N, collect_F, collect2_N, collect, zz_nil]
  exact Pm.ret (Pst.ok (hQ _))
/-- a row written over -/
theorem tO_set (r c : Nat) (t : Nat → Nat → Int) (a : Nat) (f : Nat → Int) (ha : a < r) : ((List.range r).map fun i => ls c fun j => .int (t i j)).set a (ls c fun j => .int (f j)) = (List.range r).map fun i => ls c fun j => .int ((if i = a then f else t i) j) := by
  refine List.ext_getElem (by simp) fun i h1 h2 => ?_
  by_cases h : i = a
  · subst h; simp
  · rw [List.getElem_set_ne (fun e => h e.symm)]
    simp [h]
/-- a row of those, from the end too -/
theorem row_before (r c : Nat) (t : Nat → Nat → Int) (a : Nat) (ha : a < r) : ∃ f : Nat → Int, nth ((List.range r).map fun i => ls c fun j => D.int (t i j)) ((a : Int) - 1) = some (ls c fun j => .int (f j)) := by
  cases a with
  | zero =>
    refine ⟨t (r - 1), ?_⟩
    unfold nth ix
    have h0 : ¬ (0 : Int) ≤ ((0 : Nat) : Int) - 1 := by omega
    have h1 : -((((List.range r).map fun i => ls c fun j => D.int (t i j)).length : Nat) : Int) ≤ ((0 : Nat) : Int) - 1 := by simp; omega
    rw [if_neg h0, if_pos h1]
    have h2 : (((0 : Nat) : Int) - 1 + ((((List.range r).map fun i => ls c fun j => D.int (t i j)).length : Nat) : Int)).toNat = r - 1 := by simp; omega
    rw [h2]
    have : r - 1 < r := by omega
    simp [this]
  | succ a =>
    refine ⟨t a, ?_⟩
    rw [show (((a + 1 : Nat) : Int) - 1) = (a : Int) by omega, nth_nat]
    simp [show a < r by omega]
theorem ix_nat {n a : Nat} (h : a < n) : ix n (a : Int) = some a := by
  unfold ix
  rw [if_pos (by omega), if_pos (by omega), Int.toNat_natCast]
theorem get_row1 (r c : Nat) (t : Nat → Nat → Int) (o : O) (T : Store) (z : Int) (d : D) (h : nth ((List.range r).map fun i => ls c fun j => D.int (t i j)) z = some d) : getI (.ref 1) (.int z) (o :: tO r c t :: T) = .ok d (o :: tO r c t :: T) := by
  simp [getI, M.seq, isDict, lstOf, tO, h, M.opt, M.ret]
theorem get_row2 (r c : Nat) (t : Nat → Nat → Int) (o x : O) (T : Store) (z : Int) (d : D) (h : nth ((List.range r).map fun i => ls c fun j => D.int (t i j)) z = some d) : getI (.ref 2) (.int z) (o :: x :: tO r c t :: T) = .ok d (o :: x :: tO r c t :: T) := by
  simp [getI, M.seq, isDict, lstOf, tO, h, M.opt, M.ret]
theorem put_row1 (r c : Nat) (t : Nat → Nat → Int) (o : O) (T : Store) (a : Nat) (f : Nat → Int) (ha : a < r) : putAt (.ref 1) (.int a) (ls c fun j => .int (f j)) (o :: tO r c t :: T) = .ok () (o :: tO r c (fun i => if i = a then f else t i) :: T) := by
  unfold putAt
  simp only [tO, List.getElem?_cons_succ, List.getElem?_cons_zero, List.length_map, List.length_range, ix_nat ha]
  rw [tO_set r c t a f ha]
  rfl
theorem put_row2 (r c : Nat) (t : Nat → Nat → Int) (o x : O) (T : Store) (a : Nat) (f : Nat → Int) (ha : a < r) : putAt (.ref 2) (.int a) (ls c fun j => .int (f j)) (o :: x :: tO r c t :: T) = .ok () (o :: x :: tO r c (fun i => if i = a then f else t i) :: T) := by
  unfold putAt
  simp only [tO, List.getElem?_cons_succ, List.getElem?_cons_zero, List.length_map, List.length_range, ix_nat ha]
  rw [tO_set r c t a f ha]
  rfl
/-- ways 5 and 6, then the end -/
theorem game_end (n c0 : Nat) (Q : Fl → Store → Prop) (r c w : Nat) (hr1 : 1 ≤ r) (hr : r ≤ 5) (hc1 : 1 ≤ c) (hc : c ≤ 5) (t1 t2 : Nat → Nat → Int) (o : O) (ho : Bok c0 o) (hc0 : c0 < 900000) (v1 v2 : Option D)
    (hQ : ∀ (t1 t2 : Nat → Nat → Int) (o' : O) (q : List O), Bok (c0 + 10) o' → Q (.rt (gD ⟨r, c, fun i j => cl100 (t1 i j), fun i j => cl100 (t2 i j)⟩)) (o' :: q)) :
    Pst (evalSs (callF fs gl (n + 1)) gl (tailS 5 f3.body) [some (.ref 0), v1, v2, some (.ref 1), some (.int r), some (.int c), some (.int w), some (.ref 2), none, none, none, none, none, none] [o, tO r c t1, tO r c t2]) Q := by
  have ht : tailS 5 f3.body = .cons _ (.cons _ (tailS 7 f3.body)) := rfl
  rw [ht]
  have step6 : ∀ (t1 t2 : Nat → Nat → Int) (o : O) (v8 : Option D), Bok (c0 + 1) o → Pst (evalSs (callF fs gl (n + 1)) gl (tailS 6 f3.body) [some (.ref 0), v1, v2, some (.ref 1), some (.int r), some (.int c), some (.int w), some (.ref 2), v8, none, none, none, none, none] [o, tO r c t1, tO r c t2]) Q := by
    intro t1 t2 o v8 ho
    have ht : tailS 6 f3.body = .cons _ (tailS 7 f3.body) := rfl
    rw [ht]
    by_cases h6 : w = 6 ∧ 1 < r
    · obtain ⟨rfl, h1⟩ := h6
      have h1' : (1 : Int) < r := by omega
      (rw [zz_cons]; simp -implicitDefEqProofs (disch := first | assumption | omega) [evalS, evalE, evalEs, evalL, evalI, evalC, EV.T.bind, wipe, MS.ok, M.seq_ret, line, isSub, ret_app, count_range, numbered_range, pairs_range, collect_N, collect_F, collect2_N, collect, zz_nil, h1'])
      (rw [zz_cons]; simp -implicitDefEqProofs (disch := first | assumption | omega) [evalS, evalE, evalEs, evalL, evalI, evalC, EV.T.bind, wipe, MS.ok, M.seq_ret, line, isSub, ret_app, count_range, numbered_range, pairs_range, collect_N, collect_F, collect2_N, collect, zz_nil, EV.seq_assoc])
      rw [bnd_assoc]
      refine pst_lift (pm_take n ho (by omega) (by omega) (by omega) fun a o1 ha hb1 => ?_)
      simp -implicitDefEqProofs (disch := first | assumption | omega) [evalS, evalE, evalEs, evalL, evalI, evalC, EV.T.bind, wipe, MS.ok, M.seq_ret, line, isSub, ret_app, count_range, numbered_range, pairs_range, collect_N, collect_F, collect2_N, collect, zz_nil]
      (rw [zz_cons]; simp -implicitDefEqProofs (disch := first | assumption | omega) [evalS, evalE, evalEs, evalL, evalI, evalC, EV.T.bind, wipe, MS.ok, M.seq_ret, line, isSub, ret_app, count_range, numbered_range, pairs_range, collect_N, collect_F, collect2_N, collect, zz_nil, EV.seq_assoc])
      obtain ⟨f, hf⟩ := row_before r c t1 a ha
      rw [bnd_assoc]
      refine pst_lift (Pm.seq (Pm.of (get_row1 r c t1 o1 _ _ _ hf) ?_))
      simp -implicitDefEqProofs (disch := first | assumption | omega) [evalS, evalE, evalEs, evalL, evalI, evalC, EV.T.bind, wipe, MS.ok, M.seq_ret, line, isSub, ret_app, count_range, numbered_range, pairs_range, collect_N, collect_F, collect2_N, collect, zz_nil]
      refine Pm.seq (Pm.calm (Pm.colN (I := fun j S => ∃ o2, S = [o2, tO r c t1, tO r c t2] ∧ Bok (c0 + 1 + 1 + j) o2) (P := fun j d => ∃ z : Int, d = .int z ∧ True) ⟨o1, rfl, hb1⟩ ?_ ?_))
      · rintro j hj S ⟨o2, rfl, hb2⟩
        refine Pm.seq (pm_takeZ n hb2 (by omega) 2 2 (by omega) (by omega) (by omega) fun z o3 hz hb3 => ?_)
        simp only [op2_sub, M.seq_ret]
        exact Pm.ret ⟨_, rfl, ⟨o3, rfl, hb3⟩, _, rfl, trivial⟩
      · rintro F S ⟨o2, rfl, hb2⟩ hF
        obtain ⟨g, hg, _⟩ := map_choose D.int (fun _ _ => True) hF
        rw [hg]
        refine Pm.of (put_row1 r c t1 o2 [tO r c t2] a g ha) ?_
        exact game_ret (n + 1) Q r c hr hc _ t2 o2 v1 v2 _ _ _ _ _ _ _ _ _ fun q => hQ _ _ _ _ (hb2.mono (by omega))
    · have hc6 : (decide ((w : Int) = 6) && decide ((1 : Int) < r)) = false := by
        rw [← Bool.decide_and]
        exact decide_eq_false (by omega)
      have hif : ¬ ((w : Int) = 6 ∧ (1 : Int) < r) := by omega
      (rw [zz_cons]; simp -implicitDefEqProofs (disch := first | assumption | omega) [evalS, evalE, evalEs, evalL, evalI, evalC, EV.T.bind, wipe, MS.ok, M.seq_ret, line, isSub, ret_app, count_range, numbered_range, pairs_range, collect_N, collect_F, collect2_N, collect, zz_nil, hif])
      exact game_ret (n + 1) Q r c hr hc _ t2 o v1 v2 _ _ _ _ _ _ _ _ _ fun q => hQ _ _ _ _ (ho.mono (by omega))
  by_cases h5 : w = 5 ∧ 1 < r
  · obtain ⟨rfl, h1⟩ := h5
    have h1' : (1 : Int) < r := by omega
    (rw [zz_cons]; simp -implicitDefEqProofs (disch := first | assumption | omega) [evalS, evalE, evalEs, evalL, evalI, evalC, EV.T.bind, wipe, MS.ok, M.seq_ret, line, isSub, ret_app, count_range, numbered_range, pairs_range, collect_N, collect_F, collect2_N, collect, zz_nil, h1'])
    (rw [zz_cons]; simp -implicitDefEqProofs (disch := first | assumption | omega) [evalS, evalE, evalEs, evalL, evalI, evalC, EV.T.bind, wipe, MS.ok, M.seq_ret, line, isSub, ret_app, count_range, numbered_range, pairs_range, collect_N, collect_F, collect2_N, collect, zz_nil, EV.seq_assoc])
    rw [bnd_assoc]
    refine pst_lift (pm_take n ho (by omega) (by omega) (by omega) fun a o1 ha hb1 => ?_)
    simp -implicitDefEqProofs (disch := first | assumption | omega) [evalS, evalE, evalEs, evalL, evalI, evalC, EV.T.bind, wipe, MS.ok, M.seq_ret, line, isSub, ret_app, count_range, numbered_range, pairs_range, collect_N, collect_F, collect2_N, collect, zz_nil]
    obtain ⟨f1, hf1⟩ := row_before r c t1 a ha
    obtain ⟨f2, hf2⟩ := row_before r c t2 a ha
    (rw [zz_cons]; simp -implicitDefEqProofs (disch := first | assumption | omega) [evalS, evalE, evalEs, evalL, evalI, evalC, EV.T.bind, wipe, MS.ok, M.seq_ret, line, isSub, ret_app, count_range, numbered_range, pairs_range, collect_N, collect_F, collect2_N, collect, zz_nil, EV.seq_assoc])
    rw [bnd_assoc]
    refine pst_lift (Pm.seq (Pm.of (get_row1 r c t1 o1 _ _ _ hf1) ?_))
    simp only [seqOf_ls, M.seq_ret, fl_map]
    refine Pm.seq (Pm.of (get_row2 r c t2 o1 _ _ _ _ hf2) ?_)
    simp only [seqOf_ls, M.seq_ret, fl_map]
    refine Pm.seq (Pm.of (put_row1 r c t1 o1 [tO r c t2] a f1 ha) ?_)
    refine Pm.of (put_row2 r c t2 o1 _ [] a f2 ha) ?_
    simp only [MS.ok, bnd_nx]
    exact step6 _ _ _ _ hb1
  · have hif : ¬ ((w : Int) = 5 ∧ (1 : Int) < r) := by omega
    (rw [zz_cons]; simp -implicitDefEqProofs (disch := first | assumption | omega) [evalS, evalE, evalEs, evalL, evalI, evalC, EV.T.bind, wipe, MS.ok, M.seq_ret, line, isSub, ret_app, count_range, numbered_range, pairs_range, collect_N, collect_F, collect2_N, collect, zz_nil, hif])
    exact step6 _ _ _ _ (ho.mono (by omega))
/-- where tables are drawn -/
theorem pm_table (n : Nat) {c0 : Nat} {o : O} (h : Bok c0 o) (hc : c0 < 900000) {rows cols wide : Nat} (hr : rows ≤ 5) (hcl : cols ≤ 5) (hw : wide ≤ 100) {T : Store} {Q : D → Store → Prop}
    (hQ : ∀ (t : Nat → Nat → Int) o', Bok (c0 + 30) o' → Q (.ref (T.length + 1)) (o' :: T ++ [tO rows cols t])) : Pm (callR (callF fs gl (n + 2) 2) [.ref 0, .int rows, .int cols, .int wide]) (o :: T) Q := by
  obtain ⟨t, o', hb, e⟩ := t_table n c0 o h rows cols wide hr hcl hw hc
  have hrf : (tO rows cols t).rf = true := rfs_map (fun i => rf_ls fun j => rfl) _
  refine Pm.of (callR_boxN (i := 0) (k := 1) rfl h.rf (by simp) e (by omega) rfl hb.rf hrf) ?_
  exact hQ t o' hb
theorem t_game (n c0 : Nat) (o : O) (h : Bok c0 o) (hc0 : c0 < 800000) (most : Nat) (hm : 1 ≤ most) (hm4 : most ≤ 4) :
    ∃ G o' q, G.ok ∧ G.r ≤ 4 ∧ G.c ≤ 4 ∧ Bok (c0 + 100) o' ∧ callF fs gl (n + 3) 3 [.ref 0, .int most] [o] = .ok (gD G) (o' :: q) := by
  have key : ∀ Q : Fl → Store → Prop, (∀ (r c : Nat) (t1 t2 : Nat → Nat → Int) (o' : O) (q : List O), 1 ≤ r → r ≤ 4 → 1 ≤ c → c ≤ 4 → Bok (c0 + 100) o' → Q (.rt (gD ⟨r, c, fun i j => cl100 (t1 i j), fun i j => cl100 (t2 i j)⟩)) (o' :: q)) → Pst (evalSs (callF fs gl (n + 2)) gl f3.body (start f3.ns [.ref 0, .int most]) [o]) Q := by
    intro Q hQ
    have ht : f3.body = .cons _ (.cons _ (.cons _ (.cons _ (.cons _ (tailS 5 f3.body))))) := rfl
    rw [ht]
    dsimp only [f3, start]
    (rw [zz_cons]; simp -implicitDefEqProofs (disch := first | assumption | omega) [evalS, evalE, evalEs, evalL, evalI, evalC, EV.T.bind, wipe, MS.ok, M.seq_ret, line, isSub, ret_app, count_range, numbered_range, pairs_range, collect_N, collect_F, collect2_N, collect, zz_nil, EV.seq_assoc])
    refine pst_lift (Pm.seq (pm_take (n + 1) h (by omega) hm (by omega) fun x o1 hx hb1 => ?_))
    simp -implicitDefEqProofs (disch := first | assumption | omega) [evalS, evalE, evalEs, evalL, evalI, evalC, EV.T.bind, wipe, MS.ok, M.seq_ret, line, isSub, ret_app, count_range, numbered_range, pairs_range, collect_N, collect_F, collect2_N, collect, zz_nil, EV.seq_assoc]
    refine Pm.seq (pm_take (n + 1) hb1 (by omega) hm (by omega) fun y o2 hy hb2 => ?_)
    simp -implicitDefEqProofs (disch := first | assumption | omega) [evalS, evalE, evalEs, evalL, evalI, evalC, EV.T.bind, wipe, MS.ok, M.seq_ret, line, isSub, ret_app, count_range, numbered_range, pairs_range, collect_N, collect_F, collect2_N, collect, zz_nil, EV.seq_assoc]
    refine Pm.seq (pm_takeZ (n + 1) hb2 (by omega) 8 8 (by omega) (by omega) (by omega) fun w o3 hw hb3 => ?_)
    refine Pm.ret ?_
    simp -implicitDefEqProofs (disch := first | assumption | omega) [evalS, evalE, evalEs, evalL, evalI, evalC, EV.T.bind, wipe, MS.ok, M.seq_ret, line, isSub, ret_app, count_range, numbered_range, pairs_range, collect_N, collect_F, collect2_N, collect, zz_nil]
    have ex : (1 : Int) + x = ((x + 1 : Nat) : Int) := by omega
    have ey : (1 : Int) + y = ((y + 1 : Nat) : Int) := by omega
    rw [ex, ey]
    generalize hr : x + 1 = r at *
    generalize hcc : y + 1 = c at *
    (rw [zz_cons]; simp -implicitDefEqProofs (disch := first | assumption | omega) [evalS, evalE, evalEs, evalL, evalI, evalC, EV.T.bind, wipe, MS.ok, M.seq_ret, line, isSub, ret_app, count_range, numbered_range, pairs_range, collect_N, collect_F, collect2_N, collect, zz_nil, EV.seq_assoc])
    refine pst_lift (Pm.seq (pm_takeZ (n + 1) hb3 (by omega) 6 6 (by omega) (by omega) (by omega) fun u o4 hu hb4 => ?_))
    obtain ⟨wide, hwide, hwd⟩ : ∃ wide : Nat, wide ≤ 100 ∧ getI (.fl [.int 1, .int 2, .int 3, .int 6, .int 20, .int 100]) (.int u) = M.ret (.int wide) := by
      have : u = 0 ∨ u = 1 ∨ u = 2 ∨ u = 3 ∨ u = 4 ∨ u = 5 := by omega
      rcases this with rfl | rfl | rfl | rfl | rfl | rfl
      · exact ⟨1, by omega, rfl⟩
      · exact ⟨2, by omega, rfl⟩
      · exact ⟨3, by omega, rfl⟩
      · exact ⟨6, by omega, rfl⟩
      · exact ⟨20, by omega, rfl⟩
      · exact ⟨100, by omega, rfl⟩
    rw [hwd]
    refine Pm.ret ?_
    simp -implicitDefEqProofs (disch := first | assumption | omega) [evalS, evalE, evalEs, evalL, evalI, evalC, EV.T.bind, wipe, MS.ok, M.seq_ret, line, isSub, ret_app, count_range, numbered_range, pairs_range, collect_N, collect_F, collect2_N, collect, zz_nil]
    have hmem : cm .mem (.int w) (.tup [.int 3, .int 4]) = M.ret (.bl (decide (w = 3 ∨ w = 4))) := by
      rw [cm_mem_tup rfl rfl]
      have h3 : decide ((3 : Int) = w) = decide (w = 3) := by congr 1; exact propext ⟨fun h => by omega, fun h => by omega⟩
      have h4 : decide ((4 : Int) = w) = decide (w = 4) := by congr 1; exact propext ⟨fun h => by omega, fun h => by omega⟩
      simp [memD, eq_int, h3, h4]
    -- the rest, for any sizes
    have rest : ∀ (r c : Nat), 1 ≤ r → r ≤ 4 → 1 ≤ c → c ≤ 4 → (w = 3 ∨ w = 4 → c = r) → Pst (evalSs (callF fs gl (n + 2)) gl (tailS 3 f3.body) [some (.ref 0), some (.int most), some (.int wide), none, some (.int r), some (.int c), some (.int w), none, none, none, none, none, none, none] [o4]) Q := by
      intro r c hr1 hr4 hc1 hc4 hrc
      have ht : tailS 3 f3.body = .cons _ (.cons _ (tailS 5 f3.body)) := rfl
      rw [ht]
      (rw [zz_cons]; simp -implicitDefEqProofs (disch := first | assumption | omega) [evalS, evalE, evalEs, evalL, evalI, evalC, EV.T.bind, wipe, MS.ok, M.seq_ret, line, isSub, ret_app, count_range, numbered_range, pairs_range, collect_N, collect_F, collect2_N, collect, zz_nil])
      refine pst_lift (pm_table n hb4 (by omega) (by omega) (by omega) hwide fun t1 o5 hb5 => ?_)
      simp -implicitDefEqProofs (disch := first | assumption | omega) [evalS, evalE, evalEs, evalL, evalI, evalC, EV.T.bind, wipe, MS.ok, M.seq_ret, line, isSub, ret_app, count_range, numbered_range, pairs_range, collect_N, collect_F, collect2_N, collect, zz_nil]
      have fin : ∀ (t1 t2 : Nat → Nat → Int) (o : O) (z : Int), z = w → Bok (c0 + 80) o → Pst (evalSs (callF fs gl (n + 2)) gl (tailS 5 f3.body) [some (.ref 0), some (.int most), some (.int wide), some (.ref 1), some (.int r), some (.int c), some (.int z), some (.ref 2), none, none, none, none, none, none] [o, tO r c t1, tO r c t2]) Q :=
        fun t1 t2 o z hz ho => by
          subst hz
          exact game_end (n + 1) (c0 + 80) Q r c w (by omega) (by omega) (by omega) (by omega) t1 t2 o ho (by omega) _ _ fun t1 t2 o' q ho' => hQ r c t1 t2 o' q hr1 hr4 hc1 hc4 (ho'.mono (by omega))
      have hb5' := hb5.mono (show c0 + 1 + 1 + 1 + 1 + 30 ≤ c0 + 80 by omega)
      by_cases w1 : w = 1
      · subst w1
        (rw [zz_cons]; simp -implicitDefEqProofs (disch := first | assumption | omega) [evalS, evalE, evalEs, evalL, evalI, evalC, EV.T.bind, wipe, MS.ok, M.seq_ret, line, isSub, ret_app, count_range, numbered_range, pairs_range, collect_N, collect_F, collect2_N, collect, zz_nil])
        (rw [zz_cons]; simp -implicitDefEqProofs (disch := first | assumption | omega) [evalS, evalE, evalEs, evalL, evalI, evalC, EV.T.bind, wipe, MS.ok, M.seq_ret, line, isSub, ret_app, count_range, numbered_range, pairs_range, collect_N, collect_F, collect2_N, collect, zz_nil, EV.seq_assoc])
        rw [bnd_assoc]
        refine pst_lift (Pm.seq (Pm.calm (Pm.of (walkR_ref (k := 1) (S := [o5, tO r c t1]) (n := r) (F := fun i => ls c fun j => .int (t1 i j)) (G := fun i => ls c fun j => .int (0 - t1 i j)) rfl (by omega) ?_) ?_)))
        · intro i hi
          simp -implicitDefEqProofs (disch := first | assumption | omega) [evalS, evalE, evalEs, evalL, evalI, evalC, EV.T.bind, wipe, MS.ok, M.seq_ret, line, isSub, ret_app, count_range, numbered_range, pairs_range, collect_N, collect_F, collect2_N, collect, zz_nil]
        · refine Pm.of rfl ?_
          simp only [MS.ok, bnd_nx, List.cons_append, List.nil_append, List.length_cons, List.length_nil, Nat.zero_add, Nat.reduceAdd]
          exact fin t1 (fun i j => 0 - t1 i j) o5 1 rfl hb5'
      · by_cases w2 : w = 2
        · subst w2
          (rw [zz_cons]; simp -implicitDefEqProofs (disch := first | assumption | omega) [evalS, evalE, evalEs, evalL, evalI, evalC, EV.T.bind, wipe, MS.ok, M.seq_ret, line, isSub, ret_app, count_range, numbered_range, pairs_range, collect_N, collect_F, collect2_N, collect, zz_nil])
          (rw [zz_cons]; simp -implicitDefEqProofs (disch := first | assumption | omega) [evalS, evalE, evalEs, evalL, evalI, evalC, EV.T.bind, wipe, MS.ok, M.seq_ret, line, isSub, ret_app, count_range, numbered_range, pairs_range, collect_N, collect_F, collect2_N, collect, zz_nil])
          (rw [zz_cons]; simp -implicitDefEqProofs (disch := first | assumption | omega) [evalS, evalE, evalEs, evalL, evalI, evalC, EV.T.bind, wipe, MS.ok, M.seq_ret, line, isSub, ret_app, count_range, numbered_range, pairs_range, collect_N, collect_F, collect2_N, collect, zz_nil, EV.seq_assoc])
          rw [bnd_assoc, bnd_assoc]
          refine pst_lift (Pm.seq (Pm.calm (Pm.of (walkR_ref (k := 1) (S := [o5, tO r c t1]) (n := r) (F := fun i => ls c fun j => .int (t1 i j)) (G := fun i => ls c fun j => .int (t1 i j)) rfl (by omega) ?_) ?_)))
          · intro i hi
            simp -implicitDefEqProofs (disch := first | assumption | omega) [evalS, evalE, evalEs, evalL, evalI, evalC, EV.T.bind, wipe, MS.ok, M.seq_ret, line, isSub, ret_app, count_range, numbered_range, pairs_range, collect_N, collect_F, collect2_N, collect, zz_nil]
          · refine Pm.of rfl ?_
            simp only [MS.ok, bnd_nx, List.cons_append, List.nil_append, List.length_cons, List.length_nil, Nat.zero_add, Nat.reduceAdd]
            exact fin t1 t1 o5 2 rfl hb5'
        · by_cases w3 : w = 3
          · subst w3
            have hcr := hrc (.inl rfl)
            subst hcr
            (rw [zz_cons]; simp -implicitDefEqProofs (disch := first | assumption | omega) [evalS, evalE, evalEs, evalL, evalI, evalC, EV.T.bind, wipe, MS.ok, M.seq_ret, line, isSub, ret_app, count_range, numbered_range, pairs_range, collect_N, collect_F, collect2_N, collect, zz_nil])
            (rw [zz_cons]; simp -implicitDefEqProofs (disch := first | assumption | omega) [evalS, evalE, evalEs, evalL, evalI, evalC, EV.T.bind, wipe, MS.ok, M.seq_ret, line, isSub, ret_app, count_range, numbered_range, pairs_range, collect_N, collect_F, collect2_N, collect, zz_nil])
            (rw [zz_cons]; simp -implicitDefEqProofs (disch := first | assumption | omega) [evalS, evalE, evalEs, evalL, evalI, evalC, EV.T.bind, wipe, MS.ok, M.seq_ret, line, isSub, ret_app, count_range, numbered_range, pairs_range, collect_N, collect_F, collect2_N, collect, zz_nil])
            (rw [zz_cons]; simp -implicitDefEqProofs (disch := first | assumption | omega) [evalS, evalE, evalEs, evalL, evalI, evalC, EV.T.bind, wipe, MS.ok, M.seq_ret, line, isSub, ret_app, count_range, numbered_range, pairs_range, collect_N, collect_F, collect2_N, collect, zz_nil, EV.seq_assoc])
            rw [bnd_assoc, bnd_assoc, bnd_assoc]
            refine pst_lift (Pm.seq (Pm.calm (Pm.colN (I := fun _ S => S = [o5, tO c c t1]) (P := fun i d => d = ls c fun j => .int (t1 j i)) rfl ?_ ?_)))
            · rintro i hi S rfl
              refine Pm.seq (Pm.calm (Pm.colN (I := fun _ S => S = [o5, tO c c t1]) (P := fun j d => d = .int (t1 j i)) rfl ?_ ?_))
              · rintro j hj S rfl
                refine Pm.seq (Pm.of (get_row1 c c t1 o5 [] j (ls c fun k => .int (t1 j k)) (by rw [nth_nat]; simp [hj])) ?_)
                simp only [getI_ls _ hi, M.seq_ret]
                exact Pm.ret ⟨_, rfl, rfl, rfl⟩
              · rintro F S rfl hF
                have : (List.range c).map F = (List.range c).map fun j => .int (t1 j i) := List.map_congr_left fun j hj => hF j (List.mem_range.mp hj)
                rw [this]
                exact Pm.ret ⟨_, rfl, rfl, rfl⟩
            · rintro F S rfl hF
              have : (List.range c).map F = (List.range c).map fun i => ls c fun j => .int (t1 j i) := List.map_congr_left fun j hj => hF j (List.mem_range.mp hj)
              rw [this]
              refine Pm.of rfl ?_
              simp only [MS.ok, bnd_nx, List.cons_append, List.nil_append, List.length_cons, List.length_nil, Nat.zero_add, Nat.reduceAdd]
              exact fin t1 (fun i j => t1 j i) o5 3 rfl hb5'
          · by_cases w4 : w = 4
            · subst w4
              (rw [zz_cons]; simp -implicitDefEqProofs (disch := first | assumption | omega) [evalS, evalE, evalEs, evalL, evalI, evalC, EV.T.bind, wipe, MS.ok, M.seq_ret, line, isSub, ret_app, count_range, numbered_range, pairs_range, collect_N, collect_F, collect2_N, collect, zz_nil])
              (rw [zz_cons]; simp -implicitDefEqProofs (disch := first | assumption | omega) [evalS, evalE, evalEs, evalL, evalI, evalC, EV.T.bind, wipe, MS.ok, M.seq_ret, line, isSub, ret_app, count_range, numbered_range, pairs_range, collect_N, collect_F, collect2_N, collect, zz_nil])
              (rw [zz_cons]; simp -implicitDefEqProofs (disch := first | assumption | omega) [evalS, evalE, evalEs, evalL, evalI, evalC, EV.T.bind, wipe, MS.ok, M.seq_ret, line, isSub, ret_app, count_range, numbered_range, pairs_range, collect_N, collect_F, collect2_N, collect, zz_nil])
              (rw [zz_cons]; simp -implicitDefEqProofs (disch := first | assumption | omega) [evalS, evalE, evalEs, evalL, evalI, evalC, EV.T.bind, wipe, MS.ok, M.seq_ret, line, isSub, ret_app, count_range, numbered_range, pairs_range, collect_N, collect_F, collect2_N, collect, zz_nil])
              (rw [zz_cons]; simp -implicitDefEqProofs (disch := first | assumption | omega) [evalS, evalE, evalEs, evalL, evalI, evalC, EV.T.bind, wipe, MS.ok, M.seq_ret, line, isSub, ret_app, count_range, numbered_range, pairs_range, collect_N, collect_F, collect2_N, collect, zz_nil, EV.seq_assoc])
              simp only [bnd_assoc]
              refine pst_lift (Pm.of rfl ?_)
              simp only [MS.ok, bnd_nx, List.cons_append, List.nil_append, List.length_cons, List.length_nil, Nat.zero_add, Nat.reduceAdd]
              (rw [zz_cons]; simp -implicitDefEqProofs (disch := first | assumption | omega) [evalS, evalE, evalEs, evalL, evalI, evalC, EV.T.bind, wipe, MS.ok, M.seq_ret, line, isSub, ret_app, count_range, numbered_range, pairs_range, collect_N, collect_F, collect2_N, collect, zz_nil, EV.seq_assoc])
              simp only [bnd_assoc]
              refine pst_lift (Pm.of rfl ?_)
              simp only [MS.ok, bnd_nx, List.cons_append, List.nil_append, List.length_cons, List.length_nil, Nat.zero_add, Nat.reduceAdd]
              have ht5 : tailS 5 f3.body = .cons _ (.cons _ (tailS 7 f3.body)) := rfl
              rw [ht5]
              (rw [zz_cons]; simp -implicitDefEqProofs (disch := first | assumption | omega) [evalS, evalE, evalEs, evalL, evalI, evalC, EV.T.bind, wipe, MS.ok, M.seq_ret, line, isSub, ret_app, count_range, numbered_range, pairs_range, collect_N, collect_F, collect2_N, collect, zz_nil])
              (rw [zz_cons]; simp -implicitDefEqProofs (disch := first | assumption | omega) [evalS, evalE, evalEs, evalL, evalI, evalC, EV.T.bind, wipe, MS.ok, M.seq_ret, line, isSub, ret_app, count_range, numbered_range, pairs_range, collect_N, collect_F, collect2_N, collect, zz_nil])
              exact game_ret4 (n + 2) Q r c (by omega) (by omega) _ _ o5 (tO r c t1) _ _ _ _ _ _ _ _ _ _ _ fun q => hQ r c _ _ o5 q hr1 hr4 hc1 hc4 (hb5'.mono (by omega))
            · have n1 : ¬ (w : Int) = 1 := by omega
              have n2 : ¬ (w : Int) = 2 := by omega
              have n3 : ¬ (w : Int) = 3 := by omega
              have n4 : ¬ (w : Int) = 4 := by omega
              (rw [zz_cons]; simp -implicitDefEqProofs (disch := first | assumption | omega) [evalS, evalE, evalEs, evalL, evalI, evalC, EV.T.bind, wipe, MS.ok, M.seq_ret, line, isSub, ret_app, count_range, numbered_range, pairs_range, collect_N, collect_F, collect2_N, collect, zz_nil, n1, n2, n3, n4])
              (rw [zz_cons]; simp -implicitDefEqProofs (disch := first | assumption | omega) [evalS, evalE, evalEs, evalL, evalI, evalC, EV.T.bind, wipe, MS.ok, M.seq_ret, line, isSub, ret_app, count_range, numbered_range, pairs_range, collect_N, collect_F, collect2_N, collect, zz_nil, n1, n2, n3, n4])
              (rw [zz_cons]; simp -implicitDefEqProofs (disch := first | assumption | omega) [evalS, evalE, evalEs, evalL, evalI, evalC, EV.T.bind, wipe, MS.ok, M.seq_ret, line, isSub, ret_app, count_range, numbered_range, pairs_range, collect_N, collect_F, collect2_N, collect, zz_nil, n1, n2, n3, n4])
              (rw [zz_cons]; simp -implicitDefEqProofs (disch := first | assumption | omega) [evalS, evalE, evalEs, evalL, evalI, evalC, EV.T.bind, wipe, MS.ok, M.seq_ret, line, isSub, ret_app, count_range, numbered_range, pairs_range, collect_N, collect_F, collect2_N, collect, zz_nil, n1, n2, n3, n4])
              (rw [zz_cons]; simp -implicitDefEqProofs (disch := first | assumption | omega) [evalS, evalE, evalEs, evalL, evalI, evalC, EV.T.bind, wipe, MS.ok, M.seq_ret, line, isSub, ret_app, count_range, numbered_range, pairs_range, collect_N, collect_F, collect2_N, collect, zz_nil])
              rw [bnd_assoc, bnd_assoc, bnd_assoc, bnd_assoc]
              refine pst_lift (pm_table n hb5 (by omega) (by omega) (by omega) hwide fun t2 o6 hb6 => ?_)
              simp only [MS.ok, bnd_nx, List.cons_append, List.nil_append, List.length_cons, List.length_nil, Nat.zero_add, Nat.reduceAdd]
              exact fin t1 t2 o6 w rfl (hb6.mono (by omega))
    by_cases h34 : w = 3 ∨ w = 4
    · (rw [zz_cons]; simp -implicitDefEqProofs (disch := first | assumption | omega) [evalS, evalE, evalEs, evalL, evalI, evalC, EV.T.bind, wipe, MS.ok, M.seq_ret, line, isSub, ret_app, count_range, numbered_range, pairs_range, collect_N, collect_F, collect2_N, collect, zz_nil, hmem, h34])
      (rw [zz_cons]; simp -implicitDefEqProofs (disch := first | assumption | omega) [evalS, evalE, evalEs, evalL, evalI, evalC, EV.T.bind, wipe, MS.ok, M.seq_ret, line, isSub, ret_app, count_range, numbered_range, pairs_range, collect_N, collect_F, collect2_N, collect, zz_nil])
      exact rest r r (by omega) (by omega) (by omega) (by omega) (fun _ => rfl)
    · (rw [zz_cons]; simp -implicitDefEqProofs (disch := first | assumption | omega) [evalS, evalE, evalEs, evalL, evalI, evalC, EV.T.bind, wipe, MS.ok, M.seq_ret, line, isSub, ret_app, count_range, numbered_range, pairs_range, collect_N, collect_F, collect2_N, collect, zz_nil, hmem, h34])
      exact rest r c (by omega) (by omega) (by omega) (by omega) (fun h => absurd h h34)
  obtain ⟨f, S, e, r, c, t1, t2, o', q, h1, h2, h3, h4, h5, rfl, rfl⟩ := key (fun f S => ∃ (r c : Nat) (t1 t2 : Nat → Nat → Int) (o' : O) (q : List O), 1 ≤ r ∧ r ≤ 4 ∧ 1 ≤ c ∧ c ≤ 4 ∧ Bok (c0 + 100) o' ∧ f = .rt (gD ⟨r, c, fun i j => cl100 (t1 i j), fun i j => cl100 (t2 i j)⟩) ∧ S = o' :: q) (fun r c t1 t2 o' q h1 h2 h3 h4 h5 => ⟨r, c, t1, t2, o', q, h1, h2, h3, h4, h5, rfl, rfl⟩)
  refine ⟨⟨r, c, fun i j => cl100 (t1 i j), fun i j => cl100 (t2 i j)⟩, o', q, ⟨h1, by show r ≤ 5; omega, h3, by show c ≤ 5; omega, fun _ _ => cl100_le _, fun _ _ => cl100_le _⟩, h2, h4, h5, ?_⟩
  rw [callF, show fs[3]? = some f3 from rfl]
  show runF _ _ _ _ _ = _
  rw [runF_eq rfl, e]
end K87
end
section
set_option Elab.async false
set_option linter.all false
set_option maxRecDepth 100000
set_option maxHeartbeats 4000000
/-! k87, part x: cells and boxes. -/
namespace K87
open EV EW
theorem x_cell (n : Nat) (is : List Int) (hl : is.length ≤ 63) (k : Nat) (hk : k < 4) : ∃ z : Int, callR (callF fs gl (n + 1) 4) [.sl (is.map D.int), .int k] = M.ret (.int z) := by
  have hrf : D.rfs (is.map D.int) = true := by
    induction is with
    | nil => rfl
    | cons x xs ih => rw [List.map_cons, rfs_cons, ih (by simp at hl; omega)]; rfl
  have hrf' : D.rfs [.sl (is.map D.int), .int k] = true := by
    show (D.rfs (is.map D.int) && _) = true
    rw [hrf]; rfl
  have hlen : bi .len [.sl (is.map D.int)] = M.ret (.int is.length) := by
    show M.ret _ = _
    simp
  by_cases h : k < is.length
  · refine ⟨is[k], ev_of f4 rfl rfl hrf' rfl ?_⟩
    have hg : getI (.sl (is.map D.int)) (.int k) = M.ret (.int is[k]) := by
      show M.opt (nth (is.map D.int) k) = _
      rw [nth_nat]
      simp [h]
    have h' : (k : Int) < is.length := by omega
    dsimp only [f4, start]
    (rw [zz_cons]; simp -implicitDefEqProofs (disch := first | assumption | omega) [evalS, evalE, evalEs, evalL, evalI, evalC, EV.T.bind, wipe, MS.ok, M.seq_ret, line, isSub, ret_app, count_range, numbered_range, pairs_range, collect_N, collect_F, collect2_N, collect, zz_nil, hlen, h', hg])
    exact ret_rt (by first | rfl | simp)
  · have h' : ¬ ((k : Int) < is.length) := by omega
    obtain ⟨ys, hys⟩ : ∃ ys : List Int, sliceI (.sl (is.map D.int)) none (some 1) = M.ret (.fl (ys.map D.int)) := by
      refine ⟨is.take 1, ?_⟩
      show M.ret (D.fl (cut (is.map D.int) none (some 1))) = _
      unfold cut edge
      have h0 : ¬ (1 : Int) < 0 := by omega
      simp only [h0, if_false, List.drop_zero, Nat.sub_zero, ← List.map_take, List.length_map]
      have : (1 : Int).toNat = 1 := rfl
      rw [this]
      congr 2
      by_cases hh : 1 ≤ is.length
      · rw [Nat.min_eq_left hh]
      · have : is = [] := List.eq_nil_of_length_eq_zero (by omega)
        subst this; rfl
    refine ⟨6007 * k + ys.sum % 1000033, ev_of f4 rfl rfl hrf' rfl ?_⟩
    dsimp only [f4, start]
    (rw [zz_cons]; simp -implicitDefEqProofs (disch := first | assumption | omega) [evalS, evalE, evalEs, evalL, evalI, evalC, EV.T.bind, wipe, MS.ok, M.seq_ret, line, isSub, ret_app, count_range, numbered_range, pairs_range, collect_N, collect_F, collect2_N, collect, zz_nil, hlen, h', hys, sum_fl])
    exact ret_rt (by first | rfl | simp)
theorem c_box (n : Nat) (z : Int) (S : Store) : ∃ o, Bok 0 o ∧ callR (callF fs gl (n + 1) 0) [.int z] S = .ok (.ref S.length) (S ++ [o]) := by
  have hp : op2 .pow (.int 10) (.int 18) = M.ret (.int ((10 : Int) ^ 18)) := op2_pow (k := 18) (by decide) (by decide)
  obtain ⟨m, hm, hm2⟩ : ∃ m : Nat, (if z < 0 then -z else z) % 2147483629 = m ∧ m < 2147483629 := by
    generalize (if z < 0 then -z else z) = y
    exact ⟨(y % 2147483629).toNat, by omega, by omega⟩
  refine ⟨.lst [.int (if z < 0 then -z else z), .bl (decide ((10 : Int) ^ 18 ≤ if z < 0 then -z else z)), .int m, .int (0 : Nat)], ⟨_, _, _, _, rfl, hm2, Nat.le_refl _⟩, ?_⟩
  generalize (10 : Int) ^ 18 = big at *
  generalize hy : (if z < 0 then -z else z) = y at *
  have run : callF fs gl (n + 1) 0 [.int z] [] = .ok (.ref 0) [.lst [.int y, .bl (decide (big ≤ y)), .int m, .int (0 : Nat)]] := by
    have key : Pst (evalSs (callF fs gl n) gl f0.body (start f0.ns [.int z]) []) fun f S => f = .rt (.ref 0) ∧ S = [.lst [.int y, .bl (decide (big ≤ y)), .int m, .int (0 : Nat)]] := by
      dsimp only [f0, start]
      (rw [zz_cons]; simp -implicitDefEqProofs (disch := first | assumption | omega) [evalS, evalE, evalEs, evalL, evalI, evalC, EV.T.bind, wipe, MS.ok, M.seq_ret, line, isSub, ret_app, count_range, numbered_range, pairs_range, collect_N, collect_F, collect2_N, collect, zz_nil, hp, hy, hm])
      exact Pst.ok ⟨rfl, rfl⟩
    obtain ⟨f, S, e, rfl, rfl⟩ := key
    rw [callF, show fs[0]? = some f0 from rfl]
    show runF _ _ _ _ _ = _
    rw [runF_eq rfl, e]
  unfold callR
  have e1 : refsOf [D.int z] = [] := rfl
  have e2 : lent 0 [D.int z] = some [.int z] := rfl
  rw [e1, e2]
  simp only [noDup, takeO, if_true, run, putO, List.length_nil, Nat.zero_le, List.getElem?_cons_zero]
  rfl
end K87
end
section
set_option Elab.async false
set_option linter.all false
set_option maxRecDepth 100000
set_option maxHeartbeats 4000000
/-! k87, part y: what the law asks of plays and steps. -/
namespace EW
open EV
@[simp] theorem sum_ls (n : Nat) (g : Nat → Int) : bi .sum [ls n fun i => .int (g i)] = M.ret (.int ((List.range n).map g).sum) := by
  rw [← sum_fl, List.map_map]; rfl
@[simp] theorem pick4 (a b c d : D) : pick [3, 2, 1, 0] [a, b, c, d] = [d, c, b, a] := rfl
@[simp] theorem pick3 (a b c : D) : pick [2, 1, 0] [a, b, c] = [c, b, a] := rfl
@[simp] theorem pick2 (a b : D) : pick [1, 0] [a, b] = [b, a] := rfl
end EW
namespace K87
open EV EW
@[simp] theorem bind_prD (a b : T) (i j : Nat) (r : Env) : (T.pair a b).bind (prD i j) r = (a.bind (.int i) r).bind fun r => b.bind (.int j) r := rfl
theorem slice_mD0 (o : Nat) (mc : Mach) : sliceI (mD o mc) none (some 0) = M.ret (.tup []) := by
  show M.ret (D.tup (cut _ none (some 0))) = _
  unfold cut edge
  simp
theorem roll_len : ∀ (n : Nat) (b a : List (Nat × Nat)), (roll n b a).1.length ≤ b.length
  | 0, b, a => Nat.le_refl _
  | n + 1, b, a => by
    rw [roll]
    split
    · have := roll_len n b.dropLast (a.getLast?.toList ++ a.dropLast)
      rw [List.length_dropLast] at this
      omega
    · exact Nat.le_refl _
theorem t_plays (n c0 : Nat) (o : O) (ho : Bok c0 o) (hc0 : c0 < 900000) (G : Gm) (hG : G.ok) (m1 m2 : Mach) (h : Two G.r G.c m1 m2) (hs1 : m1.s ≤ 4) (hs2 : m2.s ≤ 4) {f : Rat} (hf : Fac 6 f) :
    ∃ o' q, Bok (c0 + 1) o' ∧ callF fs gl (n + 10) 88 [.ref 0, gD G, oD G, mD G.c m1, mD G.r m2, fr f] [o] = .ok (.bl true) (o' :: q) := by
  obtain ⟨a, p, hr, hap⟩ := rho_pair h.stp (x := (0, 0)) h.one.s1 h.two.s1
  have hs : m1.s * m2.s ≤ 16 := Nat.mul_le_mul hs1 hs2
  have hp := hr.pos
  have r5 := hG.r5
  have c5 := hG.c5
  have lt := fun k => it_lt2 h.stp k (0, 0) h.one.s1 h.two.s1
  have lc := fun k => chs_lt h (lt k).1 (lt k).2
  have hne : around m1 m2 (0, 0) a p ≠ [] := by
    intro e
    have := congrArg List.length e
    simp [around] at this
    omega
  obtain ⟨q, hq⟩ := short_ex hne
  have e00 : pD (0, 0) = D.tup [.int 0, .int 0] := rfl
  have cA : (ls a fun k => pD (chs m1 m2 (it (stp m1 m2) k (0, 0)))) = bl (ahead m1 m2 (0, 0) a) := ls_bl a _
  have cB : (ls p fun k => pD (chs m1 m2 (it (stp m1 m2) (a + k) (0, 0)))) = bl (around m1 m2 (0, 0) a p) := ls_bl p _
  have l1 : (ahead m1 m2 (0, 0) a).length = a := by simp [ahead]
  have l2 : (around m1 m2 (0, 0) a p).length = p := by simp [around]
  have q2 := y_cycle (n + 7) G.r G.c m1 m2 h (0, 0) h.one.s1 h.two.s1 a p hr (by omega)
  rw [e00] at q2
  have q3 := y_shortest (n + 8) (ahead m1 m2 (0, 0) a) (around m1 m2 (0, 0) a p) (by omega) (by omega) q hq
  have q5 := x_cycle_of (n + 1) G hG m1 m2 h a p hr (by omega) q hq
  have q7 := fun A hA => (y_worth (n + 4) G.r G.c A hA m1 m2 h (0, 0) h.one.s1 h.two.s1 hs hf).1
  have q7A := q7 G.A hG.a
  have q7B := q7 G.B hG.b
  rw [e00] at q7A q7B
  have q8 : callR (callF fs gl (n + 9) 72) [oD G, mD G.c m1, mD G.r m2, fr f] = M.ret (.tup [fr (wo f (stp m1 m2) (gt G.A m1 m2) (0, 0)), fr (wo f (stp m1 m2) (gt G.B m1 m2) (0, 0))]) := x_discounted (n + 1) G hG m1 m2 h hf
  have q9 := x_average n G hG m1 m2 h a p hr (by omega)
  have q10 := x_is_machine (n + 3) G hG m1 0 (.inl rfl) h.one
  have q11 := x_is_machine (n + 3) G hG m2 1 (.inr rfl) h.two
  simp only [Nat.sub_zero, num1, Int.natCast_zero] at q10
  simp only [Nat.sub_self, num0, Int.natCast_one] at q11
  have q12 : callR (callF fs gl (n + 9) 86) [oD G, .int 0, ls m1.s fun k => stD G.c m1 k] = M.ret (.bl false) := x_is_machine_fl (n + 4) G _ (rfs_map (fun k => rf_stD _ _ _) _)
  have q13 := x_is_machine_nil (n + 4) G
  have key : ∀ Q : Fl → Store → Prop, (∀ o', Bok (c0 + 1) o' → Q (.rt (.bl true)) [o']) → Pst (evalSs (callF fs gl (n + 9)) gl f88.body (start f88.ns [.ref 0, gD G, oD G, mD G.c m1, mD G.r m2, fr f]) [o]) Q := by
    intro Q hQ
    dsimp only [f88, start]
    (rw [zz_cons]; simp -implicitDefEqProofs (disch := first | assumption | omega) [evalS, evalE, evalEs, evalL, evalI, evalC, EV.T.bind, wipe, MS.ok, M.seq_ret, line, isSub, ret_app, count_range, numbered_range, pairs_range, collect_N, collect_F, collect2_N, collect, zz_nil])
    refine pst_lift (pm_takeZ (n + 8) ho (by omega) 30 30 (by omega) (by omega) (by omega) fun v o1 hv hb1 => ?_)
    simp -implicitDefEqProofs (disch := first | assumption | omega) [evalS, evalE, evalEs, evalL, evalI, evalC, EV.T.bind, wipe, MS.ok, M.seq_ret, line, isSub, ret_app, count_range, numbered_range, pairs_range, collect_N, collect_F, collect2_N, collect, zz_nil]
    (rw [zz_cons]; simp -implicitDefEqProofs (disch := first | assumption | omega) [evalS, evalE, evalEs, evalL, evalI, evalC, EV.T.bind, wipe, MS.ok, M.seq_ret, line, isSub, ret_app, count_range, numbered_range, pairs_range, collect_N, collect_F, collect2_N, collect, zz_nil, q2])
    (rw [zz_cons]; simp -implicitDefEqProofs (disch := first | assumption | omega) [evalS, evalE, evalEs, evalL, evalI, evalC, EV.T.bind, wipe, MS.ok, M.seq_ret, line, isSub, ret_app, count_range, numbered_range, pairs_range, collect_N, collect_F, collect2_N, collect, zz_nil, cA, cB, q3])
    have q4 := x_play (n + 1) G hG m1 m2 h v (by omega)
    have q6 := y_walk (n + 8) G.r G.c m1 m2 h v (by omega) (0, 0) h.one.s1 h.two.s1
    rw [e00] at q6
    have rl1 := roll_len (ahead m1 m2 (0, 0) a).length (ahead m1 m2 (0, 0) a) ((around m1 m2 (0, 0) a p).take (q + 1))
    have rl2 := (roll_sum (fun _ => 0) (ahead m1 m2 (0, 0) a).length (ahead m1 m2 (0, 0) a) ((around m1 m2 (0, 0) a p).take (q + 1))).2
    rw [List.length_take] at rl2
    have s1 := y_same 6 (D.fl [ls v fun i => pD (chs m1 m2 (it (stp m1 m2) i (0, 0))), D.tup [bl (roll (ahead m1 m2 (0, 0) a).length (ahead m1 m2 (0, 0) a) ((around m1 m2 (0, 0) a p).take (q + 1))).1, bl (roll (ahead m1 m2 (0, 0) a).length (ahead m1 m2 (0, 0) a) ((around m1 m2 (0, 0) a p).take (q + 1))).2]]) (by simp; omega) (n + 3)
    have s2 := y_same 6 (D.fl [.tup [fr (wo f (stp m1 m2) (gt G.A m1 m2) (0, 0)), fr (wo f (stp m1 m2) (gt G.B m1 m2) (0, 0))], .tup [fr (wo f (stp m1 m2) (gt G.A m1 m2) (0, 0)), fr (wo f (stp m1 m2) (gt G.B m1 m2) (0, 0))]]) (by simp) (n + 3)
    have s3 := y_same 6 (D.fl [.tup [fr (mean (fun x => G.A x.1 x.2) (around m1 m2 (0, 0) a p)), fr (mean (fun x => G.B x.1 x.2) (around m1 m2 (0, 0) a p))], .tup [fr (mean (fun x => G.A x.1 x.2) (around m1 m2 (0, 0) a p)), fr (mean (fun x => G.B x.1 x.2) (around m1 m2 (0, 0) a p))]]) (by simp) (n + 3)
    have s4 := y_same 6 (D.fl [.bl true, .bl true, .bl false, .bl false]) (by simp) (n + 3)
    (rw [zz_cons]; simp -implicitDefEqProofs (disch := first | assumption | omega) [evalS, evalE, evalEs, evalL, evalI, evalC, EV.T.bind, wipe, MS.ok, M.seq_ret, line, isSub, ret_app, count_range, numbered_range, pairs_range, collect_N, collect_F, collect2_N, collect, zz_nil, q4, q5, q6, s1])
    (rw [zz_cons]; simp -implicitDefEqProofs (disch := first | assumption | omega) [evalS, evalE, evalEs, evalL, evalI, evalC, EV.T.bind, wipe, MS.ok, M.seq_ret, line, isSub, ret_app, count_range, numbered_range, pairs_range, collect_N, collect_F, collect2_N, collect, zz_nil, gD, q7A, q7B])
    (rw [zz_cons]; simp -implicitDefEqProofs (disch := first | assumption | omega) [evalS, evalE, evalEs, evalL, evalI, evalC, EV.T.bind, wipe, MS.ok, M.seq_ret, line, isSub, ret_app, count_range, numbered_range, pairs_range, collect_N, collect_F, collect2_N, collect, zz_nil, q8, s2])
    have gA : ∀ k, getI (lI G.r G.c G.A) (.int ((chs m1 m2 (it (stp m1 m2) (a + k) (0, 0))).1 : Nat)) = M.ret (ls G.c fun j => .int (G.A (chs m1 m2 (it (stp m1 m2) (a + k) (0, 0))).1 j)) := fun k => getI_lI _ (lc (a + k)).1
    have gB : ∀ k, getI (lI G.r G.c G.B) (.int ((chs m1 m2 (it (stp m1 m2) (a + k) (0, 0))).1 : Nat)) = M.ret (ls G.c fun j => .int (G.B (chs m1 m2 (it (stp m1 m2) (a + k) (0, 0))).1 j)) := fun k => getI_lI _ (lc (a + k)).1
    have gl2 : ∀ (F : Nat → D) k, getI (ls G.c F) (.int ((chs m1 m2 (it (stp m1 m2) (a + k) (0, 0))).2 : Nat)) = M.ret (F (chs m1 m2 (it (stp m1 m2) (a + k) (0, 0))).2) := fun F k => getI_ls _ (lc (a + k)).2
    have mn : ∀ A : Nat → Nat → Int, Rat.divInt ((List.range p).map fun k => A (chs m1 m2 (it (stp m1 m2) (a + k) (0, 0))).1 (chs m1 m2 (it (stp m1 m2) (a + k) (0, 0))).2).sum p = mean (fun x => A x.1 x.2) (around m1 m2 (0, 0) a p) := fun A => by
      unfold mean
      rw [l2, around, List.map_map]; rfl
    have lowp : ∀ s : Int, callR (callF fs gl (n + 9) 13) [.int s, .int p] = M.ret (fr (Rat.divInt s p)) := fun s => y_low (n + 7) 6 s p (by omega) (by omega) (by omega)
    rw [show bl (around m1 m2 (0, 0) a p) = ls p fun k => pD (chs m1 m2 (it (stp m1 m2) (a + k) (0, 0))) from cB.symm]
    (rw [zz_cons]; simp -implicitDefEqProofs (disch := first | assumption | omega) [evalS, evalE, evalEs, evalL, evalI, evalC, EV.T.bind, wipe, MS.ok, M.seq_ret, line, isSub, ret_app, count_range, numbered_range, pairs_range, collect_N, collect_F, collect2_N, collect, zz_nil, gA, gB, gl2, lowp, mn])
    (rw [zz_cons]; simp -implicitDefEqProofs (disch := first | assumption | omega) [evalS, evalE, evalEs, evalL, evalI, evalC, EV.T.bind, wipe, MS.ok, M.seq_ret, line, isSub, ret_app, count_range, numbered_range, pairs_range, collect_N, collect_F, collect2_N, collect, zz_nil, q9, s3])
    (rw [zz_cons]; simp -implicitDefEqProofs (disch := first | assumption | omega) [evalS, evalE, evalEs, evalL, evalI, evalC, EV.T.bind, wipe, MS.ok, M.seq_ret, line, isSub, ret_app, count_range, numbered_range, pairs_range, collect_N, collect_F, collect2_N, collect, zz_nil, q10, q11, q12, q13, slice_mD0, s4])
    exact Pst.ok (hQ _ hb1)
  obtain ⟨f', S, e, o', hb, rfl, rfl⟩ := key (fun f S => ∃ o', Bok (c0 + 1) o' ∧ f = .rt (.bl true) ∧ S = [o']) (fun o' h => ⟨o', h, rfl, rfl⟩)
  refine ⟨o', [], hb, ?_⟩
  rw [callF, show fs[88]? = some f88 from rfl]
  show runF _ _ _ _ _ = _
  rw [runF_eq rfl, e]
end K87
end
section
set_option Elab.async false
set_option linter.all false
set_option maxRecDepth 100000
set_option maxHeartbeats 4000000
/-! k87, part z: what the law asks of single steps. -/
namespace K87
open EV EW
def hdG (l : List ((Nat × Nat) × (Nat × Nat))) : D := gainD l.head?
@[simp] theorem isN_hdG (l : List ((Nat × Nat) × (Nat × Nat))) : cm .isN (hdG l) .non = M.ret (.bl l.isEmpty) := by cases l <;> rfl
def tagG (i j : Nat) (y : Nat × Nat) : (Nat × Nat) × (Nat × Nat) := ((i, j), y)
@[simp] theorem isN_gainD (x : Option ((Nat × Nat) × (Nat × Nat))) : cm .isN (gainD x) .non = M.ret (.bl x.isNone) := by cases x <;> rfl
theorem num_bd {G : Gm} (h : G.ok) (p : Nat) : G.num p ≤ 5 := (num_pos' h p).2
theorem x_step_right (n : Nat) (G : Gm) (hG : G.ok) (m1 m2 : Mach) (h : Two G.r G.c m1 m2) (hs1 : m1.s ≤ 4) (hs2 : m2.s ≤ 4) {f : Rat} (hf : Fac 6 f) :
    callR (callF fs gl (n + 9) 89) [gD G, oD G, mD G.c m1, mD G.r m2, fr f] = M.ret (.bl true) := by
  have hs : m1.s * m2.s ≤ 16 := Nat.mul_le_mul hs1 hs2
  have r1 := hG.r1
  have r5 := hG.r5
  have c5 := hG.c5
  have s61 := h.one.s6
  have s62 := h.two.s6
  have q1 := x_one_step n G hG m1 m2 h hf
  have s1 := y_same 6 (.fl [gainD (allG G m1 m2 f).head?, gainD (allG G m1 m2 f).head?]) (by simp) (n + 2)
  have e1 : D.tup [.int 1, .int 1] = fr 1 := rfl
  have ei : ∀ i : Int, D.tup [.int i, .int 1] = fr (i : Rat) := fun i => rfl
  have bf := bd_sub bd_one hf.b
  have q2 := y_sub (n + 5) bd_one hf.b (by omega)
  refine ev_of f89 rfl rfl (by simp) rfl ?_
  dsimp only [f89, start]
  (rw [zz_cons]; simp -implicitDefEqProofs (disch := first | assumption | omega) [evalS, evalE, evalEs, evalL, evalI, evalC, EV.T.bind, wipe, MS.ok, M.seq_ret, line, isSub, ret_app, count_range, numbered_range, pairs_range, collect_N, collect_F, collect2_N, collect, zz_nil])
  (rw [zz_cons]; simp -implicitDefEqProofs (disch := first | assumption | omega) [evalS, evalE, evalEs, evalL, evalI, evalC, EV.T.bind, wipe, MS.ok, M.seq_ret, line, isSub, ret_app, count_range, numbered_range, pairs_range, collect_N, collect_F, collect2_N, collect, zz_nil])
  refine lpN (I := fun i r' S => ∃ v6 v7 v8 v9 v10 v11 v12 v13 v14 v15, r' = [some (gD G), some (oD G), some (mD G.c m1), some (mD G.r m2), some (fr f), some (hdG ((List.range i).flatMap (rowG G m1 m2 f))), v6, v7, v8, v9, v10, v11, v12, v13, v14, v15] ∧ S = []) ?_ ?_ ?_
  · exact ⟨_, _, _, _, _, _, _, _, _, _, rfl, rfl⟩
  · rintro i hi r' S P ⟨v6, v7, v8, v9, v10, v11, v12, v13, v14, v15, rfl, rfl⟩ hP _ _
    have hrow : (List.range (i + 1)).flatMap (rowG G m1 m2 f) = (List.range i).flatMap (rowG G m1 m2 f) ++ (List.range m2.s).flatMap (cellG G m1 m2 f i) := by
      rw [List.range_succ, List.flatMap_append]; simp [rowG]
    rw [hrow] at hP
    generalize (List.range i).flatMap (rowG G m1 m2 f) = X at *
    simp only [EV.T.bind, List.length_cons, List.length_nil, List.set_cons_succ, List.set_cons_zero, Nat.reduceAdd, Nat.reduceLT, if_true, ite_true, Option.bind_some]
    (rw [zz_cons]; simp -implicitDefEqProofs (disch := first | assumption | omega) [evalS, evalE, evalEs, evalL, evalI, evalC, EV.T.bind, wipe, MS.ok, M.seq_ret, line, isSub, ret_app, count_range, numbered_range, pairs_range, collect_N, collect_F, collect2_N, collect, zz_nil])
    refine lpN (I := fun j r' S => ∃ v7 v8 v9 v10 v11 v12 v13 v14 v15, r' = [some (gD G), some (oD G), some (mD G.c m1), some (mD G.r m2), some (fr f), some (hdG (X ++ (List.range j).flatMap (cellG G m1 m2 f i))), some (.int i), v7, v8, v9, v10, v11, v12, v13, v14, v15] ∧ S = []) ?_ ?_ ?_
    · exact ⟨_, _, _, _, _, _, _, _, _, by rw [show X ++ (List.range 0).flatMap (cellG G m1 m2 f i) = X by simp], rfl⟩
    · rintro j hj r' S P2 ⟨v7, v8, v9, v10, v11, v12, v13, v14, v15, rfl, rfl⟩ hP2 _ _
      have hcell : X ++ (List.range (j + 1)).flatMap (cellG G m1 m2 f i) = X ++ (List.range j).flatMap (cellG G m1 m2 f i) ++ ((plays G).filter (gains G m1 m2 f (i, j))).map (tagG i j) := by
        rw [List.range_succ, List.flatMap_append, List.append_assoc]; simp [cellG]; intros; rfl
      rw [hcell] at hP2
      generalize X ++ (List.range j).flatMap (cellG G m1 m2 f i) = Y at *
      have l1 := h.one.c i hi
      have l2 := h.two.c j hj
      simp only [EV.T.bind, List.length_cons, List.length_nil, List.set_cons_succ, List.set_cons_zero, Nat.reduceAdd, Nat.reduceLT, if_true, ite_true, Option.bind_some]
      (rw [zz_cons]; simp -implicitDefEqProofs (disch := first | assumption | omega) [evalS, evalE, evalEs, evalL, evalI, evalC, EV.T.bind, wipe, MS.ok, M.seq_ret, line, isSub, ret_app, count_range, numbered_range, pairs_range, collect_N, collect_F, collect2_N, collect, zz_nil, two_ints])
      refine lpN (I := fun p r' S => ∃ v8 v9 v10 v11 v12 v13 v14 v15, r' = [some (gD G), some (oD G), some (mD G.c m1), some (mD G.r m2), some (fr f), some (hdG (Y ++ (((List.range p).flatMap fun p => (List.range (G.num p)).map fun c => (p, c)).filter (gains G m1 m2 f (i, j))).map (tagG i j))), some (.int i), some (.int j), v8, v9, v10, v11, v12, v13, v14, v15] ∧ S = []) ?_ ?_ ?_
      · exact ⟨_, _, _, _, _, _, _, _, by rw [show Y ++ (((List.range 0).flatMap fun p => (List.range (G.num p)).map fun c => (p, c)).filter (gains G m1 m2 f (i, j))).map (tagG i j) = Y by simp], rfl⟩
      · rintro p hp r' S P3 ⟨v8, v9, v10, v11, v12, v13, v14, v15, rfl, rfl⟩ hP3 _ _
        have hp' : p = 0 ∨ p = 1 := by omega
        have gp : getI (gD G) (.int p) = M.ret (lI G.r G.c (G.pay p)) := by rcases hp' with rfl | rfl <;> rfl
        have g0 : getI (gD G) (.int 0) = M.ret (lI G.r G.c G.A) := rfl
        have np : getI (.fl [.int G.r, .int G.c]) (.int p) = M.ret (.int (G.num p)) := by rcases hp' with rfl | rfl <;> simp
        have n5 := num_bd hG p
        have w1 := y_worth (n + 3) G.r G.c (G.pay p) (pay_le hG p) m1 m2 h (i, j) hi hj hs hf
        have w1' : callR (callF fs gl (n + 8) 85) [lI G.r G.c (G.pay p), mD G.c m1, mD G.r m2, D.tup [.int i, .int j], fr f] = _ := w1.1
        have hcs : Y ++ (((List.range (p + 1)).flatMap fun p => (List.range (G.num p)).map fun c => (p, c)).filter (gains G m1 m2 f (i, j))).map (tagG i j) = Y ++ (((List.range p).flatMap fun p => (List.range (G.num p)).map fun c => (p, c)).filter (gains G m1 m2 f (i, j))).map (tagG i j) ++ (((List.range (G.num p)).map fun c => (p, c)).filter (gains G m1 m2 f (i, j))).map (tagG i j) := by
          rw [List.range_succ, List.flatMap_append, List.filter_append, List.map_append, List.append_assoc]; simp
        rw [hcs] at hP3
        generalize Y ++ (((List.range p).flatMap fun p => (List.range (G.num p)).map fun c => (p, c)).filter (gains G m1 m2 f (i, j))).map (tagG i j) = V at *
        simp only [EV.T.bind, List.length_cons, List.length_nil, List.set_cons_succ, List.set_cons_zero, Nat.reduceAdd, Nat.reduceLT, if_true, ite_true, Option.bind_some]
        (rw [zz_cons]; simp -implicitDefEqProofs (disch := first | assumption | omega) [evalS, evalE, evalEs, evalL, evalI, evalC, EV.T.bind, wipe, MS.ok, M.seq_ret, line, isSub, ret_app, count_range, numbered_range, pairs_range, collect_N, collect_F, collect2_N, collect, zz_nil, gp, w1'])
        (rw [zz_cons]; simp -implicitDefEqProofs (disch := first | assumption | omega) [evalS, evalE, evalEs, evalL, evalI, evalC, EV.T.bind, wipe, MS.ok, M.seq_ret, line, isSub, ret_app, count_range, numbered_range, pairs_range, collect_N, collect_F, collect2_N, collect, zz_nil, g0, np])
        refine lpN (I := fun c r' S => ∃ v10 v11 v12 v13 v14 v15, r' = [some (gD G), some (oD G), some (mD G.c m1), some (mD G.r m2), some (fr f), some (hdG (V ++ (((List.range c).map fun c => (p, c)).filter (gains G m1 m2 f (i, j))).map (tagG i j))), some (.int i), some (.int j), some (.int p), some (fr (wo f (stp m1 m2) (gt (G.pay p) m1 m2) (i, j))), v10, v11, v12, v13, v14, v15] ∧ S = []) ?_ ?_ ?_
        · exact ⟨_, _, _, _, _, _, by rw [show V ++ (((List.range 0).map fun c => (p, c)).filter (gains G m1 m2 f (i, j))).map (tagG i j) = V by simp], rfl⟩
        · rintro c hc r' S P4 ⟨v10, v11, v12, v13, v14, v15, rfl, rfl⟩ hP4 _ _
          have dlt := dev_lt h (x := (i, j)) hi hj hc
          have nlt := nxt_lt h (x := (i, j)) hi hj dlt.1 dlt.2
          have hdev : dev m1 m2 (i, j) p c = if p = 0 then (c, m2.ch j) else (m1.ch i, c) := rfl
          have w2 := y_worth (n + 3) G.r G.c (G.pay p) (pay_le hG p) m1 m2 h (nxt m1 m2 (i, j) (dev m1 m2 (i, j) p c)) nlt.1 nlt.2 hs hf
          have bq := bd_mul bf (bd_int (pay_le hG p (dev m1 m2 (i, j) p c).1 (dev m1 m2 (i, j) p c).2))
          have bl := bd_mul hf.b w2.2
          have q3 := y_mul (n + 5) bf (bd_int (pay_le hG p (dev m1 m2 (i, j) p c).1 (dev m1 m2 (i, j) p c).2)) (by omega)
          have q4 := y_mul (n + 5) hf.b w2.2 (by omega)
          have q5 := y_add (n + 5) bq bl (by omega)
          have q6 := y_below (n + 7) w1.2 (bd_add bq bl) (by omega)
          have q6' : callR (callF fs gl (n + 8) 36) [fr (wo f (stp m1 m2) (gt (G.pay p) m1 m2) (i, j)), fr ((1 - f) * ↑(G.pay p (dev m1 m2 (i, j) p c).fst (dev m1 m2 (i, j) p c).snd) + f * wo f (stp m1 m2) (gt (G.pay p) m1 m2) (nxt m1 m2 (i, j) (dev m1 m2 (i, j) p c)))] = M.ret (.bl (gains G m1 m2 f (i, j) (p, c))) := q6
          have w2' : callR (callF fs gl (n + 8) 85) [lI G.r G.c (G.pay p), mD G.c m1, mD G.r m2, D.tup [.int (m1.nx i (dev m1 m2 (i, j) p c).2), .int (m2.nx j (dev m1 m2 (i, j) p c).1)], fr f] = M.ret (fr (wo f (stp m1 m2) (gt (G.pay p) m1 m2) (nxt m1 m2 (i, j) (dev m1 m2 (i, j) p c)))) := w2.1
          have hL : V ++ (((List.range (c + 1)).map fun c => (p, c)).filter (gains G m1 m2 f (i, j))).map (tagG i j) = V ++ (((List.range c).map fun c => (p, c)).filter (gains G m1 m2 f (i, j))).map (tagG i j) ++ if gains G m1 m2 f (i, j) (p, c) = true then [((i, j), (p, c))] else [] := by
            rw [List.range_succ, List.map_append, List.filter_append, List.map_append, List.append_assoc]
            by_cases hg : gains G m1 m2 f (i, j) (p, c) = true
            · simp [List.filter_cons, hg, tagG]
            · simp [List.filter_cons, hg]
          rw [hL] at hP4
          generalize V ++ (((List.range c).map fun c => (p, c)).filter (gains G m1 m2 f (i, j))).map (tagG i j) = W at *
          generalize wo f (stp m1 m2) (gt (G.pay p) m1 m2) (nxt m1 m2 (i, j) (dev m1 m2 (i, j) p c)) = W2 at *
          generalize hd1 : (dev m1 m2 (i, j) p c).1 = d1 at *
          generalize hd2 : (dev m1 m2 (i, j) p c).2 = d2 at *
          have d1lt := dlt.1
          have d2lt := dlt.2
          simp only [EV.T.bind, List.length_cons, List.length_nil, List.set_cons_succ, List.set_cons_zero, Nat.reduceAdd, Nat.reduceLT, if_true, ite_true, Option.bind_some]
          have hab : ∀ (r : Env) (k : D → MS), lift (evalE (callF fs gl (n + 8)) gl (.ite (.cmp .eq (.var 8) (.int 0)) (.tup (.cons (.var 10) (.cons (.idx (.idx (.var 3) (.var 7)) (.int 0)) .nil))) (.tup (.cons (.idx (.idx (.var 2) (.var 6)) (.int 0)) (.cons (.var 10) .nil)))) [some (gD G), some (oD G), some (mD G.c m1), some (mD G.r m2), some (fr f), some (hdG W), some (D.int i), some (D.int j), some (D.int p), some (fr (wo f (stp m1 m2) (gt (G.pay p) m1 m2) (i, j))), some (D.int c), v11, v12, v13, v14, v15]) r k = k (.tup [.int d1, .int d2]) := by
            intro r k
            rcases hp' with rfl | rfl
            · rw [← hd1, ← hd2, hdev]
              simp -implicitDefEqProofs (disch := first | assumption | omega) [evalS, evalE, evalEs, evalL, evalI, evalC, EV.T.bind, wipe, MS.ok, M.seq_ret, line, isSub, ret_app, count_range, numbered_range, pairs_range, collect_N, collect_F, collect2_N, collect, zz_nil]
            · rw [← hd1, ← hd2, hdev]
              simp -implicitDefEqProofs (disch := first | assumption | omega) [evalS, evalE, evalEs, evalL, evalI, evalC, EV.T.bind, wipe, MS.ok, M.seq_ret, line, isSub, ret_app, count_range, numbered_range, pairs_range, collect_N, collect_F, collect2_N, collect, zz_nil]
          rw [zz_cons]
          simp only [evalS, hab]
          simp -implicitDefEqProofs (disch := first | assumption | omega) [evalS, evalE, evalEs, evalL, evalI, evalC, EV.T.bind, wipe, MS.ok, M.seq_ret, line, isSub, ret_app, count_range, numbered_range, pairs_range, collect_N, collect_F, collect2_N, collect, zz_nil]
          (rw [zz_cons]; simp -implicitDefEqProofs (disch := first | assumption | omega) [evalS, evalE, evalEs, evalL, evalI, evalC, EV.T.bind, wipe, MS.ok, M.seq_ret, line, isSub, ret_app, count_range, numbered_range, pairs_range, collect_N, collect_F, collect2_N, collect, zz_nil])
          (rw [zz_cons]; simp -implicitDefEqProofs (disch := first | assumption | omega) [evalS, evalE, evalEs, evalL, evalI, evalC, EV.T.bind, wipe, MS.ok, M.seq_ret, line, isSub, ret_app, count_range, numbered_range, pairs_range, collect_N, collect_F, collect2_N, collect, zz_nil, gp, w2'])
          (rw [zz_cons]; simp -implicitDefEqProofs (disch := first | assumption | omega) [evalS, evalE, evalEs, evalL, evalI, evalC, EV.T.bind, wipe, MS.ok, M.seq_ret, line, isSub, ret_app, count_range, numbered_range, pairs_range, collect_N, collect_F, collect2_N, collect, zz_nil, gp, e1, ei, q2, q3, q4, q5])
          cases W with
          | nil =>
            by_cases hg : gains G m1 m2 f (i, j) (p, c) = true
            · rw [hg] at q6'
              rw [if_pos hg] at hP4
              (rw [zz_cons]; simp -implicitDefEqProofs (disch := first | assumption | omega) [evalS, evalE, evalEs, evalL, evalI, evalC, EV.T.bind, wipe, MS.ok, M.seq_ret, line, isSub, ret_app, count_range, numbered_range, pairs_range, collect_N, collect_F, collect2_N, collect, zz_nil, q6'])
              exact Pst.ok (hP4 _ _ ⟨_, _, _, _, _, _, rfl, rfl⟩)
            · rw [Bool.not_eq_true] at hg
              rw [hg] at q6' hP4
              (rw [zz_cons]; simp -implicitDefEqProofs (disch := first | assumption | omega) [evalS, evalE, evalEs, evalL, evalI, evalC, EV.T.bind, wipe, MS.ok, M.seq_ret, line, isSub, ret_app, count_range, numbered_range, pairs_range, collect_N, collect_F, collect2_N, collect, zz_nil, q6'])
              exact Pst.ok (hP4 _ _ ⟨_, _, _, _, _, _, rfl, rfl⟩)
          | cons z zs =>
            (rw [zz_cons]; simp -implicitDefEqProofs (disch := first | assumption | omega) [evalS, evalE, evalEs, evalL, evalI, evalC, EV.T.bind, wipe, MS.ok, M.seq_ret, line, isSub, ret_app, count_range, numbered_range, pairs_range, collect_N, collect_F, collect2_N, collect, zz_nil, q6'])
            exact Pst.ok (hP4 _ _ ⟨_, _, _, _, _, _, rfl, rfl⟩)
        · rintro r' S ⟨v10, v11, v12, v13, v14, v15, rfl, rfl⟩
          exact Pst.ok (hP3 _ _ ⟨_, _, _, _, _, _, _, _, rfl, rfl⟩)
      · rintro r' S ⟨v8, v9, v10, v11, v12, v13, v14, v15, rfl, rfl⟩
        exact Pst.ok (hP2 _ _ ⟨_, _, _, _, _, _, _, _, _, rfl, rfl⟩)
    · rintro r' S ⟨v7, v8, v9, v10, v11, v12, v13, v14, v15, rfl, rfl⟩
      exact Pst.ok (hP _ _ ⟨_, _, _, _, _, _, _, _, _, _, rfl, rfl⟩)
  · rintro r' S ⟨v6, v7, v8, v9, v10, v11, v12, v13, v14, v15, rfl, rfl⟩
    have hall : hdG ((List.range m1.s).flatMap (rowG G m1 m2 f)) = gainD (allG G m1 m2 f).head? := rfl
    rw [hall]
    (rw [zz_cons]; simp -implicitDefEqProofs (disch := first | assumption | omega) [evalS, evalE, evalEs, evalL, evalI, evalC, EV.T.bind, wipe, MS.ok, M.seq_ret, line, isSub, ret_app, count_range, numbered_range, pairs_range, collect_N, collect_F, collect2_N, collect, zz_nil, q1, s1])
    exact ret_rt (by first | rfl | simp)
end K87
end
section
set_option Elab.async false
set_option linter.all false
set_option maxRecDepth 100000
set_option maxHeartbeats 4000000
/-! k87, part A: grim machines hold (plain). -/
namespace K87
open EV EW
theorem wst_ge {G : Gm} {p a b : Nat} (ha : a < G.num p) : G.mat p a b ≤ wst G p b := topL_ge (List.mem_map.mpr ⟨a, List.mem_range.mpr ha, rfl⟩)
theorem wst_mem {G : Gm} (h : G.ok) (p b : Nat) : ∃ a, a < G.num p ∧ wst G p b = G.mat p a b := by
  have := topL_mem (range_ne (fun a => G.mat p a b) (num_pos' h p).1)
  rw [List.mem_map] at this
  obtain ⟨a, ha, e⟩ := this
  exact ⟨a, List.mem_range.mp ha, e.symm⟩
theorem oth_mem {G : Gm} {i j p : Nat} {x : Int} : x ∈ othL G i j p ↔ ∃ a, a < G.num p ∧ a ≠ own2 i j p ∧ G.mat p a (own2 i j (1 - p)) = x := by
  simp only [othL, List.mem_map, List.mem_filter, List.mem_range]
  constructor
  · rintro ⟨a, ⟨h1, h2⟩, h3⟩; exact ⟨a, h1, by simpa using h2, h3⟩
  · rintro ⟨a, h1, h2, h3⟩; exact ⟨a, ⟨h1, by simpa using h2⟩, h3⟩
/-- what a best answer gets against a grim machine -/
theorem grim_value {G : Gm} (hG : G.ok) {i j p : Nat} (hi : i < G.r) (hj : j < G.c) (hp : p = 0 ∨ p = 1) {f : Rat} (h0 : 0 ≤ f) (h1 : f < 1) {q : Nat → Nat}
    (hq : PolOk 2 (G.num p) q) (ho : ∀ k, k < 2 → ∀ c, c < G.num p → opt f (rm (G.mat p) (gmM G i j (1 - p))) (gmM G i j (1 - p)).nx q k c ≤ pv f (rm (G.mat p) (gmM G i j (1 - p))) (gmM G i j (1 - p)).nx q k) :
    pv f (rm (G.mat p) (gmM G i j (1 - p))) (gmM G i j (1 - p)).nx q 0 = (ownP G i j p : Rat) ↔ ∀ x, x ∈ othL G i j p → (1 - f) * (x : Rat) + f * (held G p : Rat) ≤ (ownP G i j p : Rat) := by
  have hp1 : 1 - (1 - p) = p := by omega
  have hmok := gmM_ok hG hi hj (1 - p) (by omega)
  rw [hp1] at hmok
  have fix := fun k (hk : k < 2) => pv_fix h0 h1 (m := rm (G.mat p) (gmM G i j (1 - p))) (fun k hk c hc => hmok.n k hk c hc) hq hk
  have r0 : ∀ c, rm (G.mat p) (gmM G i j (1 - p)) c 0 = (G.mat p c (own2 i j (1 - p)) : Rat) := fun c => by simp [rm, gmM]
  have r1 : ∀ c, rm (G.mat p) (gmM G i j (1 - p)) c 1 = (G.mat p c (pun G p) : Rat) := fun c => by simp [rm, gmM, hp1]
  have n0 : ∀ c, (gmM G i j (1 - p)).nx 0 c = if c = own2 i j p then 0 else 1 := fun c => by simp [gmM, hp1]
  have n1 : ∀ c, (gmM G i j (1 - p)).nx 1 c = 1 := fun c => by simp [gmM]
  have ol := own_lt hi hj p
  obtain ⟨_, pu, _⟩ := pun_spec hG p
  generalize gmM G i j (1 - p) = mc at *
  have o0 : ∀ c, opt f (rm (G.mat p) mc) mc.nx q 0 c = (1 - f) * (G.mat p c (own2 i j (1 - p)) : Rat) + f * pv f (rm (G.mat p) mc) mc.nx q (if c = own2 i j p then 0 else 1) := fun c => by
    unfold opt; rw [r0, n0]
  have o1 : ∀ c, opt f (rm (G.mat p) mc) mc.nx q 1 c = (1 - f) * (G.mat p c (pun G p) : Rat) + f * pv f (rm (G.mat p) mc) mc.nx q 1 := fun c => by
    unfold opt; rw [r1, n1]
  have f0 := fix 0 (by omega)
  have f1 := fix 1 (by omega)
  have b0 := ho 0 (by omega)
  have b1 := ho 1 (by omega)
  simp only [o0] at f0 b0
  simp only [o1] at f1 b1
  have hf1 : 0 < 1 - f := by grind
  generalize pv f (rm (G.mat p) mc) mc.nx q 0 = V0 at *
  have hV1 : pv f (rm (G.mat p) mc) mc.nx q 1 = (held G p : Rat) := by
    generalize pv f (rm (G.mat p) mc) mc.nx q 1 = V1 at *
    obtain ⟨a, ha, ea⟩ := wst_mem hG p (pun G p)
    rw [pu] at ea
    have up := b1 a ha
    rw [← ea] at up
    have lo : (G.mat p (q 1) (pun G p) : Rat) ≤ (held G p : Rat) := by
      rw [Rat.intCast_le_intCast, ← pu]
      exact wst_ge (hq 1 (by omega))
    have e1 : (1 - f) * V1 = (1 - f) * (G.mat p (q 1) (pun G p) : Rat) := by grind
    have e2 : V1 = (G.mat p (q 1) (pun G p) : Rat) := by
      rcases Rat.le_total (a := V1) (b := (G.mat p (q 1) (pun G p) : Rat)) with h | h
      · refine Rat.le_antisymm h (Rat.not_lt.mp fun hlt => ?_)
        have := Rat.mul_lt_mul_of_pos_left hlt hf1
        grind
      · refine Rat.le_antisymm (Rat.not_lt.mp fun hlt => ?_) h
        have := Rat.mul_lt_mul_of_pos_left hlt hf1
        grind
    refine Rat.le_antisymm (by rw [e2]; exact lo) (Rat.not_lt.mp fun hlt => ?_)
    have := Rat.mul_lt_mul_of_pos_left hlt hf1
    grind
  rw [hV1] at f1 b1
  have ow : (G.mat p (own2 i j p) (own2 i j (1 - p)) : Rat) = (ownP G i j p : Rat) := rfl
  have bo := b0 _ ol
  rw [if_pos rfl, ow] at bo
  have own_le : (ownP G i j p : Rat) ≤ V0 := Rat.not_lt.mp fun hlt => by
    have := Rat.mul_lt_mul_of_pos_left hlt hf1
    grind
  constructor
  · intro e x hx
    obtain ⟨a, ha, hne, rfl⟩ := oth_mem.mp hx
    have := b0 a ha
    rw [if_neg hne, hV1, e] at this
    exact this
  · intro hx
    by_cases hc : q 0 = own2 i j p
    · rw [hc, if_pos rfl, ow] at f0
      refine Rat.le_antisymm (Rat.not_lt.mp fun hlt => ?_) own_le
      have := Rat.mul_lt_mul_of_pos_left hlt hf1
      grind
    · rw [if_neg hc, hV1] at f0
      have := hx _ (oth_mem.mpr ⟨q 0, hq 0 (by omega), hc, rfl⟩)
      rw [← f0] at this
      exact Rat.le_antisymm this own_le
theorem lf_holds {G : Gm} (hG : G.ok) {i j p : Nat} {L : Rat} (hL : lf G i j p = some L) {f : Rat} (h0 : 0 ≤ f) (h1 : f < 1) :
    (∀ x, x ∈ othL G i j p → (1 - f) * (x : Rat) + f * (held G p : Rat) ≤ (ownP G i j p : Rat)) ↔ L ≤ f := by
  unfold lf at hL
  split at hL
  · rename_i hc
    simp at hL; subst hL
    refine ⟨fun _ => h0, fun _ x hx => ?_⟩
    rcases hc with hc | ⟨hc1, hc2⟩
    · rw [hc] at hx; cases hx
    · have := topL_ge hx
      have a1 : (x : Rat) ≤ (ownP G i j p : Rat) := by rw [Rat.intCast_le_intCast]; omega
      have a2 : (held G p : Rat) ≤ (ownP G i j p : Rat) := by rw [Rat.intCast_le_intCast]; omega
      have m1 := Rat.mul_le_mul_of_nonneg_left a1 (show 0 ≤ 1 - f by grind)
      have m2 := Rat.mul_le_mul_of_nonneg_left a2 h0
      grind
  · rename_i hc
    split at hL
    · cases hL
    · rename_i hh
      have he : othL G i j p ≠ [] := fun e => hc (.inl e)
      have ht : ownP G i j p < topL (othL G i j p) := by
        have : ¬ (topL (othL G i j p) ≤ ownP G i j p ∧ held G p ≤ ownP G i j p) := fun e => hc (.inr e)
        omega
      have pos : (0 : Rat) < ((topL (othL G i j p) - held G p : Int) : Rat) := by rw [Rat.intCast_pos]; omega
      have key : L ≤ f ↔ (1 - f) * (topL (othL G i j p) : Rat) + f * (held G p : Rat) ≤ (ownP G i j p : Rat) := by
        rw [Option.some.injEq, Rat.intCast_sub, Rat.intCast_sub] at hL
        rw [Rat.intCast_sub] at pos
        subst hL
        generalize (topL (othL G i j p) : Rat) = T at *
        generalize (ownP G i j p : Rat) = O at *
        generalize (held G p : Rat) = H at *
        constructor
        · intro h
          have h2 : ¬ f < (T - O) / (T - H) := Rat.not_lt.mpr h
          rw [Rat.lt_div_iff pos] at h2
          grind
        · intro h
          refine Rat.not_lt.mp fun hlt => ?_
          rw [Rat.lt_div_iff pos] at hlt
          grind
      rw [key]
      constructor
      · intro h
        exact h _ (topL_mem he)
      · intro h x hx
        have := topL_ge hx
        have a1 : (x : Rat) ≤ (topL (othL G i j p) : Rat) := by rw [Rat.intCast_le_intCast]; omega
        have m1 := Rat.mul_le_mul_of_nonneg_left a1 (show 0 ≤ 1 - f by grind)
        grind
theorem lf_eq {G : Gm} (hG : G.ok) {i j p : Nat} (hi : i < G.r) (hj : j < G.c) (hp : p = 0 ∨ p = 1) (h : (i, j) ∈ eqL G) : lf G i j p = some 0 := by
  have h2 := (List.mem_filter.mp h).2
  simp only [isEq, Bool.and_eq_true, decide_eq_true_eq] at h2
  have e : ownP G i j p = wst G p (own2 i j (1 - p)) := by
    rcases hp with rfl | rfl
    · exact h2.1
    · exact h2.2
  unfold lf
  rw [if_pos]
  by_cases he : othL G i j p = []
  · exact .inl he
  · refine .inr ⟨?_, ?_⟩
    · obtain ⟨a, ha, _, e2⟩ := oth_mem.mp (topL_mem he)
      rw [← e2, e]
      exact wst_ge ha
    · rw [e]
      exact lowL_le (List.mem_map.mpr ⟨_, List.mem_range.mpr (own_lt hi hj (1 - p)), rfl⟩)
end K87
end
section
set_option Elab.async false
set_option linter.all false
set_option maxRecDepth 100000
set_option maxHeartbeats 4000000
/-! k87, part B: what the law asks of what can be held. -/
namespace EW
open EV
def lpB (m : RS) (a b : Env → Store → RS) : RS := match m with
  | .ok (.nx r) S => a r S
  | .ok (.ct r) S => a r S
  | .ok (.bk r) S => b r S
  | x => x
theorem loop_cons (g : D → Env → MS) (x : D) (xs : List D) (r : Env) (S : Store) (k : Env → Store → RS) : bnd (EV.loop g (x :: xs) r S) k = lpB (g x r S) (fun r S => bnd (EV.loop g xs r S) k) k := by
  unfold lpB
  rw [EV.loop]
  dsimp only
  generalize g x r S = m
  cases m with
  | ok f S' => cases f <;> rfl
  | _ => rfl
@[simp] theorem loop_nil (g : D → Env → MS) (r : Env) (S : Store) (k : Env → Store → RS) : bnd (EV.loop g [] r S) k = k r S := rfl
@[simp] theorem lpB_nx (r : Env) (S : Store) (a b : Env → Store → RS) : lpB (.ok (.nx r) S) a b = a r S := rfl
@[simp] theorem lpB_rt (d : D) (S : Store) (a b : Env → Store → RS) : lpB (.ok (.rt d) S) a b = .ok (.rt d) S := rfl
theorem pst_lpB {m : RS} {a b : Env → Store → RS} {Q : Fl → Store → Prop} (h : Pst m fun f S => match f with | .nx r => Pst (a r S) Q | .ct r => Pst (a r S) Q | .bk r => Pst (b r S) Q | .rt d => Q (.rt d) S) : Pst (lpB m a b) Q := by
  obtain ⟨f, S, e, h⟩ := h
  rw [e]
  cases f with
  | rt d => exact ⟨_, _, rfl, h⟩
  | _ => exact h
end EW
namespace K87
open EV EW
def headS : Ss → S
  | .cons s _ => s
  | .nil => .pass
def bodyF : S → Ss
  | .for_ _ _ b => b
  | _ => .nil
/-- the turn of the law's own reckoning -/
def lst (G : Gm) (i j p : Nat) (prev : Option Rat) : Option Rat :=
  if othL G i j p ≠ [] ∧ (ownP G i j p < held G p ∨ (held G p = ownP G i j p ∧ ownP G i j p < topL (othL G i j p))) then none
  else match prev with
    | none => none
    | some x => if othL G i j p ≠ [] ∧ ownP G i j p < topL (othL G i j p) then some (if x < Rat.divInt (topL (othL G i j p) - ownP G i j p) (topL (othL G i j p) - held G p) then Rat.divInt (topL (othL G i j p) - ownP G i j p) (topL (othL G i j p) - held G p) else x) else some x
theorem lst_lf (G : Gm) (i j p : Nat) (x : Rat) (hx : 0 ≤ x) : lst G i j p (some x) = (lf G i j p).map fun L => if x < L then L else x := by
  have n0 : ¬ x < 0 := by grind
  unfold lst lf
  by_cases he : othL G i j p = []
  · simp [he, n0]
  · by_cases hc : topL (othL G i j p) ≤ ownP G i j p ∧ held G p ≤ ownP G i j p
    · rw [if_neg (by rintro ⟨_, h | h⟩ <;> omega), if_pos (.inr hc)]
      dsimp only
      rw [if_neg (by omega)]
      simp [n0]
    · rw [if_neg (c := othL G i j p = [] ∨ _) (by rintro (h | h); exact he h; exact hc h)]
      by_cases hh : ownP G i j p ≤ held G p
      · rw [if_pos hh, if_pos ⟨he, by omega⟩]; rfl
      · rw [if_neg hh, if_neg (by rintro ⟨_, h | h⟩ <;> omega)]
        dsimp only
        rw [if_pos ⟨he, by omega⟩, Rat.divInt_eq_div]
        rfl
theorem lst_gf {G : Gm} (hG : G.ok) (i j : Nat) : lst G i j 1 (lst G i j 0 (some 0)) = gf G i j := by
  rw [lst_lf G i j 0 0 Rat.le_refl]
  unfold gf
  cases h0 : lf G i j 0 with
  | none =>
    show lst G i j 1 none = none
    unfold lst
    split <;> rfl
  | some L =>
    have hL := lf_bd hG h0
    have e : (if (0 : Rat) < L then L else 0) = L := by
      split
      · rfl
      · have := hL.h0; grind
    show lst G i j 1 (some (if (0 : Rat) < L then L else 0)) = _
    rw [e, lst_lf G i j 1 L hL.h0]
    cases h1 : lf G i j 1 with
    | none => rfl
    | some L1 => rfl
def heldB : Ss := bodyF (headS (tailS 8 f54.body))
noncomputable def dueD (G : Gm) : D := .fl [.tup [.int (held G 0), .int (pun G 0)], .tup [.int (held G 1), .int (pun G 1)]]
theorem x_heldB (n : Nat) (G : Gm) (hG : G.ok) (i j : Nat) (hi : i < G.r) (hj : j < G.c) (p : Nat) (hp : p = 0 ∨ p = 1) (prev : Option Rat) (hx : ∀ x, prev = some x → Bd 16 x) (z : Int) (hz : z = p)
    (v4 v5 v7 v8 v12 v14 v15 v16 v17 v18 v19 v20 v21 v22 v23 : Option D) (Q : Fl → Store → Prop)
    (hQ : ∀ v14 v15 v19 v20, Q (.nx [some (gD G), some (oD G), some (.int i), some (.int j), v4, v5, some (dueD G), v7, v8, some (.int z), some (.int G.r), some (.int G.c), v12, some (optF (lst G i j p prev)), v14, v15, v16, v17, v18, v19, v20, v21, v22, v23]) []) :
    Pst (evalSs (callF fs gl (n + 9)) gl heldB [some (gD G), some (oD G), some (.int i), some (.int j), v4, v5, some (dueD G), v7, v8, some (.int z), some (.int G.r), some (.int G.c), v12, some (optF prev), v14, v15, v16, v17, v18, v19, v20, v21, v22, v23] []) Q := by
  have gp : getI (gD G) (.int p) = M.ret (lI G.r G.c (G.pay p)) := by rcases hp with rfl | rfl <;> rfl
  have gA : getI (gD G) (.int 0) = M.ret (lI G.r G.c G.A) := rfl
  have gB : getI (gD G) (.int 1) = M.ret (lI G.r G.c G.B) := rfl
  have dg : getI (dueD G) (.int p) = M.ret (.tup [.int (held G p), .int (pun G p)]) := by rcases hp with rfl | rfl <;> rfl
  have r5 := hG.r5
  have c5 := hG.c5
  have ei : ∀ a : Nat, ((a : Int) = (i : Nat)) ↔ a = i := fun a => by omega
  have ej : ∀ a : Nat, ((a : Int) = (j : Nat)) ↔ a = j := fun a => by omega
  have ho0 : D.fl (((List.range G.r).filter fun a => !decide (a = i)).map fun a => D.int (G.A a j)) = .fl ((othL G i j 0).map D.int) := by
    rw [othL, List.map_map]; rfl
  have ho1 : D.fl (((List.range G.c).filter fun a => !decide (a = j)).map fun a => D.int (G.B i a)) = .fl ((othL G i j 1).map D.int) := by
    rw [othL, List.map_map]; rfl
  have hown : G.pay p i j = ownP G i j p := by rcases hp with rfl | rfl <;> rfl
  subst hz
  dsimp only [heldB, headS, bodyF, tailS, f54]
  (rw [zz_cons]; simp -implicitDefEqProofs (disch := first | assumption | omega) [evalS, evalE, evalEs, evalL, evalI, evalC, EV.T.bind, wipe, MS.ok, M.seq_ret, line, isSub, ret_app, count_range, numbered_range, pairs_range, collect_N, collect_F, collect2_N, collect, zz_nil, gp, hown])
  have stO : ∀ (r : Env) (k : D → MS), lift (evalE (callF fs gl (n + 9)) gl (.ite (.cmp .eq (.var 9) (.int 0)) (.fl (.comp (.idx (.idx (.idx (.var 0) (.int 0)) (.var 22)) (.var 3)) [22] (.name 22) (.rng (.var 10)) (.cons (.cmp .ne (.var 22) (.var 2)) .nil))) (.fl (.comp (.idx (.idx (.idx (.var 0) (.int 1)) (.var 2)) (.var 21)) [21] (.name 21) (.rng (.var 11)) (.cons (.cmp .ne (.var 21) (.var 3)) .nil)))) [some (gD G), some (oD G), some (.int i), some (.int j), v4, v5, some (dueD G), v7, v8, some (.int p), some (.int G.r), some (.int G.c), v12, some (optF prev), some (.int (ownP G i j p)), v15, v16, v17, v18, v19, v20, v21, v22, v23]) r k = k (.fl ((othL G i j p).map D.int)) := by
    intro r k
    rcases hp with rfl | rfl
    · simp -implicitDefEqProofs (disch := first | assumption | omega) [evalS, evalE, evalEs, evalL, evalI, evalC, EV.T.bind, wipe, MS.ok, M.seq_ret, line, isSub, ret_app, count_range, numbered_range, pairs_range, collect_N, collect_F, collect2_N, collect, zz_nil, gA, gB, ei, ej, ho0, ho1]
    · simp -implicitDefEqProofs (disch := first | assumption | omega) [evalS, evalE, evalEs, evalL, evalI, evalC, EV.T.bind, wipe, MS.ok, M.seq_ret, line, isSub, ret_app, count_range, numbered_range, pairs_range, collect_N, collect_F, collect2_N, collect, zz_nil, gA, gB, ei, ej, ho0, ho1]
  rw [zz_cons]
  simp only [evalS, stO]
  simp -implicitDefEqProofs (disch := first | assumption | omega) [evalS, evalE, evalEs, evalL, evalI, evalC, EV.T.bind, wipe, MS.ok, M.seq_ret, line, isSub, ret_app, count_range, numbered_range, pairs_range, collect_N, collect_F, collect2_N, collect, zz_nil]
  have ob := oth_bd hG i j p
  have hb := held_bd hG p
  have wb : (ownP G i j p).natAbs ≤ 100 := mat_le hG _ _ _
  have hne : cm .ne (.fl ((othL G i j p).map D.int)) (.fl []) = M.ret (.bl (!decide (othL G i j p = []))) := by
    have dI : ∀ xs : List Int, D.deeps 29 (xs.map D.int) = true := by
      intro xs
      induction xs with
      | nil => rfl
      | cons x xs ih => rw [List.map_cons, deeps_cons, ih]; rfl
    rw [EW.cm_ne (show D.deep 30 (.fl ((othL G i j p).map D.int)) = true from dI _) rfl]
    cases othL G i j p with
    | nil => rfl
    | cons x xs => simp [D.eq, D.eqs]
  have nn : ∀ x : Option Rat, cm .notN (optF x) .non = M.ret (.bl x.isSome) := fun x => by cases x <;> rfl
  by_cases he : othL G i j p = []
  · have hl : lst G i j p prev = prev := by
      unfold lst
      rw [if_neg (by rintro ⟨h, _⟩; exact h he)]
      cases prev with
      | none => rfl
      | some x => dsimp only; rw [if_neg (by rintro ⟨h, _⟩; exact h he)]
    rw [hl] at hQ
    rw [he] at hne
    simp only [List.map_nil] at hne
    simp only [he, List.map_nil]
    have hlt : ¬ ownP G i j p < ownP G i j p - 1 := by omega
    (rw [zz_cons]; simp -implicitDefEqProofs (disch := first | assumption | omega) [evalS, evalE, evalEs, evalL, evalI, evalC, EV.T.bind, wipe, MS.ok, M.seq_ret, line, isSub, ret_app, count_range, numbered_range, pairs_range, collect_N, collect_F, collect2_N, collect, zz_nil, hne, dg])
    (rw [zz_cons]; simp -implicitDefEqProofs (disch := first | assumption | omega) [evalS, evalE, evalEs, evalL, evalI, evalC, EV.T.bind, wipe, MS.ok, M.seq_ret, line, isSub, ret_app, count_range, numbered_range, pairs_range, collect_N, collect_F, collect2_N, collect, zz_nil, hne])
    (rw [zz_cons]; simp -implicitDefEqProofs (disch := first | assumption | omega) [evalS, evalE, evalEs, evalL, evalI, evalC, EV.T.bind, wipe, MS.ok, M.seq_ret, line, isSub, ret_app, count_range, numbered_range, pairs_range, collect_N, collect_F, collect2_N, collect, zz_nil, nn, hlt])
    cases prev with
    | none => exact Pst.ok (hQ _ _ _ _)
    | some x => exact Pst.ok (hQ _ _ _ _)
  · have hm := max_fl he
    have tb := topL_bd he ob
    rw [decide_eq_false he] at hne
    have hl0 : lst G i j p prev = if ownP G i j p < held G p ∨ (held G p = ownP G i j p ∧ ownP G i j p < topL (othL G i j p)) then none else match prev with | none => none | some x => if ownP G i j p < topL (othL G i j p) then some (if x < Rat.divInt (topL (othL G i j p) - ownP G i j p) (topL (othL G i j p) - held G p) then Rat.divInt (topL (othL G i j p) - ownP G i j p) (topL (othL G i j p) - held G p) else x) else some x := by
      unfold lst
      simp only [ne_eq, he, not_false_eq_true, true_and]
    rw [hl0] at hQ
    generalize topL (othL G i j p) = T at *
    generalize ownP G i j p = W at *
    generalize held G p = H at *
    (rw [zz_cons]; simp -implicitDefEqProofs (disch := first | assumption | omega) [evalS, evalE, evalEs, evalL, evalI, evalC, EV.T.bind, wipe, MS.ok, M.seq_ret, line, isSub, ret_app, count_range, numbered_range, pairs_range, collect_N, collect_F, collect2_N, collect, zz_nil, hne, hm, dg])
    by_cases hc : W < H ∨ (H = W ∧ W < T)
    · rw [if_pos hc] at hQ
      (rw [zz_cons]; simp -implicitDefEqProofs (disch := first | assumption | omega) [evalS, evalE, evalEs, evalL, evalI, evalC, EV.T.bind, wipe, MS.ok, M.seq_ret, line, isSub, ret_app, count_range, numbered_range, pairs_range, collect_N, collect_F, collect2_N, collect, zz_nil, hne, hc])
      (rw [zz_cons]; simp -implicitDefEqProofs (disch := first | assumption | omega) [evalS, evalE, evalEs, evalL, evalI, evalC, EV.T.bind, wipe, MS.ok, M.seq_ret, line, isSub, ret_app, count_range, numbered_range, pairs_range, collect_N, collect_F, collect2_N, collect, zz_nil])
      exact Pst.ok (hQ _ _ _ _)
    · rw [if_neg hc] at hQ
      (rw [zz_cons]; simp -implicitDefEqProofs (disch := first | assumption | omega) [evalS, evalE, evalEs, evalL, evalI, evalC, EV.T.bind, wipe, MS.ok, M.seq_ret, line, isSub, ret_app, count_range, numbered_range, pairs_range, collect_N, collect_F, collect2_N, collect, zz_nil, hne, hc])
      cases prev with
      | none =>
        (rw [zz_cons]; simp -implicitDefEqProofs (disch := first | assumption | omega) [evalS, evalE, evalEs, evalL, evalI, evalC, EV.T.bind, wipe, MS.ok, M.seq_ret, line, isSub, ret_app, count_range, numbered_range, pairs_range, collect_N, collect_F, collect2_N, collect, zz_nil, nn])
        exact Pst.ok (hQ _ _ _ _)
      | some x =>
        dsimp only at hQ
        by_cases ht : W < T
        · rw [if_pos ht] at hQ
          have q1 := y_low (n + 7) 8 (T - W) (T - H) (by omega) (by omega) (by omega)
          have bx := hx x rfl
          have bd : Bd 8 (Rat.divInt (T - W) (T - H)) := bd_divInt (by omega) (by omega) (by omega)
          have q2 := y_greatest (n + 7) 2 16 (fun k => if k = 0 then x else Rat.divInt (T - W) (T - H)) (by omega) (fun k hk => by split; exact bx; exact bd.mono (by omega)) (by omega)
          have e : gm (fun k => if k = 0 then x else Rat.divInt (T - W) (T - H)) 2 = if x < Rat.divInt (T - W) (T - H) then Rat.divInt (T - W) (T - H) else x := by
            have : ¬ x < x := by grind
            simp [gm, this]
          rw [e] at q2
          have q2' : callR (callF fs gl (n + 9) 37) [.fl [fr x, fr (Rat.divInt (T - W) (T - H))]] = _ := q2
          (rw [zz_cons]; simp -implicitDefEqProofs (disch := first | assumption | omega) [evalS, evalE, evalEs, evalL, evalI, evalC, EV.T.bind, wipe, MS.ok, M.seq_ret, line, isSub, ret_app, count_range, numbered_range, pairs_range, collect_N, collect_F, collect2_N, collect, zz_nil, nn, ht])
          simp only [optF]
          (rw [zz_cons]; simp -implicitDefEqProofs (disch := first | assumption | omega) [evalS, evalE, evalEs, evalL, evalI, evalC, EV.T.bind, wipe, MS.ok, M.seq_ret, line, isSub, ret_app, count_range, numbered_range, pairs_range, collect_N, collect_F, collect2_N, collect, zz_nil, q1, q2'])
          exact Pst.ok (hQ _ _ _ _)
        · rw [if_neg ht] at hQ
          (rw [zz_cons]; simp -implicitDefEqProofs (disch := first | assumption | omega) [evalS, evalE, evalEs, evalL, evalI, evalC, EV.T.bind, wipe, MS.ok, M.seq_ret, line, isSub, ret_app, count_range, numbered_range, pairs_range, collect_N, collect_F, collect2_N, collect, zz_nil, nn, ht])
          exact Pst.ok (hQ _ _ _ _)
end K87
end
section
set_option Elab.async false
set_option linter.all false
set_option maxRecDepth 100000
set_option maxHeartbeats 4000000
/-! k87, part C: what can be held. -/
namespace K87
open EV EW
theorem gf_eq {G : Gm} (hG : G.ok) {i j : Nat} (hi : i < G.r) (hj : j < G.c) (h : (i, j) ∈ eqL G) : gf G i j = some 0 := by
  unfold gf
  rw [lf_eq hG hi hj (.inl rfl) h, lf_eq hG hi hj (.inr rfl) h]
  have : ¬ (0 : Rat) < 0 := by grind
  simp [this]
theorem mem_bl (L : List (Nat × Nat)) (i j : Nat) : cm .mem (.tup [.int i, .int j]) (bl L) = M.ret (.bl (decide ((i, j) ∈ L))) := by
  have hd : D.deeps 30 (L.map pD) = true := deeps_pD 28 L
  rw [bl, cm_mem_fl rfl hd]
  congr 2
  unfold memD
  induction L with
  | nil => rfl
  | cons y ys ih =>
    rw [List.map_cons, List.any_cons, ih (deeps_pD 28 ys)]
    have : D.eq (pD y) (.tup [.int i, .int j]) = decide (y = (i, j)) := eq_pD y (i, j)
    rw [this]
    by_cases h : y = (i, j)
    · simp [h]
    · have h' : ¬ (i, j) = y := fun e => h e.symm
      simp [h, h']
/-- the value of a best answer to a grim machine is the pair's payoff, or not -/
theorem best_grim {G : Gm} (hG : G.ok) {i j p : Nat} (hi : i < G.r) (hj : j < G.c) (hp : p = 0 ∨ p = 1) {L : Rat} (hL : lf G i j p = some L) {b : Nat} {f : Rat} (hf : Fac b f) :
    ∃ V D', (V = (ownP G i j p : Rat) ↔ L ≤ f) ∧ ∀ n, callR (callF fs gl (n + 7) 53) [oD G, .int p, mD (G.num p) (gmM G i j (1 - p)), fr f] = M.ret (.tup [fr V, D']) := by
  have hmok := gmM_ok hG hi hj (1 - p) (by omega)
  rw [show 1 - (1 - p) = p by omega] at hmok
  obtain ⟨q, hq, ho, _, e⟩ := x_best G hG p hp (gmM G i j (1 - p)) hmok hf
  exact ⟨_, _, (grim_value hG hi hj hp hf.h0 hf.h1 hq ho).trans (lf_holds hG hL hf.h0 hf.h1), e⟩
theorem x_held (n : Nat) (G : Gm) (hG : G.ok) (i j : Nat) (hi : i < G.r) (hj : j < G.c) :
    callR (callF fs gl (n + 10) 54) [gD G, oD G, .int i, .int j, bl (eqL G)] = M.ret (.bl true) := by
  have r1 := hG.r1
  have r5 := hG.r5
  have c1 := hG.c1
  have c5 := hG.c5
  obtain ⟨pu0, _, _⟩ := pun_spec hG 0
  obtain ⟨pu1, _, _⟩ := pun_spec hG 1
  have gA : getI (gD G) (.int 0) = M.ret (lI G.r G.c G.A) := rfl
  have gB : getI (gD G) (.int 1) = M.ret (lI G.r G.c G.B) := rfl
  have w0 : ∀ b, topL ((List.range G.r).map fun a => G.A a b) = wst G 0 b := fun b => rfl
  have w1 : ∀ a, topL ((List.range G.c).map fun b => G.B a b) = wst G 1 a := fun b => rfl
  have m0 : bi .min [ls G.c fun b => .int (wst G 0 b)] = M.ret (.int (held G 0)) := min_ls _ c1
  have m1 : bi .min [ls G.r fun b => .int (wst G 1 b)] = M.ret (.int (held G 1)) := min_ls _ r1
  have x0 : idxD (ls G.c fun b => .int (wst G 0 b)) (M.ret (.int (held G 0))) = M.ret (.int (pun G 0)) := by
    obtain ⟨p1, p2, p3⟩ := pun_spec hG 0
    exact idxD_ls (by simp) (fun i => by simp) (by rw [eq_int, decide_eq_true_iff]; exact p2) p1 (fun k hk => by rw [eq_int, decide_eq_false_iff_not]; exact p3 k hk)
  have x1 : idxD (ls G.r fun b => .int (wst G 1 b)) (M.ret (.int (held G 1))) = M.ret (.int (pun G 1)) := by
    obtain ⟨p1, p2, p3⟩ := pun_spec hG 1
    exact idxD_ls (by simp) (fun i => by simp) (by rw [eq_int, decide_eq_true_iff]; exact p2) p1 (fun k hk => by rw [eq_int, decide_eq_false_iff_not]; exact p3 k hk)
  have q0 := x_pun (n + 5) G hG 0 (.inl rfl)
  have q1 := x_pun (n + 5) G hG 1 (.inr rfl)
  simp only [Int.natCast_zero] at q0
  simp only [Int.natCast_one] at q1
  have s1 := y_same 6 (dueD G) (by simp [dueD]) (n + 3)
  have sp : dueD G = .fl [.tup [.int (held G 0), .int (pun G 0)], .tup [.int (held G 1), .int (pun G 1)]] := rfl
  have q2 := x_grim (n + 3) G hG i j hi hj
  have q2' : callR (callF fs gl (n + 9) 35) [oD G, .tup [.int i, .int j]] = _ := q2
  have q3 := x_gf (n + 3) G hG i j hi hj
  have q3' : callR (callF fs gl (n + 9) 32) [oD G, .tup [.int i, .int j]] = _ := q3
  have k0 := gmM_ok hG hi hj 0 (.inl rfl)
  have k1 := gmM_ok hG hi hj 1 (.inr rfl)
  have eF : D.tup [.tup [.int i, tb G.c fun b => .int (if b = j then 0 else 1)], .tup [.int (pun G 1), tb G.c fun _ => .int 1]] = mD G.c (gmM G i j 0) := by
    show _ = D.tup [stD _ _ 0, stD _ _ 1]
    simp only [stD, gmM, own2]
    have : (fun b : Nat => D.int (if b = j then 0 else 1)) = fun b : Nat => D.int ((if b = j then 0 else 1 : Nat) : Int) := by
      funext b; split <;> rfl
    rw [this]
    simp
  have eS : D.tup [.tup [.int j, tb G.r fun b => .int (if b = i then 0 else 1)], .tup [.int (pun G 0), tb G.r fun _ => .int 1]] = mD G.r (gmM G i j 1) := by
    show _ = D.tup [stD _ _ 0, stD _ _ 1]
    simp only [stD, gmM, own2]
    have : (fun b : Nat => D.int (if b = i then 0 else 1)) = fun b : Nat => D.int ((if b = i then 0 else 1 : Nat) : Int) := by
      funext b; split <;> rfl
    rw [this]
    simp
  have ei : ∀ a : Nat, ((a : Int) = (i : Nat)) ↔ a = i := fun a => by omega
  have ej : ∀ a : Nat, ((a : Int) = (j : Nat)) ↔ a = j := fun a => by omega
  have s2 := y_same 6 (.fl [.tup [mD G.c (gmM G i j 0), mD G.r (gmM G i j 1)], .tup [mD G.c (gmM G i j 0), mD G.r (gmM G i j 1)]]) (by
    have a1 := sg_mD (n := 0) k0 c5
    have a2 := sg_mD (n := 0) k1 r5
    simp only [Nat.sub_zero, num1] at a1
    simp only [Nat.sub_self, num0] at a2
    simp [a1, a2]) (n + 3)
  have s3 := y_same 6 (.fl [optF (gf G i j), optF (gf G i j)]) (by simp) (n + 3)
  refine ev_of f54 rfl rfl (by simp) rfl ?_
  have hbody : f54.body = .cons _ (.cons _ (.cons _ (.cons _ (.cons _ (.cons _ (.cons _ (.cons _ (.cons (.for_ (.name 9) (.e (.tup (.cons (.int 0) (.cons (.int 1) .nil)))) heldB) (tailS 9 f54.body))))))))) := rfl
  rw [hbody]
  dsimp only [f54, start]
  (rw [zz_cons]; simp -implicitDefEqProofs (disch := first | assumption | omega) [evalS, evalE, evalEs, evalL, evalI, evalC, EV.T.bind, wipe, MS.ok, M.seq_ret, line, isSub, ret_app, count_range, numbered_range, pairs_range, collect_N, collect_F, collect2_N, collect, zz_nil, gA])
  (rw [zz_cons]; simp -implicitDefEqProofs (disch := first | assumption | omega) [evalS, evalE, evalEs, evalL, evalI, evalC, EV.T.bind, wipe, MS.ok, M.seq_ret, line, isSub, ret_app, count_range, numbered_range, pairs_range, collect_N, collect_F, collect2_N, collect, zz_nil, gA, gB, w0, w1])
  (rw [zz_cons]; simp -implicitDefEqProofs (disch := first | assumption | omega) [evalS, evalE, evalEs, evalL, evalI, evalC, EV.T.bind, wipe, MS.ok, M.seq_ret, line, isSub, ret_app, count_range, numbered_range, pairs_range, collect_N, collect_F, collect2_N, collect, zz_nil, m0, m1, x0, x1])
  rw [← sp]
  (rw [zz_cons]; simp -implicitDefEqProofs (disch := first | assumption | omega) [evalS, evalE, evalEs, evalL, evalI, evalC, EV.T.bind, wipe, MS.ok, M.seq_ret, line, isSub, ret_app, count_range, numbered_range, pairs_range, collect_N, collect_F, collect2_N, collect, zz_nil, q0, q1])
  rw [← sp]
  have dg0 : getI (dueD G) (.int 0) = M.ret (.tup [.int (held G 0), .int (pun G 0)]) := rfl
  have dg1 : getI (dueD G) (.int 1) = M.ret (.tup [.int (held G 1), .int (pun G 1)]) := rfl
  have e00 : D.tup [.int 0, .int 1] = optF (some 0) := rfl
  simp -implicitDefEqProofs (disch := first | assumption | omega) [evalS, evalE, evalEs, evalL, evalI, evalC, EV.T.bind, wipe, MS.ok, M.seq_ret, line, isSub, ret_app, count_range, numbered_range, pairs_range, collect_N, collect_F, collect2_N, collect, zz_nil, s1]
  (rw [zz_cons]; simp -implicitDefEqProofs (disch := first | assumption | omega) [evalS, evalE, evalEs, evalL, evalI, evalC, EV.T.bind, wipe, MS.ok, M.seq_ret, line, isSub, ret_app, count_range, numbered_range, pairs_range, collect_N, collect_F, collect2_N, collect, zz_nil, ej, dg1, eF])
  (rw [zz_cons]; simp -implicitDefEqProofs (disch := first | assumption | omega) [evalS, evalE, evalEs, evalL, evalI, evalC, EV.T.bind, wipe, MS.ok, M.seq_ret, line, isSub, ret_app, count_range, numbered_range, pairs_range, collect_N, collect_F, collect2_N, collect, zz_nil, ei, dg0, eS])
  (rw [zz_cons]; simp -implicitDefEqProofs (disch := first | assumption | omega) [evalS, evalE, evalEs, evalL, evalI, evalC, EV.T.bind, wipe, MS.ok, M.seq_ret, line, isSub, ret_app, count_range, numbered_range, pairs_range, collect_N, collect_F, collect2_N, collect, zz_nil, q2'])
  have rep2 : ∀ d : D, op2 .mul (.fl [d]) (.int 2) = M.ret (.fl [d, d]) := fun d => op2_rep_fl (k := 2) (by omega) (by simp)
  simp -implicitDefEqProofs (disch := first | assumption | omega) [evalS, evalE, evalEs, evalL, evalI, evalC, EV.T.bind, wipe, MS.ok, M.seq_ret, line, isSub, ret_app, count_range, numbered_range, pairs_range, collect_N, collect_F, collect2_N, collect, zz_nil, rep2, s2]
  (rw [zz_cons]; simp -implicitDefEqProofs (disch := first | assumption | omega) [evalS, evalE, evalEs, evalL, evalI, evalC, EV.T.bind, wipe, MS.ok, M.seq_ret, line, isSub, ret_app, count_range, numbered_range, pairs_range, collect_N, collect_F, collect2_N, collect, zz_nil, q3', e00])
  (rw [zz_cons]; simp -implicitDefEqProofs (disch := first | assumption | omega) [evalS, evalE, evalEs, evalL, evalI, evalC, EV.T.bind, wipe, MS.ok, M.seq_ret, line, isSub, ret_app, count_range, numbered_range, pairs_range, collect_N, collect_F, collect2_N, collect, zz_nil])
  rw [loop_cons]
  simp only [EV.T.bind, List.length_cons, List.length_nil, List.set_cons_succ, List.set_cons_zero, Nat.reduceAdd, Nat.reduceLT, if_true, ite_true, Option.bind_some]
  refine pst_lpB (x_heldB n G hG i j hi hj 0 (.inl rfl) (some 0) (fun x h => by cases h; exact bd_zero.mono (by omega)) 0 rfl _ _ _ _ _ _ _ _ _ _ _ _ _ _ _ _ fun v14 v15 v19 v20 => ?_)
  dsimp only
  rw [loop_cons]
  simp only [EV.T.bind, List.length_cons, List.length_nil, List.set_cons_succ, List.set_cons_zero, Nat.reduceAdd, Nat.reduceLT, if_true, ite_true, Option.bind_some]
  have b1 : ∀ x, lst G i j 0 (some 0) = some x → Bd 16 x := fun x h => by
    rw [lst_lf G i j 0 0 Rat.le_refl] at h
    cases h0 : lf G i j 0 with
    | none => rw [h0] at h; cases h
    | some L =>
      rw [h0] at h
      simp at h
      subst h
      split
      · exact (lf_bd hG h0).b
      · exact bd_zero.mono (by omega)
  refine pst_lpB (x_heldB n G hG i j hi hj 1 (.inr rfl) _ b1 1 rfl _ _ _ _ _ _ _ _ _ _ _ _ _ _ _ _ fun v14 v15 v19 v20 => ?_)
  dsimp only
  rw [loop_nil, lst_gf hG i j]
  dsimp only [tailS]
  (rw [zz_cons]; simp -implicitDefEqProofs (disch := first | assumption | omega) [evalS, evalE, evalEs, evalL, evalI, evalC, EV.T.bind, wipe, MS.ok, M.seq_ret, line, isSub, ret_app, count_range, numbered_range, pairs_range, collect_N, collect_F, collect2_N, collect, zz_nil, q3', s3])
  have hmem := mem_bl (eqL G) i j
  have hne0 : cm .ne (optF (gf G i j)) (.tup [.int 0, .int 1]) = M.ret (.bl (!decide (gf G i j = some 0))) := by
    rw [e00, EW.cm_ne (by cases gf G i j <;> simp [optF]) (by simp [optF])]
    cases gf G i j with
    | none => simp [optF, fr, D.eq]
    | some x => simp only [optF, eq_fr, Option.some.injEq]
  have hcond : (decide ((i, j) ∈ eqL G) && !decide (gf G i j = some 0)) = false := by
    by_cases h : (i, j) ∈ eqL G
    · simp [gf_eq hG hi hj h]
    · simp [h]
  have hcond2 : ¬ ((i, j) ∈ eqL G ∧ ¬ gf G i j = some 0) := fun ⟨h1, h2⟩ => h2 (gf_eq hG hi hj h1)
  (rw [zz_cons]; simp -implicitDefEqProofs (disch := first | assumption | omega) [evalS, evalE, evalEs, evalL, evalI, evalC, EV.T.bind, wipe, MS.ok, M.seq_ret, line, isSub, ret_app, count_range, numbered_range, pairs_range, collect_N, collect_F, collect2_N, collect, zz_nil, hmem, hne0, hcond2])
  cases hgf : gf G i j with
  | none =>
    simp only [optF]
    (rw [zz_cons]; simp -implicitDefEqProofs (disch := first | assumption | omega) [evalS, evalE, evalEs, evalL, evalI, evalC, EV.T.bind, wipe, MS.ok, M.seq_ret, line, isSub, ret_app, count_range, numbered_range, pairs_range, collect_N, collect_F, collect2_N, collect, zz_nil])
    (rw [zz_cons]; simp -implicitDefEqProofs (disch := first | assumption | omega) [evalS, evalE, evalEs, evalL, evalI, evalC, EV.T.bind, wipe, MS.ok, M.seq_ret, line, isSub, ret_app, count_range, numbered_range, pairs_range, collect_N, collect_F, collect2_N, collect, zz_nil])
    exact ret_rt (by first | rfl | simp)
  | some x =>
    have hfx := gf_bd hG hgf
    obtain ⟨L0, L1, hL0, hL1, hx⟩ : ∃ L0 L1, lf G i j 0 = some L0 ∧ lf G i j 1 = some L1 ∧ x = if L0 < L1 then L1 else L0 := by
      unfold gf at hgf
      cases h0 : lf G i j 0 with
      | none => rw [h0] at hgf; cases hgf
      | some a =>
        cases h1 : lf G i j 1 with
        | none => rw [h0, h1] at hgf; cases hgf
        | some b => rw [h0, h1] at hgf; simp at hgf; exact ⟨a, b, rfl, rfl, hgf.symm⟩
    have le0 : L0 ≤ x := by rw [hx]; split <;> grind
    have le1 : L1 ≤ x := by rw [hx]; split <;> grind
    have eI : ∀ z : Int, D.tup [.int z, .int 1] = fr (z : Rat) := fun z => rfl
    have nb : cm .isN (fr x) .non = M.ret (.bl false) := rfl
    obtain ⟨V0, D0, hV0, q50⟩ := best_grim hG hi hj (.inl rfl) hL0 hfx
    obtain ⟨V1, D1, hV1, q51⟩ := best_grim hG hi hj (.inr rfl) hL1 hfx
    have q50' : callR (callF fs gl (n + 9) 53) [oD G, .int 0, mD G.r (gmM G i j 1), fr x] = _ := q50 (n + 2)
    have q51' : callR (callF fs gl (n + 9) 53) [oD G, .int 1, mD G.c (gmM G i j 0), fr x] = _ := q51 (n + 2)
    have v0 : V0 = (G.A i j : Rat) := hV0.mpr le0
    have v1 : V1 = (G.B i j : Rat) := hV1.mpr le1
    simp only [optF]
    (rw [zz_cons]; simp -implicitDefEqProofs (disch := first | assumption | omega) [evalS, evalE, evalEs, evalL, evalI, evalC, EV.T.bind, wipe, MS.ok, M.seq_ret, line, isSub, ret_app, count_range, numbered_range, pairs_range, collect_N, collect_F, collect2_N, collect, zz_nil, nb])
    (rw [zz_cons]; simp -implicitDefEqProofs (disch := first | assumption | omega) [evalS, evalE, evalEs, evalL, evalI, evalC, EV.T.bind, wipe, MS.ok, M.seq_ret, line, isSub, ret_app, count_range, numbered_range, pairs_range, collect_N, collect_F, collect2_N, collect, zz_nil])
    rw [loop_cons]
    simp only [EV.T.bind, List.length_cons, List.length_nil, List.set_cons_succ, List.set_cons_zero, Nat.reduceAdd, Nat.reduceLT, if_true, ite_true, Option.bind_some]
    (rw [zz_cons]; simp -implicitDefEqProofs (disch := first | assumption | omega) [evalS, evalE, evalEs, evalL, evalI, evalC, EV.T.bind, wipe, MS.ok, M.seq_ret, line, isSub, ret_app, count_range, numbered_range, pairs_range, collect_N, collect_F, collect2_N, collect, zz_nil, q50', gA, eI, v0])
    rw [loop_cons]
    simp only [EV.T.bind, List.length_cons, List.length_nil, List.set_cons_succ, List.set_cons_zero, Nat.reduceAdd, Nat.reduceLT, if_true, ite_true, Option.bind_some]
    (rw [zz_cons]; simp -implicitDefEqProofs (disch := first | assumption | omega) [evalS, evalE, evalEs, evalL, evalI, evalC, EV.T.bind, wipe, MS.ok, M.seq_ret, line, isSub, ret_app, count_range, numbered_range, pairs_range, collect_N, collect_F, collect2_N, collect, zz_nil, q51', gB, eI, v1])
    by_cases hx0 : 0 < x
    · have hn : (0 : Int) < x.num := num_pos hx0
      have e99 : D.tup [.int 99, .int 100] = fr (Rat.divInt 99 100) := fr_lit 99 100 (by omega) (by decide)
      have b99 : Bd 7 (Rat.divInt 99 100) := bd_divInt (by omega) (by omega) (by omega)
      have v99 : Rat.divInt 99 100 = (99 : Rat) / 100 := by rw [Rat.divInt_eq_div]; rfl
      have qn := y_mul (n + 6) hfx.b b99 (by omega)
      have nlt : x * Rat.divInt 99 100 < x := by rw [v99]; grind
      have hfn : Fac 24 (x * Rat.divInt 99 100) := ⟨by rw [v99]; grind, by have := hfx.h1; grind, (bd_mul hfx.b b99).mono (by omega), by omega, by omega⟩
      generalize x * Rat.divInt 99 100 = y at *
      obtain ⟨U0, E0, hU0, p50⟩ := best_grim hG hi hj (.inl rfl) hL0 hfn
      obtain ⟨U1, E1, hU1, p51⟩ := best_grim hG hi hj (.inr rfl) hL1 hfn
      have p50' : callR (callF fs gl (n + 9) 53) [oD G, .int 0, mD G.r (gmM G i j 1), fr y] = _ := p50 (n + 2)
      have p51' : callR (callF fs gl (n + 9) 53) [oD G, .int 1, mD G.c (gmM G i j 0), fr y] = _ := p51 (n + 2)
      have oA : (ownP G i j 0 : Rat) = (G.A i j : Rat) := rfl
      have oB : (ownP G i j 1 : Rat) = (G.B i j : Rat) := rfl
      rw [oA] at hU0
      rw [oB] at hU1
      have some_ne : ¬ (U0 = (G.A i j : Rat) ∧ U1 = (G.B i j : Rat)) := by
        rintro ⟨h1, h2⟩
        have a1 := hU0.mp h1
        have a2 := hU1.mp h2
        rw [hx] at nlt
        split at nlt <;> grind
      have cn1 : cm .ne (.fl [.int 0]) (.fl []) = M.ret (.bl true) := rfl
      have cn2 : cm .ne (.fl [.int 1]) (.fl []) = M.ret (.bl true) := rfl
      have cn3 : cm .ne (.fl [.int 0, .int 1]) (.fl []) = M.ret (.bl true) := rfl
      (rw [zz_cons]; simp -implicitDefEqProofs (disch := first | assumption | omega) [evalS, evalE, evalEs, evalL, evalI, evalC, EV.T.bind, wipe, MS.ok, M.seq_ret, line, isSub, ret_app, count_range, numbered_range, pairs_range, collect_N, collect_F, collect2_N, collect, zz_nil, hn])
      (rw [zz_cons]; simp -implicitDefEqProofs (disch := first | assumption | omega) [evalS, evalE, evalEs, evalL, evalI, evalC, EV.T.bind, wipe, MS.ok, M.seq_ret, line, isSub, ret_app, count_range, numbered_range, pairs_range, collect_N, collect_F, collect2_N, collect, zz_nil, e99, qn])
      by_cases u0 : U0 = (G.A i j : Rat)
      · have u1 : ¬ U1 = (G.B i j : Rat) := fun h => some_ne ⟨u0, h⟩
        (rw [zz_cons]; simp -implicitDefEqProofs (disch := first | assumption | omega) [evalS, evalE, evalEs, evalL, evalI, evalC, EV.T.bind, wipe, MS.ok, M.seq_ret, line, isSub, ret_app, count_range, numbered_range, pairs_range, collect_N, collect_F, collect2_N, collect, zz_nil, p50', p51', gA, gB, eI, u0, u1, cn2])
        exact ret_rt (by first | rfl | simp)
      · by_cases u1 : U1 = (G.B i j : Rat)
        · (rw [zz_cons]; simp -implicitDefEqProofs (disch := first | assumption | omega) [evalS, evalE, evalEs, evalL, evalI, evalC, EV.T.bind, wipe, MS.ok, M.seq_ret, line, isSub, ret_app, count_range, numbered_range, pairs_range, collect_N, collect_F, collect2_N, collect, zz_nil, p50', p51', gA, gB, eI, u0, u1, cn1])
          exact ret_rt (by first | rfl | simp)
        · (rw [zz_cons]; simp -implicitDefEqProofs (disch := first | assumption | omega) [evalS, evalE, evalEs, evalL, evalI, evalC, EV.T.bind, wipe, MS.ok, M.seq_ret, line, isSub, ret_app, count_range, numbered_range, pairs_range, collect_N, collect_F, collect2_N, collect, zz_nil, p50', p51', gA, gB, eI, u0, u1, cn3])
          exact ret_rt (by first | rfl | simp)
    · have hn : ¬ (0 : Int) < x.num := fun h => hx0 (by
        have hx1 := hfx.h0
        have : x ≠ 0 := fun e => by subst e; exact absurd h (by decide)
        grind)
      (rw [zz_cons]; simp -implicitDefEqProofs (disch := first | assumption | omega) [evalS, evalE, evalEs, evalL, evalI, evalC, EV.T.bind, wipe, MS.ok, M.seq_ret, line, isSub, ret_app, count_range, numbered_range, pairs_range, collect_N, collect_F, collect2_N, collect, zz_nil, hn])
      (rw [zz_cons]; simp -implicitDefEqProofs (disch := first | assumption | omega) [evalS, evalE, evalEs, evalL, evalI, evalC, EV.T.bind, wipe, MS.ok, M.seq_ret, line, isSub, ret_app, count_range, numbered_range, pairs_range, collect_N, collect_F, collect2_N, collect, zz_nil])
      exact ret_rt (by first | rfl | simp)
end K87
end
section
set_option Elab.async false
set_option linter.all false
set_option maxRecDepth 100000
set_option maxHeartbeats 4000000
/-! k87, part D: machines of one state. -/
namespace K87
open EV EW
def cM (k : Nat) : Mach := ⟨1, fun _ => k, fun _ _ => 0⟩
theorem cM_ok {own oth k : Nat} (h : k < own) : (cM k).ok own oth := ⟨by simp [cM], by simp [cM], fun _ _ => h, fun _ _ _ _ => by simp [cM]⟩
theorem cM_two {r c i j : Nat} (hi : i < r) (hj : j < c) : Two r c (cM i) (cM j) := ⟨cM_ok hi, cM_ok hj⟩
theorem cM_stp (i j : Nat) : stp (cM i) (cM j) (0, 0) = (0, 0) := rfl
theorem cM_W (G : Gm) (i j p : Nat) {f : Rat} (h0 : 0 ≤ f) (h1 : f < 1) : Wp G p (cM i) (cM j) f (0, 0) = (G.pay p i j : Rat) := by
  have e := wo_step h0 h1 (s := stp (cM i) (cM j)) (g := gp G p (cM i) (cM j)) (x := (0, 0)) (a := 0) (p := 1) (Nat.le_refl 1) rfl
  have e2 : Wp G p (cM i) (cM j) f (0, 0) = (1 - f) * (G.pay p i j : Rat) + f * Wp G p (cM i) (cM j) f (0, 0) := e
  generalize Wp G p (cM i) (cM j) f (0, 0) = W at *
  have hf1 : 0 < 1 - f := by grind
  rcases Rat.le_total (a := W) (b := (G.pay p i j : Rat)) with h | h
  · refine Rat.le_antisymm h (Rat.not_lt.mp fun hlt => ?_)
    have := Rat.mul_lt_mul_of_pos_left hlt hf1
    grind
  · refine Rat.le_antisymm (Rat.not_lt.mp fun hlt => ?_) h
    have := Rat.mul_lt_mul_of_pos_left hlt hf1
    grind
theorem cM_rho (i j : Nat) : Rho (stp (cM i) (cM j)) (0, 0) 0 1 := ⟨Nat.le_refl 1, rfl, fun k l h1 h2 => by omega⟩
theorem cM_mean (i j : Nat) (F : Nat × Nat → Int) : mean F (around (cM i) (cM j) (0, 0) 0 1) = (F (i, j) : Rat) := by
  show Rat.divInt ([F (i, j)].sum) ((1 : Nat) : Int) = _
  rw [Rat.divInt_eq_div]
  simp
  grind
theorem eq_iff {G : Gm} (hG : G.ok) {i j : Nat} (hi : i < G.r) (hj : j < G.c) : (i, j) ∈ eqL G ↔ (∀ a, a < G.r → G.A a j ≤ G.A i j) ∧ (∀ b, b < G.c → G.B i b ≤ G.B i j) := by
  have mem : (i, j) ∈ pairsL G := mem_pairs.mpr ⟨hi, hj⟩
  have e : (i, j) ∈ eqL G ↔ G.A i j = wst G 0 j ∧ G.B i j = wst G 1 i := by
    unfold eqL
    rw [List.mem_filter]
    simp [mem, isEq]
  rw [e]
  constructor
  · rintro ⟨h1, h2⟩
    exact ⟨fun a ha => by rw [h1]; exact wst_ge (p := 0) ha, fun b hb => by rw [h2]; exact wst_ge (p := 1) hb⟩
  · rintro ⟨h1, h2⟩
    obtain ⟨a, ha, ea⟩ := wst_mem hG 0 j
    obtain ⟨b, hb, eb⟩ := wst_mem hG 1 i
    have u1 : G.mat 0 i j ≤ wst G 0 j := wst_ge (p := 0) hi
    have u2 : G.mat 1 j i ≤ wst G 1 i := wst_ge (p := 1) hj
    have l1 := h1 a ha
    have l2 := h2 b hb
    have e1 : G.mat 0 a j = G.A a j := rfl
    have e2 : G.mat 0 i j = G.A i j := rfl
    have e3 : G.mat 1 b i = G.B i b := rfl
    have e4 : G.mat 1 j i = G.B i j := rfl
    omega
theorem cM_gain {G : Gm} (hG : G.ok) {i j : Nat} (hi : i < G.r) (hj : j < G.c) {f : Rat} (h0 : 0 ≤ f) (h1 : f < 1) : (allG G (cM i) (cM j) f).head? = none ↔ (i, j) ∈ eqL G := by
  have hf1 : 0 < 1 - f := by grind
  have ga : ∀ p c, gains G (cM i) (cM j) f (0, 0) (p, c) = decide ((G.pay p i j : Rat) < (G.pay p (dev (cM i) (cM j) (0, 0) p c).1 (dev (cM i) (cM j) (0, 0) p c).2 : Rat)) := fun p c => by
    unfold gains thr
    have e1 : nxt (cM i) (cM j) (0, 0) (dev (cM i) (cM j) (0, 0) (p, c).1 (p, c).2) = (0, 0) := rfl
    rw [e1, cM_W G i j _ h0 h1]
    dsimp only
    congr 1
    generalize (G.pay p i j : Rat) = x
    generalize (G.pay p (dev (cM i) (cM j) (0, 0) p c).1 (dev (cM i) (cM j) (0, 0) p c).2 : Rat) = y
    refine propext ⟨fun h => Rat.not_le.mp fun hle => ?_, fun h => ?_⟩
    · have := Rat.mul_le_mul_of_nonneg_left hle (Rat.le_of_lt hf1)
      grind
    · have := Rat.mul_lt_mul_of_pos_left h hf1
      grind
  have hall : allG G (cM i) (cM j) f = ((plays G).filter (gains G (cM i) (cM j) f (0, 0))).map fun y => ((0, 0), y) := by
    show [0].flatMap (rowG G (cM i) (cM j) f) = _
    show ([0].flatMap (cellG G (cM i) (cM j) f 0)) ++ [] = _
    show (cellG G (cM i) (cM j) f 0 0 ++ []) ++ [] = _
    rw [List.append_nil, List.append_nil]; rfl
  rw [eq_iff hG hi hj, hall, List.head?_eq_none_iff, List.map_eq_nil_iff, List.filter_eq_nil_iff]
  have mp : ∀ p c, (p, c) ∈ plays G ↔ p < 2 ∧ c < G.num p := fun p c => by
    simp only [plays, List.mem_flatMap, List.mem_map, List.mem_range, Prod.mk.injEq]
    constructor
    · rintro ⟨a, h1, b, h2, rfl, rfl⟩; exact ⟨h1, h2⟩
    · rintro ⟨h1, h2⟩; exact ⟨p, h1, c, h2, rfl, rfl⟩
  constructor
  · intro h
    refine ⟨fun a ha => ?_, fun b hb => ?_⟩
    · have := h (0, a) ((mp 0 a).mpr ⟨by omega, ha⟩)
      rw [ga 0 a, decide_eq_true_iff, Rat.intCast_lt_intCast] at this
      have e : ¬ G.A i j < G.A a j := this
      omega
    · have := h (1, b) ((mp 1 b).mpr ⟨by omega, hb⟩)
      rw [ga 1 b, decide_eq_true_iff, Rat.intCast_lt_intCast] at this
      have e : ¬ G.B i j < G.B i b := this
      omega
  · rintro ⟨hA, hB⟩ ⟨p, c⟩ hm
    obtain ⟨hp, hc⟩ := (mp p c).mp hm
    rw [ga p c, decide_eq_true_iff, Rat.intCast_lt_intCast]
    have hp' : p = 0 ∨ p = 1 := by omega
    rcases hp' with rfl | rfl
    · have := hA c hc
      show ¬ G.A i j < G.A c j
      omega
    · have := hB c hc
      show ¬ G.B i j < G.B i c
      omega
theorem const_best {G : Gm} (hG : G.ok) (p : Nat) (hp : p = 0 ∨ p = 1) (k : Nat) (hk : k < G.num (1 - p)) {b : Nat} {f : Rat} (hf : Fac b f) :
    ∃ q : Nat → Nat, q 0 < G.num p ∧ G.mat p (q 0) k = wst G p k ∧ ∀ n, callR (callF fs gl (n + 7) 53) [oD G, .int p, mD (G.num p) (cM k), fr f] = M.ret (.tup [fr (wst G p k : Rat), mD (G.num (1 - p)) (ansM (cM k) q)]) := by
  have hok : (cM k).ok (G.num (1 - p)) (G.num p) := cM_ok hk
  obtain ⟨q, hq, ho, _, e⟩ := x_best G hG p hp (cM k) hok hf
  have h0 := hf.h0
  have h1 := hf.h1
  have hf1 : 0 < 1 - f := by grind
  have fx := pv_fix h0 h1 (m := rm (G.mat p) (cM k)) (fun k' hk' c hc => hok.n k' hk' c hc) hq (j := 0) (by show 0 < 1; omega)
  have o0 : ∀ c, opt f (rm (G.mat p) (cM k)) (cM k).nx q 0 c = (1 - f) * (G.mat p c k : Rat) + f * pv f (rm (G.mat p) (cM k)) (cM k).nx q 0 := fun c => rfl
  have b0 := ho 0 (by show 0 < 1; omega)
  simp only [o0] at fx b0
  generalize pv f (rm (G.mat p) (cM k)) (cM k).nx q 0 = V at *
  have hV : V = (G.mat p (q 0) k : Rat) := by
    rcases Rat.le_total (a := V) (b := (G.mat p (q 0) k : Rat)) with h | h
    · refine Rat.le_antisymm h (Rat.not_lt.mp fun hlt => ?_)
      have := Rat.mul_lt_mul_of_pos_left hlt hf1
      grind
    · refine Rat.le_antisymm (Rat.not_lt.mp fun hlt => ?_) h
      have := Rat.mul_lt_mul_of_pos_left hlt hf1
      grind
  have q0 : q 0 < G.num p := hq 0 (by show 0 < 1; omega)
  have hw : G.mat p (q 0) k = wst G p k := by
    obtain ⟨a, ha, ea⟩ := wst_mem hG p k
    have u := wst_ge (G := G) (p := p) (b := k) q0
    have l := b0 a ha
    rw [hV] at l
    have l2 : (G.mat p a k : Rat) ≤ (G.mat p (q 0) k : Rat) := Rat.not_lt.mp fun hlt => by
      have := Rat.mul_lt_mul_of_pos_left hlt hf1
      grind
    rw [Rat.intCast_le_intCast] at l2
    omega
  refine ⟨q, q0, hw, fun n => ?_⟩
  rw [e n, hV, hw]
theorem mem_rep {G : Gm} (hG : G.ok) {a j : Nat} (ha : a < G.r) (h : G.A a j = wst G 0 j) : a ∈ repL G j := by
  unfold repL
  rw [List.mem_filter, List.mem_range, decide_eq_true_iff]
  refine ⟨ha, ?_⟩
  obtain ⟨b, hb, eb⟩ := gm_mem (fun i => (G.A i j : Rat)) hG.r1
  have l := gm_ge (fun i => (G.A i j : Rat)) ha
  refine Rat.le_antisymm l ?_
  rw [eb, Rat.intCast_le_intCast, h]
  exact wst_ge (p := 0) hb
theorem mem_ints (L : List Nat) (a : Nat) (h : a ∈ L) : cm .mem (.int a) (.tup (L.map fun (i : Nat) => .int i)) = M.ret (.bl true) := by
  rw [cm_mem_tup rfl (deeps_map (fun _ => rfl) L)]
  congr 2
  unfold memD
  rw [List.any_map, List.any_eq_true]
  exact ⟨a, h, by simp [eq_int]⟩
end K87
end
section
set_option Elab.async false
set_option linter.all false
set_option maxRecDepth 100000
set_option maxHeartbeats 4000000
/-! k87, part E: what the law asks of single pairs. -/
namespace K87
open EV EW
theorem getI_bl (L : List (Nat × Nat)) (v : Nat) (h : v < L.length) : getI (bl L) (.int v) = M.ret (pD L[v]) := by
  rw [bl, getI_fl, nth_nat]
  simp [h]
theorem single_rest (n : Nat) (G : Gm) (hG : G.ok) (i j : Nat) (hi : i < G.r) (hj : j < G.c) {b : Nat} {f : Rat} (hf : Fac b f) (o : O) (Q : Fl → Store → Prop) (hQ : Q (.rt (.bl true)) [o]) :
    Pst (evalSs (callF fs gl (n + 10)) gl (tailS 4 f77.body) [some (.ref 0), some (gD G), some (oD G), some (fr f), some (bl (eqL G)), none, none, some (.int G.r), some (.int G.c), some (.int i), some (.int j), none, none, none, none] [o]) Q := by
  have r1 := hG.r1
  have r5 := hG.r5
  have c1 := hG.c1
  have c5 := hG.c5
  have gA : getI (gD G) (.int 0) = M.ret (lI G.r G.c G.A) := rfl
  have gB : getI (gD G) (.int 1) = M.ret (lI G.r G.c G.B) := rfl
  have sq : seqOf (gD G) = M.ret [lI G.r G.c G.A, lI G.r G.c G.B] := rfl
  have eI : ∀ z : Int, D.tup [.int z, .int 1] = fr (z : Rat) := fun z => rfl
  have two := cM_two hi hj
  have e1 : D.tup [.tup [.int i, tb G.c fun _ => .int 0]] = mD G.c (cM i) := rfl
  have e2 : D.tup [.tup [.int j, tb G.r fun _ => .int 0]] = mD G.r (cM j) := rfl
  have q1 := x_discounted (n + 2) G hG (cM i) (cM j) two hf
  rw [cM_W G i j 0 hf.h0 hf.h1, cM_W G i j 1 hf.h0 hf.h1] at q1
  have q1' : callR (callF fs gl (n + 10)  72) [oD G, mD G.c (cM i), mD G.r (cM j), fr f] = M.ret (.tup [fr (G.A i j : Rat), fr (G.B i j : Rat)]) := q1
  have q2 := x_average (n + 1) G hG (cM i) (cM j) two 0 1 (cM_rho i j) (by omega)
  rw [cM_mean i j (fun x => G.A x.1 x.2), cM_mean i j (fun x => G.B x.1 x.2)] at q2
  have s1 := y_same 6 (.fl [.tup [fr (G.A i j : Rat), fr (G.B i j : Rat)], .tup [fr (G.A i j : Rat), fr (G.B i j : Rat)]]) (by simp) (n + 4)
  have q3 := x_one_step (n + 2) G hG (cM i) (cM j) two hf
  have hg := cM_gain hG hi hj hf.h0 hf.h1
  have hisn : cm .isN (gainD (allG G (cM i) (cM j) f).head?) .non = M.ret (.bl (decide ((i, j) ∈ eqL G))) := by
    rw [isN_gainD]
    congr 2
    cases hh : (allG G (cM i) (cM j) f).head? with
    | none => rw [hh] at hg; simp [hg.mp rfl]
    | some z =>
      rw [hh] at hg
      have : ¬ (i, j) ∈ eqL G := fun h => by cases hg.mpr h
      simp [this]
  have hmem := mem_bl (eqL G) i j
  have w0 : topL ((List.range G.r).map fun a => G.A a j) = wst G 0 j := rfl
  have w1 : topL ((List.range G.c).map fun b => G.B i b) = wst G 1 i := rfl
  obtain ⟨p0, hp0, hp0w, q4⟩ := const_best hG 0 (.inl rfl) j hj hf
  obtain ⟨p1, hp1, hp1w, q5⟩ := const_best hG 1 (.inr rfl) i hi hf
  have q4' : callR (callF fs gl (n + 10) 53) [oD G, .int 0, mD G.r (cM j), fr f] = M.ret (.tup [fr (wst G 0 j : Rat), mD G.c (ansM (cM j) p0)]) := q4 (n + 3)
  have q5' : callR (callF fs gl (n + 10) 53) [oD G, .int 1, mD G.c (cM i), fr f] = M.ret (.tup [fr (wst G 1 i : Rat), mD G.r (ansM (cM i) p1)]) := q5 (n + 3)
  have s2 := y_same 6 (.fl [fr (wst G 0 j : Rat), fr (wst G 1 i : Rat)]) (by simp) (n + 4)
  have q6 := x_single (n + 9) G.c j c5
  have q7 := x_replies (n + 3) G hG j hj
  have q8 := x_held n G hG i j hi hj
  have hrep := mem_ints (repL G j) (p0 0) (mem_rep hG hp0 hp0w)
  have a1 : (0 : Nat) < (ansM (cM j) p0).s := by show 0 < 1; omega
  have g1 : getI (mD G.c (ansM (cM j) p0)) (.int 0) = M.ret (stD G.c (ansM (cM j) p0) 0) := getI_mD (k := 0) a1
  have g2 : getI (stD G.c (ansM (cM j) p0) 0) (.int 0) = M.ret (.int (p0 0 : Nat)) := rfl
  dsimp only [f77, tailS]
  (rw [zz_cons]; simp -implicitDefEqProofs (disch := first | assumption | omega) [evalS, evalE, evalEs, evalL, evalI, evalC, EV.T.bind, wipe, MS.ok, M.seq_ret, line, isSub, ret_app, count_range, numbered_range, pairs_range, collect_N, collect_F, collect2_N, collect, zz_nil, e1, e2])
  (rw [zz_cons]; simp -implicitDefEqProofs (disch := first | assumption | omega) [evalS, evalE, evalEs, evalL, evalI, evalC, EV.T.bind, wipe, MS.ok, M.seq_ret, line, isSub, ret_app, count_range, numbered_range, pairs_range, collect_N, collect_F, collect2_N, collect, zz_nil, sq, eI])
  (rw [zz_cons]; simp -implicitDefEqProofs (disch := first | assumption | omega) [evalS, evalE, evalEs, evalL, evalI, evalC, EV.T.bind, wipe, MS.ok, M.seq_ret, line, isSub, ret_app, count_range, numbered_range, pairs_range, collect_N, collect_F, collect2_N, collect, zz_nil, q1', q2, s1])
  (rw [zz_cons]; simp -implicitDefEqProofs (disch := first | assumption | omega) [evalS, evalE, evalEs, evalL, evalI, evalC, EV.T.bind, wipe, MS.ok, M.seq_ret, line, isSub, ret_app, count_range, numbered_range, pairs_range, collect_N, collect_F, collect2_N, collect, zz_nil, q3, hisn, hmem])
  (rw [zz_cons]; simp -implicitDefEqProofs (disch := first | assumption | omega) [evalS, evalE, evalEs, evalL, evalI, evalC, EV.T.bind, wipe, MS.ok, M.seq_ret, line, isSub, ret_app, count_range, numbered_range, pairs_range, collect_N, collect_F, collect2_N, collect, zz_nil, gA, gB, w0, w1])
  (rw [zz_cons]; simp -implicitDefEqProofs (disch := first | assumption | omega) [evalS, evalE, evalEs, evalL, evalI, evalC, EV.T.bind, wipe, MS.ok, M.seq_ret, line, isSub, ret_app, count_range, numbered_range, pairs_range, collect_N, collect_F, collect2_N, collect, zz_nil, q4', q5', eI, s2])
  (rw [zz_cons]; simp -implicitDefEqProofs (disch := first | assumption | omega) [evalS, evalE, evalEs, evalL, evalI, evalC, EV.T.bind, wipe, MS.ok, M.seq_ret, line, isSub, ret_app, count_range, numbered_range, pairs_range, collect_N, collect_F, collect2_N, collect, zz_nil, q4', q6, q7, q8, g1, g2, hrep])
  exact Pst.ok hQ
theorem t_single (n c0 : Nat) (o : O) (ho : Bok c0 o) (hc0 : c0 < 900000) (G : Gm) (hG : G.ok) {b : Nat} {f : Rat} (hf : Fac b f) :
    ∃ o' q, Bok (c0 + 4) o' ∧ callF fs gl (n + 11) 77 [.ref 0, gD G, oD G, fr f] [o] = .ok (.bl true) (o' :: q) := by
  have r1 := hG.r1
  have r5 := hG.r5
  have c1 := hG.c1
  have c5 := hG.c5
  have gA : getI (gD G) (.int 0) = M.ret (lI G.r G.c G.A) := rfl
  have q1 := x_pure (n + 8) G hG
  have pl := pairs_len hG
  have el : (eqL G).length ≤ 25 := Nat.le_trans (List.length_filter_le _ _) pl
  have key : ∀ Q : Fl → Store → Prop, (∀ o', Bok (c0 + 4) o' → Q (.rt (.bl true)) [o']) → Pst (evalSs (callF fs gl (n + 10)) gl f77.body (start f77.ns [.ref 0, gD G, oD G, fr f]) [o]) Q := by
    intro Q hQ
    have ht : f77.body = .cons _ (.cons _ (.cons _ (.cons _ (tailS 4 f77.body)))) := rfl
    rw [ht]
    dsimp only [f77, start]
    (rw [zz_cons]; simp -implicitDefEqProofs (disch := first | assumption | omega) [evalS, evalE, evalEs, evalL, evalI, evalC, EV.T.bind, wipe, MS.ok, M.seq_ret, line, isSub, ret_app, count_range, numbered_range, pairs_range, collect_N, collect_F, collect2_N, collect, zz_nil, gA])
    (rw [zz_cons]; simp -implicitDefEqProofs (disch := first | assumption | omega) [evalS, evalE, evalEs, evalL, evalI, evalC, EV.T.bind, wipe, MS.ok, M.seq_ret, line, isSub, ret_app, count_range, numbered_range, pairs_range, collect_N, collect_F, collect2_N, collect, zz_nil, q1])
    (rw [zz_cons]; simp -implicitDefEqProofs (disch := first | assumption | omega) [evalS, evalE, evalEs, evalL, evalI, evalC, EV.T.bind, wipe, MS.ok, M.seq_ret, line, isSub, ret_app, count_range, numbered_range, pairs_range, collect_N, collect_F, collect2_N, collect, zz_nil, EV.seq_assoc])
    refine pst_lift (Pm.seq (pm_take (n + 9) ho (by omega) (by omega) (by omega) fun i o1 hi hb1 => ?_))
    try simp -implicitDefEqProofs (disch := first | assumption | omega) [evalS, evalE, evalEs, evalL, evalI, evalC, EV.T.bind, wipe, MS.ok, M.seq_ret, line, isSub, ret_app, count_range, numbered_range, pairs_range, collect_N, collect_F, collect2_N, collect, zz_nil, EV.seq_assoc]
    refine Pm.seq (pm_take (n + 9) hb1 (by omega) (by omega) (by omega) fun j o2 hj hb2 => ?_)
    refine Pm.ret ?_
    try simp -implicitDefEqProofs (disch := first | assumption | omega) [evalS, evalE, evalEs, evalL, evalI, evalC, EV.T.bind, wipe, MS.ok, M.seq_ret, line, isSub, ret_app, count_range, numbered_range, pairs_range, collect_N, collect_F, collect2_N, collect, zz_nil]
    by_cases he : eqL G = []
    · have hne := cm_ne_bl0 (eqL G)
      rw [decide_eq_true he] at hne
      (rw [zz_cons]; simp -implicitDefEqProofs (disch := first | assumption | omega) [evalS, evalE, evalEs, evalL, evalI, evalC, EV.T.bind, wipe, MS.ok, M.seq_ret, line, isSub, ret_app, count_range, numbered_range, pairs_range, collect_N, collect_F, collect2_N, collect, zz_nil, hne])
      exact single_rest n G hG i j hi hj hf o2 Q (hQ _ (hb2.mono (by omega)))
    · have hne := cm_ne_bl0 (eqL G)
      rw [decide_eq_false he] at hne
      have el1 : 1 ≤ (eqL G).length := List.length_pos_iff.mpr he
      (rw [zz_cons]; simp -implicitDefEqProofs (disch := first | assumption | omega) [evalS, evalE, evalEs, evalL, evalI, evalC, EV.T.bind, wipe, MS.ok, M.seq_ret, line, isSub, ret_app, count_range, numbered_range, pairs_range, collect_N, collect_F, collect2_N, collect, zz_nil, hne, EV.seq_assoc])
      refine pst_lift (Pm.seq (pm_takeZ (n + 9) hb2 (by omega) 2 2 (by omega) (by omega) (by omega) fun t o3 ht hb3 => ?_))
      simp only [cm_eq_int, M.seq_ret, blOf_bl]
      refine Pm.ret ?_
      by_cases ht0 : t = 0
      · simp only [ht0]
        simp -implicitDefEqProofs (disch := first | assumption | omega) [evalS, evalE, evalEs, evalL, evalI, evalC, EV.T.bind, wipe, MS.ok, M.seq_ret, line, isSub, ret_app, count_range, numbered_range, pairs_range, collect_N, collect_F, collect2_N, collect, zz_nil]
        (rw [zz_cons]; simp -implicitDefEqProofs (disch := first | assumption | omega) [evalS, evalE, evalEs, evalL, evalI, evalC, EV.T.bind, wipe, MS.ok, M.seq_ret, line, isSub, ret_app, count_range, numbered_range, pairs_range, collect_N, collect_F, collect2_N, collect, zz_nil, EV.seq_assoc])
        rw [bnd_assoc]
        refine pst_lift (Pm.seq (pm_take (n + 9) hb3 (by omega) (by omega) (by omega) fun v o4 hv hb4 => ?_))
        rw [getI_bl _ _ hv]
        refine Pm.ret ?_
        have hm : (eqL G)[v] ∈ pairsL G := (List.mem_filter.mp (List.getElem_mem hv)).1
        obtain ⟨l1, l2⟩ := mem_pairs.mp hm
        generalize (eqL G)[v] = y at *
        simp -implicitDefEqProofs (disch := first | assumption | omega) [evalS, evalE, evalEs, evalL, evalI, evalC, EV.T.bind, wipe, MS.ok, M.seq_ret, line, isSub, ret_app, count_range, numbered_range, pairs_range, collect_N, collect_F, collect2_N, collect, zz_nil]
        exact single_rest n G hG y.1 y.2 l1 l2 hf o4 Q (hQ _ (hb4.mono (by omega)))
      · simp -implicitDefEqProofs (disch := first | assumption | omega) [evalS, evalE, evalEs, evalL, evalI, evalC, EV.T.bind, wipe, MS.ok, M.seq_ret, line, isSub, ret_app, count_range, numbered_range, pairs_range, collect_N, collect_F, collect2_N, collect, zz_nil, ht0]
        exact single_rest n G hG i j hi hj hf o3 Q (hQ _ (hb3.mono (by omega)))
  obtain ⟨f', S, e, o', hb, rfl, rfl⟩ := key (fun f S => ∃ o', Bok (c0 + 4) o' ∧ f = .rt (.bl true) ∧ S = [o']) (fun o' h => ⟨o', h, rfl, rfl⟩)
  refine ⟨o', [], hb, ?_⟩
  rw [callF, show fs[77]? = some f77 from rfl]
  show runF _ _ _ _ _ = _
  rw [runF_eq rfl, e]
end K87
end
section
set_option Elab.async false
set_option linter.all false
set_option maxRecDepth 100000
set_option maxHeartbeats 4000000
/-! k87, part F: what the law asks of answers. -/
namespace K87
open EV EW
/-- the worth of a machine of a player against one of the other -/
noncomputable def pw (G : Gm) (p : Nat) (one mc : Mach) (f : Rat) : Rat := if p = 0 then wo f (stp one mc) (gt G.A one mc) (0, 0) else wo f (stp mc one) (gt G.B mc one) (0, 0)
theorem pw_le {G : Gm} (p : Nat) (hp : p = 0 ∨ p = 1) {one mc : Mach} (h1 : one.ok (G.num p) (G.num (1 - p))) (h2 : mc.ok (G.num (1 - p)) (G.num p)) {f : Rat} (f0 : 0 ≤ f) (f1 : f < 1) {q : Nat → Nat}
    (ho : ∀ j, j < mc.s → ∀ c, c < G.num p → opt f (rm (G.mat p) mc) mc.nx q j c ≤ pv f (rm (G.mat p) mc) mc.nx q j) : pw G p one mc f ≤ pv f (rm (G.mat p) mc) mc.nx q 0 := by
  rcases hp with rfl | rfl
  · have two : Two G.r G.c one mc := ⟨h1, h2⟩
    obtain ⟨a, p, hr, _⟩ := rho_pair two.stp (x := (0, 0)) h1.s1 h2.s1
    have lt := fun k => it_lt2 two.stp k (0, 0) h1.s1 h2.s1
    refine wo_le f0 f1 hr.pos hr.back (pv f (rm (G.mat 0) mc) mc.nx q) Prod.snd fun n => ?_
    rw [it_succ]
    exact ho _ (lt n).2 _ (h1.c _ (lt n).1)
  · have two : Two G.r G.c mc one := ⟨h2, h1⟩
    obtain ⟨a, p, hr, _⟩ := rho_pair two.stp (x := (0, 0)) h2.s1 h1.s1
    have lt := fun k => it_lt2 two.stp k (0, 0) h2.s1 h1.s1
    refine wo_le f0 f1 hr.pos hr.back (pv f (rm (G.mat 1) mc) mc.nx q) Prod.fst fun n => ?_
    rw [it_succ]
    exact ho _ (lt n).1 _ (h1.c _ (lt n).2)
theorem ansM_ok {G : Gm} (p : Nat) {mc : Mach} (h2 : mc.ok (G.num (1 - p)) (G.num p)) {q : Nat → Nat} (hq : PolOk mc.s (G.num p) q) : (ansM mc q).ok (G.num p) (G.num (1 - p)) :=
  ⟨h2.s1, h2.s6, fun k hk => hq k hk, fun k hk j hj => h2.n k hk _ (hq k hk)⟩
theorem pw_ans {G : Gm} (p : Nat) (hp : p = 0 ∨ p = 1) {mc : Mach} (h2 : mc.ok (G.num (1 - p)) (G.num p)) {f : Rat} (f0 : 0 ≤ f) (f1 : f < 1) {q : Nat → Nat} (hq : PolOk mc.s (G.num p) q)
    (ho : ∀ j, j < mc.s → ∀ c, c < G.num p → opt f (rm (G.mat p) mc) mc.nx q j c ≤ pv f (rm (G.mat p) mc) mc.nx q j) : pw G p (ansM mc q) mc f = pv f (rm (G.mat p) mc) mc.nx q 0 := by
  refine Rat.le_antisymm (pw_le p hp (ansM_ok p h2 hq) h2 f0 f1 ho) ?_
  have fix := fun k (hk : k < mc.s) => pv_fix f0 f1 (m := rm (G.mat p) mc) (fun k hk c hc => h2.n k hk c hc) hq hk
  have h1 := ansM_ok p h2 hq
  rcases hp with rfl | rfl
  · have two : Two G.r G.c (ansM mc q) mc := ⟨h1, h2⟩
    obtain ⟨a, p, hr, _⟩ := rho_pair two.stp (x := (0, 0)) h1.s1 h2.s1
    have lt := fun k => it_lt2 two.stp k (0, 0) h1.s1 h2.s1
    have same : ∀ n, (it (stp (ansM mc q) mc) n (0, 0)).1 = (it (stp (ansM mc q) mc) n (0, 0)).2 := by
      intro n
      induction n with
      | zero => rfl
      | succ n ih =>
        rw [it_succ]
        show mc.nx (it (stp (ansM mc q) mc) n (0, 0)).1 (q (it (stp (ansM mc q) mc) n (0, 0)).1) = mc.nx (it (stp (ansM mc q) mc) n (0, 0)).2 (q (it (stp (ansM mc q) mc) n (0, 0)).1)
        rw [ih]
    refine wo_ge f0 f1 hr.pos hr.back (pv f (rm (G.mat 0) mc) mc.nx q) Prod.snd fun n => ?_
    rw [it_succ]
    have := fix _ (lt n).2
    have e : pv f (rm (G.mat 0) mc) mc.nx q (it (stp (ansM mc q) mc) n (0, 0)).2 = opt f (rm (G.mat 0) mc) mc.nx q (it (stp (ansM mc q) mc) n (0, 0)).2 (q (it (stp (ansM mc q) mc) n (0, 0)).1) := by rw [same n]; exact this
    rw [e]
    exact Rat.le_refl
  · have two : Two G.r G.c mc (ansM mc q) := ⟨h2, h1⟩
    obtain ⟨a, p, hr, _⟩ := rho_pair two.stp (x := (0, 0)) h2.s1 h1.s1
    have lt := fun k => it_lt2 two.stp k (0, 0) h2.s1 h1.s1
    have same : ∀ n, (it (stp mc (ansM mc q)) n (0, 0)).2 = (it (stp mc (ansM mc q)) n (0, 0)).1 := by
      intro n
      induction n with
      | zero => rfl
      | succ n ih =>
        rw [it_succ]
        show mc.nx (it (stp mc (ansM mc q)) n (0, 0)).2 (q (it (stp mc (ansM mc q)) n (0, 0)).2) = mc.nx (it (stp mc (ansM mc q)) n (0, 0)).1 (q (it (stp mc (ansM mc q)) n (0, 0)).2)
        rw [ih]
    refine wo_ge f0 f1 hr.pos hr.back (pv f (rm (G.mat 1) mc) mc.nx q) Prod.fst fun n => ?_
    rw [it_succ]
    have := fix _ (lt n).1
    have e : pv f (rm (G.mat 1) mc) mc.nx q (it (stp mc (ansM mc q)) n (0, 0)).1 = opt f (rm (G.mat 1) mc) mc.nx q (it (stp mc (ansM mc q)) n (0, 0)).1 (q (it (stp mc (ansM mc q)) n (0, 0)).2) := by rw [same n]; exact this
    rw [e]
    exact Rat.le_refl
theorem add_ls (a b : Nat) (F H : Nat → D) (h : a + b ≤ 100) : op2 .add (ls a F) (ls b H) = M.ret (.fl ((List.range a).map F ++ (List.range b).map H)) := by
  rw [ls, ls, op2_add_fl (by simp; omega)]
theorem pm_machine (n : Nat) {c0 : Nat} {o : O} (h : Bok c0 o) (hc : c0 < 900000) {own oth : Nat} (h1 : 1 ≤ own) (h5 : own ≤ 5) (ho : oth ≤ 5) {T : Store} {Q : D → Store → Prop}
    (hQ : ∀ mc o', mc.ok own oth → mc.s ≤ 4 → Bok (c0 + 30) o' → Q (mD oth mc) (o' :: T)) : Pm (callR (callF fs gl (n + 2) 15) [.ref 0, .int own, .int oth]) (o :: T) Q := by
  obtain ⟨mc, o', q, a1, a2, a3, e⟩ := t_machine n c0 o h hc own oth h1 h5 ho
  refine Pm.of (callR_box (i := 0) rfl h.rf (by simp) e a3.rf (by simp)) ?_
  exact hQ mc o' a1 a2 a3
instance : Inhabited Mach := ⟨⟨1, fun _ => 0, fun _ _ => 0⟩⟩
end K87
end
section
set_option Elab.async false
set_option linter.all false
set_option maxRecDepth 100000
set_option maxHeartbeats 4000000
/-! k87, part G: what the law asks of answers. -/
namespace K87
open EV EW
theorem t_answer (n c0 : Nat) (o : O) (hob : Bok c0 o) (hc0 : c0 < 800000) (G : Gm) (hG : G.ok) (p : Nat) (hp : p = 0 ∨ p = 1) (mc : Mach) (h2 : mc.ok (G.num (1 - p)) (G.num p)) (hs : mc.s ≤ 4) {f : Rat} (hf : Fac 6 f) :
    ∃ o' q, Bok (c0 + 200) o' ∧ callF fs gl (n + 11) 90 [.ref 0, gD G, oD G, .int p, mD (G.num p) mc, fr f] [o] = .ok (.bl true) (o' :: q) := by
  have r1 := hG.r1
  have r5 := hG.r5
  have c1 := hG.c1
  have c5 := hG.c5
  obtain ⟨q, hq, ho, bV, e⟩ := x_best G hG p hp mc h2 hf
  have hA := ansM_ok p h2 hq
  have hV := pw_ans p hp h2 hf.h0 hf.h1 hq ho
  have hle := fun (one : Mach) (h1 : one.ok (G.num p) (G.num (1 - p))) => pw_le p hp h1 h2 hf.h0 hf.h1 ho
  have hAs : (ansM mc q).s ≤ 4 := hs
  have hAl : (ansM mc q).s = mc.s := rfl
  generalize ansM mc q = A at *
  generalize pv f (rm (G.mat p) mc) mc.nx q 0 = V at *
  have key : ∀ Q : Fl → Store → Prop, (∀ o', Bok (c0 + 200) o' → Q (.rt (.bl true)) [o']) → Pst (evalSs (callF fs gl (n + 10)) gl f90.body (start f90.ns [.ref 0, gD G, oD G, .int p, mD (G.num p) mc, fr f]) [o]) Q := by
   rcases hp with rfl | rfl
   · -- player 0
    have h2' : mc.ok G.c G.r := h2
    have gP : getI (gD G) (.int 0) = M.ret (lI G.r G.c G.A) := rfl
    have g0 : getI (gD G) (.int 0) = M.ret (lI G.r G.c G.A) := rfl
    have wall : ∀ one : Mach, one.ok G.r G.c ∧ one.s ≤ 4 → callR (callF fs gl (n + 10) 85) [lI G.r G.c G.A, mD G.c one, mD G.r mc, .tup [.int 0, .int 0], fr f] = M.ret (fr (pw G 0 one mc f)) ∧ Bd 4000 (pw G 0 one mc f) := fun one h1 =>
      y_worth (n + 5) G.r G.c G.A hG.a one mc ⟨h1.1, h2'⟩ (0, 0) h1.1.s1 h2'.s1 (Nat.mul_le_mul h1.2 hs) hf
    have q1 : callR (callF fs gl (n + 10) 53) [oD G, .int 0, mD G.r mc, fr f] = M.ret (.tup [fr V, mD G.c A]) := e (n + 3)
    have q2 : callR (callF fs gl (n + 10) 86) [oD G, .int 0, mD G.c A] = M.ret (.bl true) := x_is_machine (n + 4) G hG A 0 (by omega) hA
    have wA := (wall A ⟨hA, hAs⟩).1
    rw [hV] at wA
    have s1 := y_same 6 (.tup [fr V, mD G.c A]) (by
      have a1 := sg_mD (n := 1) (o := G.c) hA (by first | exact c5 | exact r5)
      simp [a1]) (n + 4)
    intro Q hQ
    dsimp only [f90, start]
    (rw [zz_cons]; simp -implicitDefEqProofs (disch := first | assumption | omega) [evalS, evalE, evalEs, evalL, evalI, evalC, EV.T.bind, wipe, MS.ok, M.seq_ret, line, isSub, ret_app, count_range, numbered_range, pairs_range, collect_N, collect_F, collect2_N, collect, zz_nil, q1])
    (rw [zz_cons]; simp -implicitDefEqProofs (disch := first | assumption | omega) [evalS, evalE, evalEs, evalL, evalI, evalC, EV.T.bind, wipe, MS.ok, M.seq_ret, line, isSub, ret_app, count_range, numbered_range, pairs_range, collect_N, collect_F, collect2_N, collect, zz_nil, q2, hAl])
    (rw [zz_cons]; simp -implicitDefEqProofs (disch := first | assumption | omega) [evalS, evalE, evalEs, evalL, evalI, evalC, EV.T.bind, wipe, MS.ok, M.seq_ret, line, isSub, ret_app, count_range, numbered_range, pairs_range, collect_N, collect_F, collect2_N, collect, zz_nil, q1, s1])
    (rw [zz_cons]; simp -implicitDefEqProofs (disch := first | assumption | omega) [evalS, evalE, evalEs, evalL, evalI, evalC, EV.T.bind, wipe, MS.ok, M.seq_ret, line, isSub, ret_app, count_range, numbered_range, pairs_range, collect_N, collect_F, collect2_N, collect, zz_nil])
    (rw [zz_cons]; simp -implicitDefEqProofs (disch := first | assumption | omega) [evalS, evalE, evalEs, evalL, evalI, evalC, EV.T.bind, wipe, MS.ok, M.seq_ret, line, isSub, ret_app, count_range, numbered_range, pairs_range, collect_N, collect_F, collect2_N, collect, zz_nil, gP, wA])
    (rw [zz_cons]; simp -implicitDefEqProofs (disch := first | assumption | omega) [evalS, evalE, evalEs, evalL, evalI, evalC, EV.T.bind, wipe, MS.ok, M.seq_ret, line, isSub, ret_app, count_range, numbered_range, pairs_range, collect_N, collect_F, collect2_N, collect, zz_nil, g0])
    (rw [zz_cons]; simp -implicitDefEqProofs (disch := first | assumption | omega) [evalS, evalE, evalEs, evalL, evalI, evalC, EV.T.bind, wipe, MS.ok, M.seq_ret, line, isSub, ret_app, count_range, numbered_range, pairs_range, collect_N, collect_F, collect2_N, collect, zz_nil, EV.seq_assoc])
    refine pst_lift (Pm.seq (Pm.calm (Pm.colN (I := fun t S => ∃ o', S = [o'] ∧ Bok (c0 + 30 * t) o') (P := fun _ d => ∃ m : Mach, d = mD G.c m ∧ (m.ok G.r G.c ∧ m.s ≤ 4)) ⟨o, rfl, hob⟩ ?_ ?_)))
    · rintro t ht S ⟨o1, rfl, hb1⟩
      refine Pm.seq (pm_machine (n + 8) hb1 (by omega) (by omega) (by omega) (by omega) fun m o2 a1 a2 a3 => ?_)
      exact Pm.ret ⟨_, rfl, ⟨o2, rfl, a3.mono (by omega)⟩, m, rfl, a1, a2⟩
    · rintro F S ⟨o1, rfl, hb1⟩ hF
      obtain ⟨g, hg, hgo⟩ := map_choose (fun m : Mach => mD G.c m) (fun _ m => m.ok G.r G.c ∧ m.s ≤ 4) hF
      have hsum : op2 .add (ls G.r fun i => .tup [.tup [.int i, tb G.c fun _ => .int 0]]) (.fl ((List.range 4).map fun i => mD G.c (g i))) = M.ret (.fl ((((List.range G.r).map cM) ++ (List.range 4).map g).map (mD G.c))) := by
        have := add_ls G.r 4 (fun i => .tup [.tup [.int i, tb G.c fun _ => .int 0]]) (fun i => mD G.c (g i)) (by omega)
        rw [List.map_append, List.map_map, List.map_map]
        exact this
      have hms : ∀ m, m ∈ (List.range G.r).map cM ++ (List.range 4).map g → m.ok G.r G.c ∧ m.s ≤ 4 := by
        intro m hm
        rw [List.mem_append, List.mem_map, List.mem_map] at hm
        rcases hm with ⟨k, hk, rfl⟩ | ⟨k, hk, rfl⟩
        · exact ⟨cM_ok (List.mem_range.mp hk), by show 1 ≤ 4; omega⟩
        · exact hgo k (List.mem_range.mp hk)
      rw [hg, hsum]
      generalize (List.range G.r).map cM ++ (List.range 4).map g = ms at *
      refine Pm.ret ?_
      try simp -implicitDefEqProofs (disch := first | assumption | omega) [evalS, evalE, evalEs, evalL, evalI, evalC, EV.T.bind, wipe, MS.ok, M.seq_ret, line, isSub, ret_app, count_range, numbered_range, pairs_range, collect_N, collect_F, collect2_N, collect, zz_nil]
      (rw [zz_cons]; simp -implicitDefEqProofs (disch := first | assumption | omega) [evalS, evalE, evalEs, evalL, evalI, evalC, EV.T.bind, wipe, MS.ok, M.seq_ret, line, isSub, ret_app, count_range, numbered_range, pairs_range, collect_N, collect_F, collect2_N, collect, zz_nil])
      generalize hms0 : ms = ms0 at *
      refine lpM (I := fun ms r' S => ∃ v7 v9, r' = [some (.ref 0), some (gD G), some (oD G), some (.int 0), some (mD G.r mc), some (fr f), some (.tup [fr V, mD G.c A]), v7, some (.fl (ms0.map (mD G.c))), v9, some (.int G.r), some (.int G.c), none, none] ∧ S = [o1] ∧ ∀ m, m ∈ ms → m.ok G.r G.c ∧ m.s ≤ 4) ?_ ?_ ?_
      · exact ⟨_, _, rfl, rfl, hms⟩
      · rintro m ms r' S P ⟨v7, v9, rfl, rfl, hm⟩ hP _ _
        have hm0 := hm m (by simp)
        obtain ⟨w1, w2⟩ := wall m hm0
        have bl := y_below (n + 9) bV w2 (by omega)
        have hle0 := hle m hm0.1
        have hnl : ¬ V < pw G 0 m mc f := by grind
        rw [decide_eq_false hnl] at bl
        simp only [EV.T.bind, List.length_cons, List.length_nil, List.set_cons_succ, List.set_cons_zero, Nat.reduceAdd, Nat.reduceLT, if_true, ite_true, Option.bind_some]
        (rw [zz_cons]; simp -implicitDefEqProofs (disch := first | assumption | omega) [evalS, evalE, evalEs, evalL, evalI, evalC, EV.T.bind, wipe, MS.ok, M.seq_ret, line, isSub, ret_app, count_range, numbered_range, pairs_range, collect_N, collect_F, collect2_N, collect, zz_nil])
        (rw [zz_cons]; simp -implicitDefEqProofs (disch := first | assumption | omega) [evalS, evalE, evalEs, evalL, evalI, evalC, EV.T.bind, wipe, MS.ok, M.seq_ret, line, isSub, ret_app, count_range, numbered_range, pairs_range, collect_N, collect_F, collect2_N, collect, zz_nil, gP, w1, bl])
        exact Pst.ok (hP _ _ ⟨_, _, rfl, rfl, fun m' hm' => hm m' (by simp [hm'])⟩)
      · rintro r' S ⟨v7, v9, rfl, rfl, _⟩
        (rw [zz_cons]; simp -implicitDefEqProofs (disch := first | assumption | omega) [evalS, evalE, evalEs, evalL, evalI, evalC, EV.T.bind, wipe, MS.ok, M.seq_ret, line, isSub, ret_app, count_range, numbered_range, pairs_range, collect_N, collect_F, collect2_N, collect, zz_nil])
        exact Pst.ok (hQ _ (hb1.mono (by omega)))
   · -- player 1
    have h2' : mc.ok G.r G.c := h2
    have gP : getI (gD G) (.int 1) = M.ret (lI G.r G.c G.B) := rfl
    have g0 : getI (gD G) (.int 0) = M.ret (lI G.r G.c G.A) := rfl
    have wall : ∀ one : Mach, one.ok G.c G.r ∧ one.s ≤ 4 → callR (callF fs gl (n + 10) 85) [lI G.r G.c G.B, mD G.c mc, mD G.r one, .tup [.int 0, .int 0], fr f] = M.ret (fr (pw G 1 one mc f)) ∧ Bd 4000 (pw G 1 one mc f) := fun one h1 =>
      y_worth (n + 5) G.r G.c G.B hG.b mc one ⟨h2', h1.1⟩ (0, 0) h2'.s1 h1.1.s1 (Nat.mul_le_mul hs h1.2) hf
    have q1 : callR (callF fs gl (n + 10) 53) [oD G, .int 1, mD G.c mc, fr f] = M.ret (.tup [fr V, mD G.r A]) := e (n + 3)
    have q2 : callR (callF fs gl (n + 10) 86) [oD G, .int 1, mD G.r A] = M.ret (.bl true) := x_is_machine (n + 4) G hG A 1 (by omega) hA
    have wA := (wall A ⟨hA, hAs⟩).1
    rw [hV] at wA
    have s1 := y_same 6 (.tup [fr V, mD G.r A]) (by
      have a1 := sg_mD (n := 1) (o := G.r) hA (by first | exact c5 | exact r5)
      simp [a1]) (n + 4)
    intro Q hQ
    dsimp only [f90, start]
    (rw [zz_cons]; simp -implicitDefEqProofs (disch := first | assumption | omega) [evalS, evalE, evalEs, evalL, evalI, evalC, EV.T.bind, wipe, MS.ok, M.seq_ret, line, isSub, ret_app, count_range, numbered_range, pairs_range, collect_N, collect_F, collect2_N, collect, zz_nil, q1])
    (rw [zz_cons]; simp -implicitDefEqProofs (disch := first | assumption | omega) [evalS, evalE, evalEs, evalL, evalI, evalC, EV.T.bind, wipe, MS.ok, M.seq_ret, line, isSub, ret_app, count_range, numbered_range, pairs_range, collect_N, collect_F, collect2_N, collect, zz_nil, q2, hAl])
    (rw [zz_cons]; simp -implicitDefEqProofs (disch := first | assumption | omega) [evalS, evalE, evalEs, evalL, evalI, evalC, EV.T.bind, wipe, MS.ok, M.seq_ret, line, isSub, ret_app, count_range, numbered_range, pairs_range, collect_N, collect_F, collect2_N, collect, zz_nil, q1, s1])
    (rw [zz_cons]; simp -implicitDefEqProofs (disch := first | assumption | omega) [evalS, evalE, evalEs, evalL, evalI, evalC, EV.T.bind, wipe, MS.ok, M.seq_ret, line, isSub, ret_app, count_range, numbered_range, pairs_range, collect_N, collect_F, collect2_N, collect, zz_nil])
    (rw [zz_cons]; simp -implicitDefEqProofs (disch := first | assumption | omega) [evalS, evalE, evalEs, evalL, evalI, evalC, EV.T.bind, wipe, MS.ok, M.seq_ret, line, isSub, ret_app, count_range, numbered_range, pairs_range, collect_N, collect_F, collect2_N, collect, zz_nil, gP, wA])
    (rw [zz_cons]; simp -implicitDefEqProofs (disch := first | assumption | omega) [evalS, evalE, evalEs, evalL, evalI, evalC, EV.T.bind, wipe, MS.ok, M.seq_ret, line, isSub, ret_app, count_range, numbered_range, pairs_range, collect_N, collect_F, collect2_N, collect, zz_nil, g0])
    (rw [zz_cons]; simp -implicitDefEqProofs (disch := first | assumption | omega) [evalS, evalE, evalEs, evalL, evalI, evalC, EV.T.bind, wipe, MS.ok, M.seq_ret, line, isSub, ret_app, count_range, numbered_range, pairs_range, collect_N, collect_F, collect2_N, collect, zz_nil, EV.seq_assoc])
    refine pst_lift (Pm.seq (Pm.calm (Pm.colN (I := fun t S => ∃ o', S = [o'] ∧ Bok (c0 + 30 * t) o') (P := fun _ d => ∃ m : Mach, d = mD G.r m ∧ (m.ok G.c G.r ∧ m.s ≤ 4)) ⟨o, rfl, hob⟩ ?_ ?_)))
    · rintro t ht S ⟨o1, rfl, hb1⟩
      refine Pm.seq (pm_machine (n + 8) hb1 (by omega) (by omega) (by omega) (by omega) fun m o2 a1 a2 a3 => ?_)
      exact Pm.ret ⟨_, rfl, ⟨o2, rfl, a3.mono (by omega)⟩, m, rfl, a1, a2⟩
    · rintro F S ⟨o1, rfl, hb1⟩ hF
      obtain ⟨g, hg, hgo⟩ := map_choose (fun m : Mach => mD G.r m) (fun _ m => m.ok G.c G.r ∧ m.s ≤ 4) hF
      have hsum : op2 .add (ls G.c fun i => .tup [.tup [.int i, tb G.r fun _ => .int 0]]) (.fl ((List.range 4).map fun i => mD G.r (g i))) = M.ret (.fl ((((List.range G.c).map cM) ++ (List.range 4).map g).map (mD G.r))) := by
        have := add_ls G.c 4 (fun i => .tup [.tup [.int i, tb G.r fun _ => .int 0]]) (fun i => mD G.r (g i)) (by omega)
        rw [List.map_append, List.map_map, List.map_map]
        exact this
      have hms : ∀ m, m ∈ (List.range G.c).map cM ++ (List.range 4).map g → m.ok G.c G.r ∧ m.s ≤ 4 := by
        intro m hm
        rw [List.mem_append, List.mem_map, List.mem_map] at hm
        rcases hm with ⟨k, hk, rfl⟩ | ⟨k, hk, rfl⟩
        · exact ⟨cM_ok (List.mem_range.mp hk), by show 1 ≤ 4; omega⟩
        · exact hgo k (List.mem_range.mp hk)
      rw [hg, hsum]
      generalize (List.range G.c).map cM ++ (List.range 4).map g = ms at *
      refine Pm.ret ?_
      try simp -implicitDefEqProofs (disch := first | assumption | omega) [evalS, evalE, evalEs, evalL, evalI, evalC, EV.T.bind, wipe, MS.ok, M.seq_ret, line, isSub, ret_app, count_range, numbered_range, pairs_range, collect_N, collect_F, collect2_N, collect, zz_nil]
      (rw [zz_cons]; simp -implicitDefEqProofs (disch := first | assumption | omega) [evalS, evalE, evalEs, evalL, evalI, evalC, EV.T.bind, wipe, MS.ok, M.seq_ret, line, isSub, ret_app, count_range, numbered_range, pairs_range, collect_N, collect_F, collect2_N, collect, zz_nil])
      generalize hms0 : ms = ms0 at *
      refine lpM (I := fun ms r' S => ∃ v7 v9, r' = [some (.ref 0), some (gD G), some (oD G), some (.int 1), some (mD G.c mc), some (fr f), some (.tup [fr V, mD G.r A]), v7, some (.fl (ms0.map (mD G.r))), v9, some (.int G.c), some (.int G.r), none, none] ∧ S = [o1] ∧ ∀ m, m ∈ ms → m.ok G.c G.r ∧ m.s ≤ 4) ?_ ?_ ?_
      · exact ⟨_, _, rfl, rfl, hms⟩
      · rintro m ms r' S P ⟨v7, v9, rfl, rfl, hm⟩ hP _ _
        have hm0 := hm m (by simp)
        obtain ⟨w1, w2⟩ := wall m hm0
        have bl := y_below (n + 9) bV w2 (by omega)
        have hle0 := hle m hm0.1
        have hnl : ¬ V < pw G 1 m mc f := by grind
        rw [decide_eq_false hnl] at bl
        simp only [EV.T.bind, List.length_cons, List.length_nil, List.set_cons_succ, List.set_cons_zero, Nat.reduceAdd, Nat.reduceLT, if_true, ite_true, Option.bind_some]
        (rw [zz_cons]; simp -implicitDefEqProofs (disch := first | assumption | omega) [evalS, evalE, evalEs, evalL, evalI, evalC, EV.T.bind, wipe, MS.ok, M.seq_ret, line, isSub, ret_app, count_range, numbered_range, pairs_range, collect_N, collect_F, collect2_N, collect, zz_nil])
        (rw [zz_cons]; simp -implicitDefEqProofs (disch := first | assumption | omega) [evalS, evalE, evalEs, evalL, evalI, evalC, EV.T.bind, wipe, MS.ok, M.seq_ret, line, isSub, ret_app, count_range, numbered_range, pairs_range, collect_N, collect_F, collect2_N, collect, zz_nil, gP, w1, bl])
        exact Pst.ok (hP _ _ ⟨_, _, rfl, rfl, fun m' hm' => hm m' (by simp [hm'])⟩)
      · rintro r' S ⟨v7, v9, rfl, rfl, _⟩
        (rw [zz_cons]; simp -implicitDefEqProofs (disch := first | assumption | omega) [evalS, evalE, evalEs, evalL, evalI, evalC, EV.T.bind, wipe, MS.ok, M.seq_ret, line, isSub, ret_app, count_range, numbered_range, pairs_range, collect_N, collect_F, collect2_N, collect, zz_nil])
        exact Pst.ok (hQ _ (hb1.mono (by omega)))
  obtain ⟨f', S, e, o', hb, rfl, rfl⟩ := key (fun f S => ∃ o', Bok (c0 + 200) o' ∧ f = .rt (.bl true) ∧ S = [o']) (fun o' h => ⟨o', h, rfl, rfl⟩)
  refine ⟨o', [], hb, ?_⟩
  rw [callF, show fs[90]? = some f90 from rfl]
  show runF _ _ _ _ _ = _
  rw [runF_eq rfl, e]
end K87
end
section
set_option Elab.async false
set_option linter.all false
set_option maxRecDepth 100000
set_option maxHeartbeats 4000000
/-! k87, part I: the law. -/
namespace EW
open EV
theorem box_call {cf : List D → M D} {ds : List D} {T : Store} {o o' : O} {res : D} {q : Store} (ho : o.rf = true) (hd : D.rfs ds = true)
    (e : cf (.ref 0 :: ds) [o] = .ok res (o' :: q)) (ho' : o'.rf = true) (hr : res.rf = true) : callR cf (.ref T.length :: ds) (T ++ [o]) = .ok res (T ++ [o']) := by
  have := callR_box (i := T.length) (S := T ++ [o]) (by simp) ho hd e ho' hr
  rw [this]
  simp
end EW
namespace K87
open EV EW
theorem law_turn (is : List Int) (hl : is.length ≤ 63) (k : Nat) (hk : k < 4) (T : Store) (v2 v3 v4 v5 v6 v7 v8 v9 : Option D) (P : Fl → Store → Prop)
    (hP : ∀ v2 v3 v4 v5 v6 v7 v8 v9 S, P (.nx [some (.sl (is.map D.int)), some (.int k), v2, v3, v4, v5, v6, v7, v8, v9]) S) :
    Pst (evalSs (callF fs gl 11) gl (bodyF (headS f91.body)) [some (.sl (is.map D.int)), some (.int k), v2, v3, v4, v5, v6, v7, v8, v9] T) P := by
  obtain ⟨z, qz⟩ := x_cell 10 is hl k hk
  obtain ⟨o, hb, qb⟩ := c_box 10 z T
  dsimp only [f91, headS, bodyF]
  (rw [zz_cons]; simp -implicitDefEqProofs (disch := first | assumption | omega) [evalS, evalE, evalEs, evalL, evalI, evalC, EV.T.bind, wipe, MS.ok, M.seq_ret, line, isSub, ret_app, count_range, numbered_range, pairs_range, collect_N, collect_F, collect2_N, collect, zz_nil, qz])
  refine pst_lift (Pm.of qb ?_)
  simp -implicitDefEqProofs (disch := first | assumption | omega) [evalS, evalE, evalEs, evalL, evalI, evalC, EV.T.bind, wipe, MS.ok, M.seq_ret, line, isSub, ret_app, count_range, numbered_range, pairs_range, collect_N, collect_F, collect2_N, collect, zz_nil]
  (rw [zz_cons]; simp -implicitDefEqProofs (disch := first | assumption | omega) [evalS, evalE, evalEs, evalL, evalI, evalC, EV.T.bind, wipe, MS.ok, M.seq_ret, line, isSub, ret_app, count_range, numbered_range, pairs_range, collect_N, collect_F, collect2_N, collect, zz_nil, EV.seq_assoc])
  obtain ⟨v, o1, hv, hb1, e1⟩ := t_take 10 0 o hb (by omega) 5 (by omega) (by omega)
  refine pst_lift (Pm.seq (Pm.of (box_call hb.rf (by simp) e1 hb1.rf rfl) ?_))
  obtain ⟨most, hm1, hm4, hmost⟩ : ∃ most : Nat, 1 ≤ most ∧ most ≤ 4 ∧ getI (.fl [.int 2, .int 3, .int 2, .int 3, .int 4]) (.int v) = M.ret (.int most) := by
    have : v = 0 ∨ v = 1 ∨ v = 2 ∨ v = 3 ∨ v = 4 := by omega
    rcases this with rfl | rfl | rfl | rfl | rfl
    · exact ⟨2, by omega, by omega, rfl⟩
    · exact ⟨3, by omega, by omega, rfl⟩
    · exact ⟨2, by omega, by omega, rfl⟩
    · exact ⟨3, by omega, by omega, rfl⟩
    · exact ⟨4, by omega, by omega, rfl⟩
  rw [hmost]
  simp only [M.seq_ret]
  obtain ⟨G, o2, q2, hG, hr4, hc4, hb2, e2⟩ := t_game 8 1 o1 hb1 (by omega) most hm1 hm4
  refine Pm.of (box_call hb1.rf (by simp) e2 hb2.rf (by simp)) ?_
  try simp -implicitDefEqProofs (disch := first | assumption | omega) [evalS, evalE, evalEs, evalL, evalI, evalC, EV.T.bind, wipe, MS.ok, M.seq_ret, line, isSub, ret_app, count_range, numbered_range, pairs_range, collect_N, collect_F, collect2_N, collect, zz_nil]
  have r1 := hG.r1
  have r5 := hG.r5
  have c1 := hG.c1
  have c5 := hG.c5
  have gA : getI (gD G) (.int 0) = M.ret (lI G.r G.c G.A) := rfl
  have qm := x_make 6 G hG
  obtain ⟨f, o3, hf, hb3, e3⟩ := t_factor 8 _ o2 hb2 (by omega)
  (rw [zz_cons]; simp -implicitDefEqProofs (disch := first | assumption | omega) [evalS, evalE, evalEs, evalL, evalI, evalC, EV.T.bind, wipe, MS.ok, M.seq_ret, line, isSub, ret_app, count_range, numbered_range, pairs_range, collect_N, collect_F, collect2_N, collect, zz_nil, qm, EV.seq_assoc])
  refine pst_lift (Pm.seq (Pm.of (box_call (ds := []) hb2.rf rfl e3 hb3.rf (by simp)) (Pm.ret ?_)))
  try simp -implicitDefEqProofs (disch := first | assumption | omega) [evalS, evalE, evalEs, evalL, evalI, evalC, EV.T.bind, wipe, MS.ok, M.seq_ret, line, isSub, ret_app, count_range, numbered_range, pairs_range, collect_N, collect_F, collect2_N, collect, zz_nil]
  (rw [zz_cons]; simp -implicitDefEqProofs (disch := first | assumption | omega) [evalS, evalE, evalEs, evalL, evalI, evalC, EV.T.bind, wipe, MS.ok, M.seq_ret, line, isSub, ret_app, count_range, numbered_range, pairs_range, collect_N, collect_F, collect2_N, collect, zz_nil, gA])
  obtain ⟨m1, o4, q4, k1, s1, hb4, e4⟩ := t_machine 9 _ o3 hb3 (by omega) G.r G.c (by omega) (by omega) (by omega)
  obtain ⟨m2, o5, q5, k2, s2, hb5, e5⟩ := t_machine 9 _ o4 hb4 (by omega) G.c G.r (by omega) (by omega) (by omega)
  have two : Two G.r G.c m1 m2 := ⟨k1, k2⟩
  (rw [zz_cons]; simp -implicitDefEqProofs (disch := first | assumption | omega) [evalS, evalE, evalEs, evalL, evalI, evalC, EV.T.bind, wipe, MS.ok, M.seq_ret, line, isSub, ret_app, count_range, numbered_range, pairs_range, collect_N, collect_F, collect2_N, collect, zz_nil, EV.seq_assoc])
  refine pst_lift (Pm.seq (Pm.of (box_call hb3.rf (by simp) e4 hb4.rf (by simp)) ?_))
  refine Pm.seq (Pm.of (box_call hb4.rf (by simp) e5 hb5.rf (by simp)) (Pm.ret ?_))
  try simp -implicitDefEqProofs (disch := first | assumption | omega) [evalS, evalE, evalEs, evalL, evalI, evalC, EV.T.bind, wipe, MS.ok, M.seq_ret, line, isSub, ret_app, count_range, numbered_range, pairs_range, collect_N, collect_F, collect2_N, collect, zz_nil]
  obtain ⟨o6, q6, hb6, e6⟩ := t_plays 1 _ o5 hb5 (by omega) G hG m1 m2 two s1 s2 hf
  have qs := x_step_right 2 G hG m1 m2 two s1 s2 hf
  (rw [zz_cons]; simp -implicitDefEqProofs (disch := first | assumption | omega) [evalS, evalE, evalEs, evalL, evalI, evalC, EV.T.bind, wipe, MS.ok, M.seq_ret, line, isSub, ret_app, count_range, numbered_range, pairs_range, collect_N, collect_F, collect2_N, collect, zz_nil, EV.seq_assoc])
  refine pst_lift (Pm.seq (Pm.of (box_call hb5.rf (by simp) e6 hb6.rf rfl) ?_))
  simp -implicitDefEqProofs (disch := first | assumption | omega) [evalS, evalE, evalEs, evalL, evalI, evalC, EV.T.bind, wipe, MS.ok, M.seq_ret, line, isSub, ret_app, count_range, numbered_range, pairs_range, collect_N, collect_F, collect2_N, collect, zz_nil, qs]
  refine Pm.ret ?_
  try simp -implicitDefEqProofs (disch := first | assumption | omega) [evalS, evalE, evalEs, evalL, evalI, evalC, EV.T.bind, wipe, MS.ok, M.seq_ret, line, isSub, ret_app, count_range, numbered_range, pairs_range, collect_N, collect_F, collect2_N, collect, zz_nil]
  obtain ⟨o7, q7, hb7, e7⟩ := t_answer 0 _ o6 hb6 (by omega) G hG 0 (.inl rfl) m2 k2 s2 hf
  obtain ⟨o8, q8, hb8, e8⟩ := t_answer 0 _ o7 hb7 (by omega) G hG 1 (.inr rfl) m1 k1 s1 hf
  (rw [zz_cons]; simp -implicitDefEqProofs (disch := first | assumption | omega) [evalS, evalE, evalEs, evalL, evalI, evalC, EV.T.bind, wipe, MS.ok, M.seq_ret, line, isSub, ret_app, count_range, numbered_range, pairs_range, collect_N, collect_F, collect2_N, collect, zz_nil, EV.seq_assoc])
  refine pst_lift (Pm.seq (Pm.of (box_call hb6.rf (by simp) e7 hb7.rf rfl) ?_))
  try simp -implicitDefEqProofs (disch := first | assumption | omega) [evalS, evalE, evalEs, evalL, evalI, evalC, EV.T.bind, wipe, MS.ok, M.seq_ret, line, isSub, ret_app, count_range, numbered_range, pairs_range, collect_N, collect_F, collect2_N, collect, zz_nil, EV.seq_assoc]
  refine Pm.seq (Pm.of (box_call hb7.rf (by simp) e8 hb8.rf rfl) ?_)
  simp -implicitDefEqProofs (disch := first | assumption | omega) [evalS, evalE, evalEs, evalL, evalI, evalC, EV.T.bind, wipe, MS.ok, M.seq_ret, line, isSub, ret_app, count_range, numbered_range, pairs_range, collect_N, collect_F, collect2_N, collect, zz_nil]
  refine Pm.ret ?_
  try simp -implicitDefEqProofs (disch := first | assumption | omega) [evalS, evalE, evalEs, evalL, evalI, evalC, EV.T.bind, wipe, MS.ok, M.seq_ret, line, isSub, ret_app, count_range, numbered_range, pairs_range, collect_N, collect_F, collect2_N, collect, zz_nil]
  obtain ⟨f2, o9, hf2, hb9, e9⟩ := t_factor 8 _ o8 hb8 (by omega)
  obtain ⟨o10, q10, hb10, e10⟩ := t_single 0 _ o9 hb9 (by omega) G hG hf2
  (rw [zz_cons]; simp -implicitDefEqProofs (disch := first | assumption | omega) [evalS, evalE, evalEs, evalL, evalI, evalC, EV.T.bind, wipe, MS.ok, M.seq_ret, line, isSub, ret_app, count_range, numbered_range, pairs_range, collect_N, collect_F, collect2_N, collect, zz_nil, EV.seq_assoc])
  refine pst_lift (Pm.seq (Pm.of (box_call (ds := []) hb8.rf rfl e9 hb9.rf (by simp)) ?_))
  try simp -implicitDefEqProofs (disch := first | assumption | omega) [evalS, evalE, evalEs, evalL, evalI, evalC, EV.T.bind, wipe, MS.ok, M.seq_ret, line, isSub, ret_app, count_range, numbered_range, pairs_range, collect_N, collect_F, collect2_N, collect, zz_nil, EV.seq_assoc]
  refine Pm.seq (Pm.of (box_call hb9.rf (by simp) e10 hb10.rf rfl) ?_)
  simp -implicitDefEqProofs (disch := first | assumption | omega) [evalS, evalE, evalEs, evalL, evalI, evalC, EV.T.bind, wipe, MS.ok, M.seq_ret, line, isSub, ret_app, count_range, numbered_range, pairs_range, collect_N, collect_F, collect2_N, collect, zz_nil]
  refine Pm.ret ?_
  try simp -implicitDefEqProofs (disch := first | assumption | omega) [evalS, evalE, evalEs, evalL, evalI, evalC, EV.T.bind, wipe, MS.ok, M.seq_ret, line, isSub, ret_app, count_range, numbered_range, pairs_range, collect_N, collect_F, collect2_N, collect, zz_nil]
  exact Pst.ok (hP _ _ _ _ _ _ _ _ _)
theorem law_runs (is : List Int) (hl : is.length ≤ 63) : ∃ S, callF fs gl 12 91 [.sl (is.map D.int)] [] = .ok (.bl true) S := by
  have hlen : bi .len [.sl (is.map D.int)] = M.ret (.int is.length) := by
    show M.ret _ = _
    simp
  obtain ⟨m, hm, hm4⟩ : ∃ m : Nat, (if (if (is.length : Int) < 4 then (is.length : Int) else 4) > 2 then (if (is.length : Int) < 4 then (is.length : Int) else 4) else 2) = m ∧ m ≤ 4 := by
    generalize (is.length : Int) = L
    refine ⟨(if (if L < 4 then L else 4) > 2 then (if L < 4 then L else 4) else 2).toNat, ?_, ?_⟩
    · split <;> split at * <;> omega
    · split <;> split at * <;> omega
  have key : Pst (evalSs (callF fs gl 11) gl f91.body (start f91.ns [.sl (is.map D.int)]) []) fun f S => f = .rt (.bl true) := by
    have ht : f91.body = .cons (.for_ (.name 1) (.rng (.bi .max2 (.cons (.int 2) (.cons (.bi .min2 (.cons (.int 4) (.cons (.bi .len (.cons (.var 0) .nil)) .nil))) .nil)))) (bodyF (headS f91.body))) (tailS 1 f91.body) := rfl
    have hns : f91.ns = 10 := rfl
    rw [ht, hns]
    dsimp only [start]
    have hm' := hm
    simp only [gt_iff_lt] at hm'
    (rw [zz_cons]; simp -implicitDefEqProofs (disch := first | assumption | omega) [evalS, evalE, evalEs, evalL, evalI, evalC, EV.T.bind, wipe, MS.ok, M.seq_ret, line, isSub, ret_app, count_range, numbered_range, pairs_range, collect_N, collect_F, collect2_N, collect, zz_nil, hlen, hm'])
    refine lpN (I := fun i r S => ∃ v1 v2 v3 v4 v5 v6 v7 v8 v9, r = [some (.sl (is.map D.int)), v1, v2, v3, v4, v5, v6, v7, v8, v9]) ?_ ?_ ?_
    · exact ⟨_, _, _, _, _, _, _, _, _, rfl⟩
    · rintro k hk r S P ⟨v1, v2, v3, v4, v5, v6, v7, v8, v9, rfl⟩ hP _ _
      simp only [EV.T.bind, List.length_cons, List.length_nil, List.set_cons_succ, List.set_cons_zero, Nat.reduceAdd, Nat.reduceLT, if_true, ite_true, Option.bind_some]
      exact law_turn is hl k (by omega) S v2 v3 v4 v5 v6 v7 v8 v9 P fun v2 v3 v4 v5 v6 v7 v8 v9 S => hP _ _ ⟨_, _, _, _, _, _, _, _, _, rfl⟩
    · rintro r S ⟨v1, v2, v3, v4, v5, v6, v7, v8, v9, rfl⟩
      dsimp only [f91, tailS]
      (rw [zz_cons]; simp -implicitDefEqProofs (disch := first | assumption | omega) [evalS, evalE, evalEs, evalL, evalI, evalC, EV.T.bind, wipe, MS.ok, M.seq_ret, line, isSub, ret_app, count_range, numbered_range, pairs_range, collect_N, collect_F, collect2_N, collect, zz_nil])
      exact Pst.ok rfl
  obtain ⟨f, S, e, rfl⟩ := key
  refine ⟨S, ?_⟩
  rw [callF, show fs[91]? = some f91 from rfl]
  show runF _ _ _ _ _ = _
  rw [runF_eq rfl, e]
end K87
end
theorem PySem.Challenge.cw_strategybench_k87_whole_repeated_games_a_holds : PySem.Challenge.rw_strategybench_k87_whole_repeated_games_a.Holds :=
  holds_of (lv := 12) ⟨rfl, by decide, by decide⟩ K87.law_runs
